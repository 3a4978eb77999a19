import PyProof.Rows.All
import Wide.All
import OpenK.AllK
import Wide.FinOn
import HandS.ForMost
import KE.DataCmp
import KE.DataEq
import KE.DataMinMax
import KE.SortData
import HandS.IsInst
import HandS.Style
import HandS.Wide
import HandS.TupAny
import HandS.SortKw
import HandS.Zip
import PySem.Challenge.RW_leastplans_k35_possible_truths
set_option Elab.async false
set_option linter.all false
set_option maxRecDepth 100000
set_option maxHeartbeats 4000000
namespace DL
open PySem PySem.Spec PyProof.Rows L2
abbrev D := PyData
abbrev Foot := Addr → Prop
def Ex (H H' : Hp) : Prop := ∀ a o, H a = some o → H' a = some o
theorem Ex.refl (H : Hp) : Ex H H := fun _ _ h => h
theorem Ex.trans {H H1 H2 : Hp} (a : Ex H H1) (b : Ex H1 H2) : Ex H H2 := fun x o h => b x o (a x o h)
theorem Ex.new {H : Hp} {p : Addr} {o : HO} (h : H p = none) : Ex H (upd H p o) := fun a u e => by
  rw [upd_ne (ne_of_none e h)]
  exact e
theorem Ex.none {H H' : Hp} (e : Ex H H') {p : Addr} (h : H' p = none) : H p = none := by
  cases h1 : H p with
  | none => rfl
  | some o =>
    rw [e p o h1] at h
    cases h
theorem Ex.rd {H H' : Hp} {a : Addr} {u : HO} (e : Ex H H') (h : Rd H a u) : Rd H' a u := by
  rcases h with h | ⟨o, h⟩
  · exact Or.inl (e a _ h)
  · exact Or.inr ⟨o, e a _ h⟩
theorem Ex.sl {K : PySem.W.Frag} {H H' : Hp} {a : Addr} {xs : List V} (e : Ex H H') (h : SqL K H a xs) : SqL K H' a xs := by
  rcases h with h | h
  · exact Or.inl (e.rd h)
  · exact Or.inr h
theorem Ex.st {K : PySem.W.Frag} {H H' : Hp} {a : Addr} {xs : List V} (e : Ex H H') (h : SqT K H a xs) : SqT K H' a xs := by
  rcases h with h | h
  · exact Or.inl (e.rd h)
  · exact Or.inr h
mutual
theorem dp_mono {K : PySem.W.Frag} {H H' : Hp} (e : Ex H H') : ∀ {v : V} {d : D}, Dp K H v d → Dp K H' v d
  | _, _, .non => .non
  | _, _, .bl b => .bl b
  | _, _, .int i => .int i
  | _, _, .str x => .str x
  | _, _, .lst h a => .lst (e.sl h) (dpAll_mono e a)
  | _, _, .tup h a => .tup (e.st h) (dpAll_mono e a)
theorem dpAll_mono {K : PySem.W.Frag} {H H' : Hp} (e : Ex H H') : ∀ {vs : List V} {ds : List D}, DpAll K H vs ds → DpAll K H' vs ds
  | _, _, .nil => .nil
  | _, _, .cons h t => .cons (dp_mono e h) (dpAll_mono e t)
end
theorem dpAll_len {K : PySem.W.Frag} {H : Hp} : ∀ {vs : List V} {ds : List D}, DpAll K H vs ds → vs.length = ds.length
  | _, _, .nil => rfl
  | _, _, .cons _ t => congrArg (· + 1) (dpAll_len t)
theorem dpAll_get {K : PySem.W.Frag} {H : Hp} : ∀ {vs : List V} {ds : List D} {i : Nat} {d : D}, DpAll K H vs ds → ds[i]? = some d → ∃ v, vs[i]? = some v ∧ Dp K H v d
  | _, _, _, _, .nil, h => by simp at h
  | _, _, 0, _, .cons r _, h => by
    simp at h
    subst h
    exact ⟨_, rfl, r⟩
  | _, _, i + 1, _, .cons _ t, h => by
    obtain ⟨v, e, r⟩ := dpAll_get (i := i) t (by simpa using h)
    exact ⟨v, by simpa using e, r⟩
theorem dpAll_app {K : PySem.W.Frag} {H : Hp} : ∀ {vs ws : List V} {ds es : List D}, DpAll K H vs ds → DpAll K H ws es → DpAll K H (vs ++ ws) (ds ++ es)
  | _, _, _, _, .nil, h => h
  | _, _, _, _, .cons r t, h => .cons r (dpAll_app t h)
theorem dpAll_take {K : PySem.W.Frag} {H : Hp} : ∀ (n : Nat) {vs : List V} {ds : List D}, DpAll K H vs ds → DpAll K H (vs.take n) (ds.take n)
  | 0, _, _, _ => .nil
  | _ + 1, _, _, .nil => .nil
  | n + 1, _, _, .cons r t => .cons r (dpAll_take n t)
theorem dpAll_drop {K : PySem.W.Frag} {H : Hp} : ∀ (n : Nat) {vs : List V} {ds : List D}, DpAll K H vs ds → DpAll K H (vs.drop n) (ds.drop n)
  | 0, _, _, h => h
  | _ + 1, _, _, .nil => .nil
  | n + 1, _, _, .cons _ t => dpAll_drop n t
theorem dpAll_rev {K : PySem.W.Frag} {H : Hp} : ∀ {vs : List V} {ds : List D}, DpAll K H vs ds → DpAll K H vs.reverse ds.reverse
  | _, _, .nil => .nil
  | _, _, .cons r t => by
    rw [List.reverse_cons, List.reverse_cons]
    exact dpAll_app (dpAll_rev t) (.cons r .nil)
theorem dpAll_set {K : PySem.W.Frag} {H : Hp} {v : V} {d : D} (r : Dp K H v d) : ∀ (n : Nat) {vs : List V} {ds : List D}, DpAll K H vs ds → DpAll K H (vs.set n v) (ds.set n d)
  | _, _, _, .nil => .nil
  | 0, _, _, .cons _ t => .cons r t
  | n + 1, _, _, .cons q t => .cons q (dpAll_set r n t)
theorem dpAll_mem {K : PySem.W.Frag} {H : Hp} {vs : List V} {ds : List D} (h : DpAll K H vs ds) {v : V} (hv : v ∈ vs) : ∃ d, d ∈ ds ∧ Dp K H v d := by
  induction vs generalizing ds with
  | nil => simp at hv
  | cons x xs ih =>
    cases h with
    | cons r t =>
      rcases List.mem_cons.mp hv with rfl | hv
      · exact ⟨_, List.mem_cons_self, r⟩
      · obtain ⟨d, h1, h2⟩ := ih t hv
        exact ⟨d, List.mem_cons_of_mem _ h1, h2⟩
def NewT (B : Hp) (b : Addr) : Prop := B b = none ∨ ∃ xs, B b = some (.tup xs)
theorem NewT.back {B B' : Hp} (e : Ex B B') {b : Addr} (h : NewT B' b) : NewT B b := by
  rcases h with h | ⟨xs, h⟩
  · exact .inl (e.none h)
  · cases h2 : B b with
    | none => exact .inl h2
    | some o =>
      have := e b o h2
      rw [h] at this
      cases this
      exact .inr ⟨xs, h2⟩
structure OD where
  rep : PySem.W.Frag → Hp → Hp → Addr → Foot → Prop
  nt : ∀ {K : PySem.W.Frag} {Hs H : Hp} {p : Addr} {fp : Foot}, rep K Hs H p fp → ∀ b xs, fp b → H b ≠ some (.tup xs)
  mono : ∀ {K : PySem.W.Frag} {Hs H : Hp} {p : Addr} {fp : Foot} {Hs' H' : Hp}, rep K Hs H p fp → Ex Hs Hs' → (∀ b o, fp b → H b = some o → H' b = some o) → rep K Hs' H' p fp
def OD.lst (xs : List D) : OD where
  rep := fun K Hs H p fp => (∀ b, fp b ↔ b = p) ∧ ∃ vs, H p = some (.lst vs) ∧ DpAll K Hs vs xs
  nt := fun ⟨h1, vs, h2, _⟩ b xs hb z => by
    rw [(h1 b).mp hb, h2] at z
    cases z
  mono := fun ⟨h1, vs, h2, h3⟩ e k => ⟨h1, vs, k _ _ ((h1 _).mpr rfl) h2, dpAll_mono e h3⟩
structure AP where
  P : PySem.W.Frag → Hp → HO → Prop
  nt : ∀ {K : PySem.W.Frag} {Hs : Hp} {o : HO}, P K Hs o → ∀ xs, o ≠ .tup xs
  mono : ∀ {K : PySem.W.Frag} {Hs Hs' : Hp} {o : HO}, P K Hs o → Ex Hs Hs' → P K Hs' o
def OD.one (a : AP) : OD where
  rep := fun K Hs H p fp => (∀ b, fp b ↔ b = p) ∧ ∃ o, H p = some o ∧ a.P K Hs o
  nt := fun ⟨h1, o, h2, h3⟩ b xs hb z => by
    rw [(h1 b).mp hb, h2] at z
    exact a.nt h3 xs (Option.some.inj z)
  mono := fun ⟨h1, o, h2, h3⟩ e k => ⟨h1, o, k _ _ ((h1 _).mpr rfl) h2, a.mono h3 e⟩
inductive SD where
  | un
  | dt (d : D)
  | ow (p : Addr) (o : OD)
abbrev Dl := List SD
def SRep (K : PySem.W.Frag) (B Hs H : Hp) (fp : Foot) : Option V → SD → Prop
  | _, .un => ∀ b, ¬ fp b
  | some v, .dt d => Dp K Hs v d ∧ ∀ b, ¬ fp b
  | some v, .ow p o => (v = .ref p ∧ o.rep K Hs H p fp) ∧ ∀ b, fp b → Hs b = none ∧ B b = none ∧ H b ≠ none
  | none, .dt _ => False
  | none, .ow _ _ => False
structure Fps (K : PySem.W.Frag) (B Hs H : Hp) (σ : List (Option V)) (δ : Dl) (fps : Nat → Foot) : Prop where
  sl : ∀ i s, δ[i]? = some s → ∃ x, σ[i]? = some x ∧ SRep K B Hs H (fps i) x s
  out : ∀ i, δ.length ≤ i → ∀ b, ¬ fps i b
  dj : ∀ i j b, fps i b → fps j b → i = j
structure Rep (K : PySem.W.Frag) (B H0 : Hp) (σ : L2.St) (δ : Dl) (H Hs : Hp) : Prop where
  len : σ.length = δ.length
  ex : Ex Hs H
  base : Ex B H
  frz : Ex H0 Hs
  frs : ∀ b, Hs b ≠ none → H0 b = none → NewT B b
  sl : ∃ fps, Fps K B Hs H σ δ fps
structure PExt (Hs H Hs' H' : Hp) : Prop where
  s : Ex Hs Hs'
  h : Ex H H'
  i : Ex Hs' H'
  n : ∀ b, Hs' b ≠ none → Hs b = none → NewT H b
theorem PExt.refl {Hs H : Hp} (e : Ex Hs H) : PExt Hs H Hs H := ⟨Ex.refl _, Ex.refl _, e, fun _ h1 h2 => absurd h2 h1⟩
theorem PExt.trans {Hs H Hs1 H1 Hs2 H2 : Hp} (a : PExt Hs H Hs1 H1) (b : PExt Hs1 H1 Hs2 H2) : PExt Hs H Hs2 H2 where
  s := a.s.trans b.s
  h := a.h.trans b.h
  i := b.i
  n := fun x h1 h2 => by
    cases h3 : Hs1 x with
    | none => exact (b.n x h1 h3).back a.h
    | some o => exact a.n x (by rw [h3]; exact fun z => nomatch z) h2
theorem PExt.new {Hs H : Hp} (e : Ex Hs H) {p : Addr} (o : HO) (h : H p = none) : PExt Hs H (upd Hs p o) (upd H p o) where
  s := Ex.new (e.none h)
  h := Ex.new h
  i := fun a u q => by
    by_cases ha : a = p
    · subst ha
      rw [upd_same] at q ⊢
      exact q
    · rw [upd_ne ha] at q ⊢
      exact e a u q
  n := fun b h1 h2 => by
    by_cases ha : b = p
    · subst ha
      exact .inl h
    · rw [upd_ne ha] at h1
      exact absurd h2 h1
theorem PExt.raw {Hs H : Hp} (e : Ex Hs H) {p : Addr} (o : HO) (h : H p = none) : PExt Hs H Hs (upd H p o) where
  s := Ex.refl _
  h := Ex.new h
  i := e.trans (Ex.new h)
  n := fun b h1 h2 => absurd h2 h1
section
variable {K : PySem.W.Frag} {B H0 Hs H Hs' H' : Hp} {σ : L2.St} {δ : Dl} {fp : Foot} {x : Option V} {s : SD}
theorem SRep.mono (h : SRep K B Hs H fp x s) (e : Ex Hs Hs') (k : ∀ b o, fp b → H b = some o → H' b = some o) (n : ∀ b, fp b → H b ≠ none → (∀ xs, H b ≠ some (.tup xs)) → Hs b = none → B b = none → Hs' b = none) : SRep K B Hs' H' fp x s := by
  cases s with
  | un => exact h
  | dt d =>
    cases x with
    | none => exact h
    | some v => exact ⟨dp_mono e h.1, h.2⟩
  | ow p o =>
    cases x with
    | none => exact h
    | some v =>
      obtain ⟨⟨e1, r⟩, q⟩ := h
      refine ⟨⟨e1, o.mono r e k⟩, fun b hb => ?_⟩
      obtain ⟨q1, q2, q3⟩ := q b hb
      refine ⟨n b hb q3 (fun xs => o.nt r b xs hb) q1 q2, q2, fun z => ?_⟩
      cases h1 : H b with
      | none => exact q3 h1
      | some o =>
        rw [k b o hb h1] at z
        cases z
theorem Rep.ext (R : Rep K B H0 σ δ H Hs) (e : PExt Hs H Hs' H') : Rep K B H0 σ δ H' Hs' where
  len := R.len
  ex := e.i
  base := R.base.trans e.h
  frz := R.frz.trans e.s
  frs := fun b h1 h2 => by
    cases h3 : Hs b with
    | none => exact (e.n b h1 h3).back R.base
    | some o => exact R.frs b (by rw [h3]; exact fun z => nomatch z) h2
  sl := by
    obtain ⟨fps, F⟩ := R.sl
    refine ⟨fps, fun i s hs => ?_, F.out, F.dj⟩
    obtain ⟨x, e1, r⟩ := F.sl i s hs
    refine ⟨x, e1, r.mono e.s (fun b o _ h => e.h b o h) fun b _ h1 hn h2 h3 => ?_⟩
    cases h4 : Hs' b with
    | none => rfl
    | some o =>
      rcases e.n b (by rw [h4]; exact fun z => nomatch z) h2 with z | ⟨xs, z⟩
      · exact absurd z h1
      · exact absurd z (hn xs)
theorem Rep.get (R : Rep K B H0 σ δ H Hs) {i : Nat} {d : D} (h : δ[i]? = some (.dt d)) : ∃ v, σ[i]? = some (some v) ∧ Dp K Hs v d := by
  obtain ⟨fps, F⟩ := R.sl
  obtain ⟨x, e, r⟩ := F.sl i _ h
  cases x with
  | none => exact r.elim
  | some v => exact ⟨v, e, r.1⟩
theorem Rep.set (R : Rep K B H0 σ δ H Hs) {v : V} {d : D} (r : Dp K Hs v d) (i : Nat) : Rep K B H0 (σ.set i (some v)) (δ.set i (.dt d)) H Hs where
  len := by rw [List.length_set, List.length_set, R.len]
  ex := R.ex
  base := R.base
  frz := R.frz
  frs := R.frs
  sl := by
    obtain ⟨fps, F⟩ := R.sl
    refine ⟨fun j b => j ≠ i ∧ fps j b, fun j s hs => ?_, fun j hj b hb => F.out j (by rw [List.length_set] at hj; exact hj) b hb.2, fun j k b h1 h2 => F.dj j k b h1.2 h2.2⟩
    by_cases hj : i = j
    · subst hj
      have hl : i < δ.length := by
        have := (List.getElem?_eq_some_iff.mp hs).1
        rw [List.length_set] at this
        exact this
      rw [List.getElem?_set_self hl] at hs
      cases hs
      exact ⟨some v, List.getElem?_set_self (by rw [R.len]; exact hl), r, fun b hb => hb.1 rfl⟩
    · rw [List.getElem?_set_ne hj] at hs
      obtain ⟨x, e, q⟩ := F.sl j s hs
      refine ⟨x, by rw [List.getElem?_set_ne hj]; exact e, ?_⟩
      have : (fun b => j ≠ i ∧ fps j b) = fps j := funext fun b => propext ⟨fun z => z.2, fun z => ⟨fun z => hj z.symm, z⟩⟩
      rw [this]
      exact q
theorem Rep.setO (R : Rep K B H0 σ δ H Hs) {fps : Nat → Foot} (F : Fps K B Hs H σ δ fps) {p : Addr} {o : OD} {fp : Foot} {i : Nat} (r : o.rep K Hs H p fp) (hf : ∀ b, fp b → Hs b = none ∧ B b = none ∧ H b ≠ none) (hd : ∀ j b, j ≠ i → fps j b → ¬ fp b) (hi : i < δ.length) :
    Rep K B H0 (σ.set i (some (.ref p))) (δ.set i (.ow p o)) H Hs where
  len := by rw [List.length_set, List.length_set, R.len]
  ex := R.ex
  base := R.base
  frz := R.frz
  frs := R.frs
  sl := by
    refine ⟨fun j => if j = i then fp else fps j, fun j s hs => ?_, fun j hj b hb => ?_, fun j k b h1 h2 => ?_⟩
    · by_cases hj : i = j
      · subst hj
        rw [List.getElem?_set_self hi] at hs
        cases hs
        rw [if_pos rfl]
        exact ⟨some (.ref p), List.getElem?_set_self (by rw [R.len]; exact hi), ⟨rfl, r⟩, hf⟩
      · rw [List.getElem?_set_ne hj] at hs
        obtain ⟨x, e, q⟩ := F.sl j s hs
        rw [if_neg (fun z => hj z.symm)]
        exact ⟨x, by rw [List.getElem?_set_ne hj]; exact e, q⟩
    · rw [List.length_set] at hj
      have : j ≠ i := by omega
      simp only [if_neg this] at hb
      exact F.out j hj b hb
    · by_cases e1 : j = i
      · by_cases e2 : k = i
        · rw [e1, e2]
        · simp only [if_pos e1] at h1
          simp only [if_neg e2] at h2
          exact absurd h1 (hd k b e2 h2)
      · by_cases e2 : k = i
        · simp only [if_neg e1] at h1
          simp only [if_pos e2] at h2
          exact absurd h2 (hd j b e1 h1)
        · simp only [if_neg e1] at h1
          simp only [if_neg e2] at h2
          exact F.dj j k b h1 h2
end
end DL
namespace DL
open PySem PySem.Spec PyProof.Rows L2
section
variable {K : PySem.W.Frag} {B H0 Hs H : Hp} {σ : L2.St} {δ : Dl} {p : Addr} {o o' : HO}
theorem Rep.hs_none (R : Rep K (upd B p o) H0 σ δ H Hs) (h0 : H0 p = none) (no : ∀ xs, o ≠ .tup xs := by intro _ z; cases z) : Hs p = none := by
  cases h : Hs p with
  | none => rfl
  | some u =>
    rcases R.frs p (by rw [h]; exact fun z => nomatch z) h0 with z | ⟨xs, z⟩
    · rw [upd_same] at z
      cases z
    · rw [upd_same] at z
      exact absurd (Option.some.inj z) (no xs)
theorem Rep.at_p (R : Rep K (upd B p o) H0 σ δ H Hs) : H p = some o := R.base p o upd_same
theorem Fps.not_p {fps : Nat → Foot} (F : Fps K (upd B p o) Hs H σ δ fps) (i : Nat) : ¬ fps i p := fun hb => by
  by_cases hi : i < δ.length
  · obtain ⟨x, e, r⟩ := F.sl i δ[i] (List.getElem?_eq_getElem hi)
    cases hs : δ[i] with
    | un =>
      rw [hs] at r
      exact r p hb
    | dt d =>
      rw [hs] at r
      cases x with
      | none => exact r
      | some v => exact r.2 p hb
    | ow a0 q =>
      rw [hs] at r
      cases x with
      | none => exact r
      | some v =>
        have z := (r.2 p hb).2.1
        rw [upd_same] at z
        cases z
  · exact F.out i (by omega) p hb
theorem ex_upd_B (h : B p = none) : Ex B (upd B p o) := Ex.new h
theorem SRep.base {B' : Hp} {fp : Foot} {x : Option V} {s : SD} (h : SRep K B Hs H fp x s) (e : Ex B' B) : SRep K B' Hs H fp x s := by
  cases s with
  | un => exact h
  | dt d =>
    cases x with
    | none => exact h
    | some v => exact h
  | ow a0 q =>
    cases x with
    | none => exact h
    | some v => exact ⟨h.1, fun b hb => ⟨(h.2 b hb).1, e.none (h.2 b hb).2.1, (h.2 b hb).2.2⟩⟩
theorem Rep.weaken {B' : Hp} (R : Rep K B H0 σ δ H Hs) (e : Ex B' B) : Rep K B' H0 σ δ H Hs where
  len := R.len
  ex := R.ex
  base := e.trans R.base
  frz := R.frz
  frs := fun b h1 h2 => (R.frs b h1 h2).back e
  sl := by
    obtain ⟨fps, F⟩ := R.sl
    exact ⟨fps, fun i s hs => by
      obtain ⟨x, e1, r⟩ := F.sl i s hs
      exact ⟨x, e1, r.base e⟩, F.out, F.dj⟩
theorem Rep.hide (R : Rep K B H0 σ δ H Hs) (hp : H p = none) : Rep K (upd B p o) H0 σ δ (upd H p o) Hs where
  len := R.len
  ex := R.ex.trans (Ex.new hp)
  base := fun a u q => by
    by_cases ha : a = p
    · subst ha
      rw [upd_same] at q ⊢
      exact q
    · rw [upd_ne ha] at q ⊢
      exact R.base a u q
  frz := R.frz
  frs := fun b h1 h2 => by
    have hb : b ≠ p := fun z => by
      subst z
      exact h1 (R.ex.none hp)
    unfold NewT
    rw [upd_ne hb]
    exact R.frs b h1 h2
  sl := by
    obtain ⟨fps, F⟩ := R.sl
    refine ⟨fps, fun i s hs => ?_, F.out, F.dj⟩
    obtain ⟨x, e1, r⟩ := F.sl i s hs
    refine ⟨x, e1, ?_⟩
    cases s with
    | un => exact r
    | dt d =>
      cases x with
      | none => exact r
      | some v => exact r
    | ow a0 q =>
      cases x with
      | none => exact r
      | some v =>
        obtain ⟨⟨e2, z⟩, w⟩ := r
        have np : ∀ b, fps i b → b ≠ p := fun b hb z => by
          subst z
          exact (w b hb).2.2 hp
        refine ⟨⟨e2, q.mono z (Ex.refl _) fun b u hb hu => ?_⟩, fun b hb => ?_⟩
        · rw [upd_ne (np b hb)]
          exact hu
        · rw [upd_ne (np b hb), upd_ne (np b hb)]
          exact w b hb
theorem Rep.hset (R : Rep K (upd B p o) H0 σ δ H Hs) (h0 : H0 p = none) (no : ∀ xs, o ≠ .tup xs := by intro _ z; cases z) : Rep K (upd B p o') H0 σ δ (upd H p o') Hs where
  len := R.len
  ex := fun a u q => by
    have ha : a ≠ p := fun z => by
      subst z
      rw [R.hs_none h0 no] at q
      cases q
    rw [upd_ne ha]
    exact R.ex a u q
  base := fun a u q => by
    by_cases ha : a = p
    · subst ha
      rw [upd_same] at q ⊢
      exact q
    · rw [upd_ne ha] at q ⊢
      exact R.base a u (by rw [upd_ne ha]; exact q)
  frz := R.frz
  frs := fun b h1 h2 => by
    have z := R.frs b h1 h2
    have hb : b ≠ p := fun w => by
      subst w
      rcases z with z | ⟨xs, z⟩
      · rw [upd_same] at z
        cases z
      · rw [upd_same] at z
        exact absurd (Option.some.inj z) (no xs)
    unfold NewT at z ⊢
    rw [upd_ne hb] at z ⊢
    exact z
  sl := by
    obtain ⟨fps, F⟩ := R.sl
    refine ⟨fps, fun i s hs => ?_, F.out, F.dj⟩
    obtain ⟨x, e1, r⟩ := F.sl i s hs
    refine ⟨x, e1, ?_⟩
    have np : ∀ b, fps i b → b ≠ p := fun b hb z => by
      subst z
      exact F.not_p i hb
    cases s with
    | un => exact r
    | dt d =>
      cases x with
      | none => exact r
      | some v => exact r
    | ow a0 q =>
      cases x with
      | none => exact r
      | some v =>
        obtain ⟨⟨e2, z⟩, w⟩ := r
        refine ⟨⟨e2, q.mono z (Ex.refl _) fun b u hb hu => ?_⟩, fun b hb => ?_⟩
        · rw [upd_ne (np b hb)]
          exact hu
        · have := w b hb
          rw [upd_ne (np b hb)] at this
          rw [upd_ne (np b hb), upd_ne (np b hb)]
          exact this
theorem Rep.reveal (R : Rep K B H0 σ δ H Hs) {fps : Nat → Foot} (F : Fps K B Hs H σ δ fps) (np : ∀ i, ¬ fps i p) (hp : H p = some o) (hs : Hs p = none) : Rep K (upd B p o) H0 σ δ H Hs where
  len := R.len
  ex := R.ex
  base := fun a u q => by
    by_cases ha : a = p
    · subst ha
      rw [upd_same] at q
      rw [← q]
      exact hp
    · rw [upd_ne ha] at q
      exact R.base a u q
  frz := R.frz
  frs := fun b h1 h2 => by
    have hb : b ≠ p := fun z => by
      subst z
      exact h1 hs
    unfold NewT
    rw [upd_ne hb]
    exact R.frs b h1 h2
  sl := by
    refine ⟨fps, fun i s hs => ?_, F.out, F.dj⟩
    obtain ⟨x, e1, r⟩ := F.sl i s hs
    refine ⟨x, e1, ?_⟩
    cases s with
    | un => exact r
    | dt d =>
      cases x with
      | none => exact r
      | some v => exact r
    | ow a0 q =>
      cases x with
      | none => exact r
      | some v =>
        refine ⟨r.1, fun b hb => ⟨(r.2 b hb).1, ?_, (r.2 b hb).2.2⟩⟩
        rw [upd_ne (fun z => by subst z; exact np i hb)]
        exact (r.2 b hb).2.1
theorem Rep.freeze (R : Rep K (upd B p o) H0 σ δ H Hs) (hB : B p = none) : Rep K B H0 σ δ H (upd Hs p o) := by
  have hp := R.at_p
  have hx : Ex Hs (upd Hs p o) := fun a u q => by
    by_cases ha : a = p
    · subst ha
      have := R.ex a u q
      rw [hp] at this
      rw [upd_same]
      exact this
    · rw [upd_ne ha]
      exact q
  refine ⟨R.len, fun a u q => ?_, (ex_upd_B hB).trans R.base, R.frz.trans hx, fun b h1 h2 => ?_, ?_⟩
  · by_cases ha : a = p
    · subst ha
      rw [upd_same] at q
      rw [← q]
      exact hp
    · rw [upd_ne ha] at q
      exact R.ex a u q
  · by_cases ha : b = p
    · subst ha
      exact .inl hB
    · rw [upd_ne ha] at h1
      have z := R.frs b h1 h2
      unfold NewT at z
      rw [upd_ne ha] at z
      exact z
  · obtain ⟨fps, F⟩ := R.sl
    refine ⟨fps, fun i s hs => ?_, F.out, F.dj⟩
    obtain ⟨x, e1, r⟩ := F.sl i s hs
    exact ⟨x, e1, (r.base (ex_upd_B hB)).mono hx (fun b u _ q => q) fun b hb _ _ h2 _ => by
      rw [upd_ne (fun z => by subst z; exact F.not_p i hb)]
      exact h2⟩
theorem Rep.freeze_ex (R : Rep K (upd B p o) H0 σ δ H Hs) (h0 : H0 p = none) (no : ∀ xs, o ≠ .tup xs := by intro _ z; cases z) : Ex Hs (upd Hs p o) := Ex.new (R.hs_none h0 no)
theorem Rep.own {vs : List V} {xs : List D} (R : Rep K (upd B p (.lst vs)) H0 σ δ H Hs) (hB : B p = none) (h0 : H0 p = none) (r : DpAll K Hs vs xs) {i : Nat} (hi : i < δ.length) : Rep K B H0 (σ.set i (some (.ref p))) (δ.set i (.ow p (.lst xs))) H Hs := by
  have hp := R.at_p
  obtain ⟨fps, F⟩ := R.sl
  have F' : Fps K B Hs H σ δ fps := ⟨fun i s hs => by
    obtain ⟨x, e1, r⟩ := F.sl i s hs
    exact ⟨x, e1, r.base (ex_upd_B hB)⟩, F.out, F.dj⟩
  refine (R.weaken (ex_upd_B hB)).setO F' (fp := fun b => b = p) ⟨fun b => Iff.rfl, vs, hp, r⟩ (fun b hb => ?_) (fun j b hj hb e => ?_) hi
  · subst hb
    exact ⟨R.hs_none h0, hB, by rw [hp]; exact fun z => nomatch z⟩
  · subst e
    exact F.not_p j hb
theorem Rep.take {xs : List D} {i : Nat} (R : Rep K B H0 σ δ H Hs) (h : δ[i]? = some (.ow p (.lst xs))) :
    ∃ vs, σ[i]? = some (some (.ref p)) ∧ H p = some (.lst vs) ∧ Hs p = none ∧ B p = none ∧ H0 p = none ∧ DpAll K Hs vs xs ∧ Rep K (upd B p (.lst vs)) H0 σ (δ.set i .un) H Hs := by
  obtain ⟨fps, F⟩ := R.sl
  obtain ⟨x, e, r⟩ := F.sl i _ h
  cases x with
  | none => exact r.elim
  | some v =>
    obtain ⟨⟨rfl, hfp, vs, hp, ha⟩, q⟩ := r
    have hpp := (hfp p).mpr rfl
    obtain ⟨q1, q2, q3⟩ := q p hpp
    refine ⟨vs, e, hp, q1, q2, R.frz.none q1, ha, ⟨by rw [List.length_set, R.len], R.ex, fun a u z => ?_, R.frz, fun b h1 h2 => ?_, fun j b => j ≠ i ∧ fps j b, fun j s hs => ?_, fun j hj b hb => ?_, fun j k b h1 h2 => F.dj j k b h1.2 h2.2⟩⟩
    · by_cases ha' : a = p
      · subst ha'
        rw [upd_same] at z
        rw [← z]
        exact hp
      · rw [upd_ne ha'] at z
        exact R.base a u z
    · have hb : b ≠ p := fun z => by
        subst z
        exact h1 q1
      unfold NewT
      rw [upd_ne hb]
      exact R.frs b h1 h2
    · by_cases hj : i = j
      · subst hj
        rw [List.getElem?_set_self (List.getElem?_eq_some_iff.mp h).1] at hs
        cases hs
        exact ⟨_, e, fun b hb => hb.1 rfl⟩
      · rw [List.getElem?_set_ne hj] at hs
        obtain ⟨y, e1, r1⟩ := F.sl j s hs
        refine ⟨y, e1, ?_⟩
        have eq : (fun b => j ≠ i ∧ fps j b) = fps j := funext fun b => propext ⟨fun z => z.2, fun z => ⟨fun z => hj z.symm, z⟩⟩
        rw [eq]
        cases s with
        | un => exact r1
        | dt d =>
          cases y with
          | none => exact r1
          | some w => exact r1
        | ow a0 o =>
          cases y with
          | none => exact r1
          | some w =>
            refine ⟨r1.1, fun b hb => ⟨(r1.2 b hb).1, ?_, (r1.2 b hb).2.2⟩⟩
            rw [upd_ne (fun z => by subst z; exact hj (F.dj i j b hpp hb))]
            exact (r1.2 b hb).2.1
    · rw [List.length_set] at hj
      exact F.out j hj b hb.2
theorem set_self {α : Type} {l : List α} {i : Nat} {a : α} (h : l[i]? = some a) : l.set i a = l := by
  refine List.ext_getElem? fun j => ?_
  by_cases hj : i = j
  · subst hj
    rw [List.getElem?_set_self (List.getElem?_eq_some_iff.mp h).1, h]
  · rw [List.getElem?_set_ne hj]
theorem lt_of_get {α : Type} {l : List α} {i : Nat} {a : α} (h : l[i]? = some a) : i < l.length := (List.getElem?_eq_some_iff.mp h).1
theorem Rep.change {xs ys : List D} {i : Nat} {ws : List V} (R : Rep K B H0 σ δ H Hs) (h : δ[i]? = some (.ow p (.lst xs))) (r : DpAll K Hs ws ys) :
    Rep K B H0 σ (δ.set i (.ow p (.lst ys))) (upd H p (.lst ws)) Hs := by
  obtain ⟨vs, hi, hp, h1, h2, h3, ha, R1⟩ := R.take h
  have R2 : Rep K (upd B p (.lst ws)) H0 σ (δ.set i .un) (upd H p (.lst ws)) Hs := R1.hset h3
  have R3 := R2.own h2 h3 r (i := i) (by rw [List.length_set]; exact lt_of_get h)
  rw [set_self hi, List.set_set] at R3
  exact R3
theorem Rep.frzAt {xs : List D} {i : Nat} (R : Rep K B H0 σ δ H Hs) (h : δ[i]? = some (.ow p (.lst xs))) :
    ∃ v Hs', σ[i]? = some (some v) ∧ Ex Hs Hs' ∧ Dp K Hs' v (.list xs) ∧ Rep K B H0 σ (δ.set i (.dt (.list xs))) H Hs' := by
  obtain ⟨vs, e, hp, h1, h2, h3, ha, R1⟩ := R.take h
  have R2 := R1.freeze h2
  have x := R1.freeze_ex h3
  have d : Dp K (upd Hs p (.lst vs)) (.ref p) (.list xs) := .lst (.inl (.inl upd_same)) (dpAll_mono x ha)
  have R3 := R2.set d i
  rw [set_self e, List.set_set] at R3
  exact ⟨.ref p, _, e, x, d, R3⟩
end
section
variable {K : PySem.W.Frag} {B H0 H Hs : Hp} {σ : L2.St} {δ : Dl} {p : Addr} {a a' : AP} {i : Nat}
theorem Rep.ownA {o : HO} (R : Rep K (upd B p o) H0 σ δ H Hs) (hB : B p = none) (h0 : H0 p = none) (r : a.P K Hs o) (hi : i < δ.length) : Rep K B H0 (σ.set i (some (.ref p))) (δ.set i (.ow p (OD.one a))) H Hs := by
  have hp := R.at_p
  obtain ⟨fps, F⟩ := R.sl
  have F' : Fps K B Hs H σ δ fps := ⟨fun i s hs => by
    obtain ⟨x, e1, r⟩ := F.sl i s hs
    exact ⟨x, e1, r.base (ex_upd_B hB)⟩, F.out, F.dj⟩
  refine (R.weaken (ex_upd_B hB)).setO F' (fp := fun b => b = p) ⟨fun b => Iff.rfl, o, hp, r⟩ (fun b hb => ?_) (fun j b hj hb e => ?_) hi
  · subst hb
    exact ⟨R.hs_none h0 (a.nt r), hB, by rw [hp]; exact fun z => nomatch z⟩
  · subst e
    exact F.not_p j hb
theorem Rep.takeA (R : Rep K B H0 σ δ H Hs) (h : δ[i]? = some (.ow p (OD.one a))) :
    ∃ o, σ[i]? = some (some (.ref p)) ∧ H p = some o ∧ Hs p = none ∧ B p = none ∧ H0 p = none ∧ a.P K Hs o ∧ Rep K (upd B p o) H0 σ (δ.set i .un) H Hs := by
  obtain ⟨fps, F⟩ := R.sl
  obtain ⟨x, e, r⟩ := F.sl i _ h
  cases x with
  | none => exact r.elim
  | some v =>
    obtain ⟨⟨rfl, hfp, o, hp, ha⟩, q⟩ := r
    have hpp := (hfp p).mpr rfl
    obtain ⟨q1, q2, q3⟩ := q p hpp
    refine ⟨o, e, hp, q1, q2, R.frz.none q1, ha, ⟨by rw [List.length_set, R.len], R.ex, fun b u z => ?_, R.frz, fun b h1 h2 => ?_, fun j b => j ≠ i ∧ fps j b, fun j s hs => ?_, fun j hj b hb => ?_, fun j k b h1 h2 => F.dj j k b h1.2 h2.2⟩⟩
    · by_cases hb : b = p
      · subst hb
        rw [upd_same] at z
        rw [← z]
        exact hp
      · rw [upd_ne hb] at z
        exact R.base b u z
    · have hb : b ≠ p := fun z => by
        subst z
        exact h1 q1
      unfold NewT
      rw [upd_ne hb]
      exact R.frs b h1 h2
    · by_cases hj : i = j
      · subst hj
        rw [List.getElem?_set_self (List.getElem?_eq_some_iff.mp h).1] at hs
        cases hs
        exact ⟨_, e, fun b hb => hb.1 rfl⟩
      · rw [List.getElem?_set_ne hj] at hs
        obtain ⟨y, e1, r1⟩ := F.sl j s hs
        refine ⟨y, e1, ?_⟩
        have eq : (fun b => j ≠ i ∧ fps j b) = fps j := funext fun b => propext ⟨fun z => z.2, fun z => ⟨fun z => hj z.symm, z⟩⟩
        rw [eq]
        cases s with
        | un => exact r1
        | dt d =>
          cases y with
          | none => exact r1
          | some w => exact r1
        | ow a0 o =>
          cases y with
          | none => exact r1
          | some w =>
            refine ⟨r1.1, fun b hb => ⟨(r1.2 b hb).1, ?_, (r1.2 b hb).2.2⟩⟩
            rw [upd_ne (fun z => by subst z; exact hj (F.dj i j b hpp hb))]
            exact (r1.2 b hb).2.1
    · rw [List.length_set] at hj
      exact F.out j hj b hb.2
theorem Rep.changeA {o' : HO} (R : Rep K B H0 σ δ H Hs) (h : δ[i]? = some (.ow p (OD.one a))) (r : a'.P K Hs o') : Rep K B H0 σ (δ.set i (.ow p (OD.one a'))) (upd H p o') Hs := by
  obtain ⟨o, hi, hp, h1, h2, h3, ha, R1⟩ := R.takeA h
  have R2 : Rep K (upd B p o') H0 σ (δ.set i .un) (upd H p o') Hs := R1.hset h3 (a.nt ha)
  have R3 := R2.ownA (a := a') h2 h3 r (i := i) (by rw [List.length_set]; exact lt_of_get h)
  rw [set_self hi, List.set_set] at R3
  exact R3
theorem own_atA (R : Rep K B H0 σ δ H Hs) (h : δ[i]? = some (.ow p (OD.one a))) : ∃ o, σ[i]? = some (some (.ref p)) ∧ H p = some o ∧ a.P K Hs o := by
  obtain ⟨o, e, hp, _, _, _, ha, _⟩ := R.takeA h
  exact ⟨o, e, hp, ha⟩
end
end DL
namespace DL
open PySem PySem.Spec PyProof.Rows L2
abbrev TDE := Dl → (D → Dl → Prop) → Prop
abbrev TDL := Dl → (List D → Dl → Prop) → Prop
abbrev TDB := Dl → (Bool → Dl → Prop) → Prop
inductive RS where
  | dt (d : D)
  | new (xs : List D)
  | obj (a : AP)
structure DEnds where
  nx : Dl → Prop
  rt : RS → Dl → Prop
  bk : Dl → Prop := fun _ => False
  ct : Dl → Prop := fun _ => False
abbrev TDS := DEnds → Dl → Prop
def SimE (K : PySem.W.Frag) (te : TE) (t : TDE) : Prop := ∀ {B H0 : Hp} {σ : L2.St} {δ : Dl} {H Hs : Hp} {Q : D → Dl → Prop} {Q' : VK}, Rep K B H0 σ δ H Hs → t δ Q →
  (∀ v d δ' H' Hs', Rep K B H0 σ δ' H' Hs' → Ex Hs Hs' → Dp K Hs' v d → Q d δ' → Q' v H') → te σ H Q'
def SimN (K : PySem.W.Frag) (te : TE) (t : TDL) : Prop := ∀ {B H0 : Hp} {σ : L2.St} {δ : Dl} {H Hs : Hp} {Q : List D → Dl → Prop} {Q' : VK}, Rep K B H0 σ δ H Hs → t δ Q →
  (∀ p vs xs δ' H' Hs', Rep K (upd B p (.lst vs)) H0 σ δ' H' Hs' → B p = none → H0 p = none → Ex Hs Hs' → DpAll K Hs' vs xs → Q xs δ' → Q' (.ref p) H') → te σ H Q'
def SimA (K : PySem.W.Frag) (te : TA) (t : TDL) : Prop := ∀ {B H0 : Hp} {σ : L2.St} {δ : Dl} {H Hs : Hp} {Q : List D → Dl → Prop} {Q' : List V → Hp → Prop}, Rep K B H0 σ δ H Hs → t δ Q →
  (∀ vs xs δ' H' Hs', Rep K B H0 σ δ' H' Hs' → Ex Hs Hs' → DpAll K Hs' vs xs → Q xs δ' → Q' vs H') → te σ H Q'
def SimT (K : PySem.W.Frag) (te : TT) (t : TDB) : Prop := ∀ {B H0 : Hp} {σ : L2.St} {δ : Dl} {H Hs : Hp} {Q : Bool → Dl → Prop} {Q' : Bool → Hp → Prop}, Rep K B H0 σ δ H Hs → t δ Q →
  (∀ b δ' H' Hs', Rep K B H0 σ δ' H' Hs' → Ex Hs Hs' → Q b δ' → Q' b H') → te σ H Q'
structure JE (X : Cx) (e : Expr) (u : TE) (t : TDE) : Prop where
  p : PE X e u
  s : SimE X.K u t
structure JN (X : Cx) (e : Expr) (u : TE) (t : TDL) : Prop where
  p : PE X e u
  s : SimN X.K u t
structure JA (X : Cx) (es : List Expr) (u : TA) (t : TDL) : Prop where
  p : PA X es u
  s : SimA X.K u t
structure JT (X : Cx) (e : Expr) (u : TT) (t : TDB) : Prop where
  p : PT X e u
  s : SimT X.K u t
structure JW (X : Cx) (e : Expr) (u : TT) (t : TDB) : Prop where
  p : PW X e u
  s : SimT X.K u t
section
variable {X : Cx} {e a b : Expr} {es : List Expr} {pos : Pos} {t ta tb : TDE} {ue ua ub uc : TE} {us ur : TA} {vt vu : TT} {r r' : R2}
def dVar (i : Nat) : TDE := fun δ Q => ∃ d, δ[i]? = some (.dt d) ∧ Q d δ
def dFrz (i : Nat) : TDE := fun δ Q => ∃ p xs, δ[i]? = some (.ow p (.lst xs)) ∧ Q (.list xs) (δ.set i (.dt (.list xs)))
def dC (d : D) : TDE := fun δ Q => Q d δ
theorem je_var (i : Nat) {x : Str} (hN : X.N[i]? = some x := by rfl) (hv : Vis X.env.scope x := by first | exact Or.inl rfl | exact Or.inr (Or.inl rfl) | exact Or.inr (Or.inr rfl)) (hd : (x == ("__debug__" : Str)) = false := by decide)
    (hcd : (x == ("__classdict__" : Str)) = false := by decide) : JE X (.Name x pos) (tVar i) (dVar i) :=
  ⟨pe_var hN hv hd hcd, fun R ⟨d, h, q⟩ k => by
    obtain ⟨v, e, r⟩ := R.get h
    exact ⟨v, e, k _ _ _ _ _ R (Ex.refl _) r q⟩⟩
theorem je_frz (i : Nat) {x : Str} (hN : X.N[i]? = some x := by rfl) (hv : Vis X.env.scope x := by first | exact Or.inl rfl | exact Or.inr (Or.inl rfl) | exact Or.inr (Or.inr rfl)) (hd : (x == ("__debug__" : Str)) = false := by decide)
    (hcd : (x == ("__classdict__" : Str)) = false := by decide) : JE X (.Name x pos) (tVar i) (dFrz i) :=
  ⟨pe_var hN hv hd hcd, fun R ⟨p, xs, h, q⟩ k => by
    obtain ⟨v, Hs', e, x, r, R'⟩ := R.frzAt h
    exact ⟨v, e, k _ _ _ _ _ R' x r q⟩⟩
theorem je_int {i : Int} {j} : JE X (.Constant (.int i) j pos) (tC (.int i)) (dC (.int i)) := ⟨pe_int, fun R h k => k _ _ _ _ _ R (Ex.refl _) (.int i) h⟩
theorem je_bl {c : Bool} {j} : JE X (.Constant (.bool c) j pos) (tC (.bl c)) (dC (.bool c)) := ⟨pe_bl, fun R h k => k _ _ _ _ _ R (Ex.refl _) (.bl c) h⟩
theorem je_non {j} : JE X (.Constant .none j pos) (tC .non) (dC .none) := ⟨pe_non, fun R h k => k _ _ _ _ _ R (Ex.refl _) .non h⟩
theorem je_str {x : Str} {j} : JE X (.Constant (.str x) j pos) (tC (.str x)) (dC (.str x)) := ⟨pe_str, fun R h k => k _ _ _ _ _ R (Ex.refl _) (.str x) h⟩
def dNil : TDL := fun δ Q => Q [] δ
def dCons (t : TDE) (u : TDL) : TDL := fun δ Q => t δ fun d δ1 => u δ1 fun ds δ2 => Q (d :: ds) δ2
theorem ja_nil : JA X [] tNil dNil := ⟨pa_nil, fun R h k => k _ _ _ _ _ R (Ex.refl _) .nil h⟩
theorem ja_cons {u : TDL} (ha : JE X e ue t) (hr : JA X es ur u) (hs : starEach (e :: es) X.env = (false, eval e X.env) :: starEach es X.env := by rfl) : JA X (e :: es) (tCons ue ur) (dCons t u) := by
  obtain ⟨pe, se⟩ := ha
  obtain ⟨pr, sr⟩ := hr
  refine ⟨pa_cons pe pr hs, fun R h k => ?_⟩
  refine se R h fun v d δ1 H1 Hs1 R1 e1 r1 h1 => ?_
  exact sr R1 h1 fun vs ds δ2 H2 Hs2 R2 e2 r2 h2 => k _ _ _ _ _ R2 (e1.trans e2) (.cons (dp_mono e2 r1) r2) h2
def dTup (t : TDL) : TDE := fun δ Q => t δ fun ds δ' => ds.length ≤ 10000 ∧ Q (.tuple ds) δ'
theorem je_tup {t : TDL} {x1} (h : JA X es us t) : JE X (.Tuple es x1 pos) (tTup us) (dTup t) := by
  obtain ⟨pa, sa⟩ := h
  refine ⟨pe_tup pa, fun R h k => ?_⟩
  refine sa R h fun vs ds δ1 H1 Hs1 R1 e1 r1 ⟨z, q⟩ => ⟨by rw [dpAll_len r1]; exact Nat.le_trans z (by decide), fun p hp => ?_⟩
  have x := PExt.new R1.ex (.tup vs) hp
  exact k _ _ _ _ _ (R1.ext x) (e1.trans x.s) (.tup (.inl (.inl upd_same)) (dpAll_mono x.s r1)) q
def dN (t : TDL) : TDE := fun δ Q => t δ fun xs δ' => Q (.list xs) δ'
theorem je_new {t : TDL} (h : JN X e ue t) : JE X e ue (dN t) := by
  obtain ⟨pe, se⟩ := h
  refine ⟨pe, fun R h k => ?_⟩
  refine se R h fun p vs xs δ1 H1 Hs1 R1 hB h0 e1 r1 q => ?_
  have e2 := R1.freeze_ex h0
  exact k _ _ _ _ _ (R1.freeze hB) (e1.trans e2) (.lst (.inl (.inl upd_same)) (dpAll_mono e2 r1)) q
def dLst (t : TDL) : TDL := fun δ Q => t δ fun ds δ' => ds.length ≤ 10000 ∧ Q ds δ'
theorem jn_lst {t : TDL} (h : JA X es us t) : JN X (.List es pos) (tLst us) (dLst t) := by
  obtain ⟨pa, sa⟩ := h
  refine ⟨pe_lst pa, fun R h k => ?_⟩
  refine sa R h fun vs ds δ1 H1 Hs1 R1 e1 r1 ⟨z, q⟩ => ⟨by rw [dpAll_len r1]; exact Nat.le_trans z (by decide), fun p hp => ?_⟩
  exact k _ _ _ _ _ _ (R1.hide hp) (R1.base.none hp) (R1.frz.none (R1.ex.none hp)) e1 r1 q
def SimR (K : PySem.W.Frag) (r : R2) (rd : D → D → (D → Prop) → Prop) : Prop := ∀ {Hs H : Hp} {x y : V} {dx dy : D} {Q : D → Prop} {Q' : VK}, Ex Hs H → Dp K Hs x dx → Dp K Hs y dy → rd dx dy Q →
  (∀ v d Hs' H', PExt Hs H Hs' H' → Dp K Hs' v d → Q d → Q' v H') → r x y H Q'
structure OpD (X : Cx) (f : Value → Value → Sem Value) (r : R2) (rd : D → D → (D → Prop) → Prop) : Prop where
  p : OpR X f r
  s : SimR X.K r rd
def dOp (rd : D → D → (D → Prop) → Prop) (ta tb : TDE) : TDE := fun δ Q => ta δ fun x δ1 => tb δ1 fun y δ2 => rd x y fun d => Q d δ2
theorem sim_op {K : PySem.W.Frag} {r : R2} {rd : D → D → (D → Prop) → Prop} {ua ub : TE} (sr : SimR K r rd) (sa : SimE K ua ta) (sb : SimE K ub tb) : SimE K (tOp r ua ub) (dOp rd ta tb) := by
  intro B H0 σ δ H Hs Q Q' R h k
  refine sa R h fun x dx δ1 H1 Hs1 R1 e1 r1 h1 => ?_
  refine sb R1 h1 fun y dy δ2 H2 Hs2 R2 e2 r2 h2 => ?_
  exact sr R2.ex (dp_mono e2 r1) r2 h2 fun v d Hs' H' x r q => k _ _ _ _ _ (R2.ext x) ((e1.trans e2).trans x.s) r q
theorem je_op {op : Operator} {rd : D → D → (D → Prop) → Prop} (ho : OpD X (binaryOp op) r rd) (ha : JE X a ua ta) (hb : JE X b ub tb) : JE X (.BinOp a op b pos) (tOp r ua ub) (dOp rd ta tb) := by
  obtain ⟨o, s⟩ := ho
  obtain ⟨pa, sa⟩ := ha
  obtain ⟨pb, sb⟩ := hb
  exact ⟨pe_op o pa pb, sim_op s sa sb⟩
theorem je_cmp {op : CmpOp} {rd : D → D → (D → Prop) → Prop} (ho : OpD X (compareOp op) r rd) (ha : JE X a ua ta) (hb : JE X b ub tb) (hm : behindInMarks op b = false := by first | exact nomark _ | with_unfolding_all rfl) : JE X (.Compare a [op] [b] pos) (tOp r ua ub) (dOp rd ta tb) := by
  obtain ⟨o, s⟩ := ho
  obtain ⟨pa, sa⟩ := ha
  obtain ⟨pb, sb⟩ := hb
  exact ⟨pe_cmpR o pa pb hm, sim_op s sa sb⟩
def dTest (t : TDE) : TDB := fun δ Q => t δ fun d δ' => ∃ c, d = .bool c ∧ Q c δ'
theorem sim_test {K : PySem.W.Frag} {ua : TE} (sa : SimE K ua ta) : SimT K (tTest ua) (dTest ta) := by
  intro B H0 σ δ H Hs Q Q' R h k
  refine sa R h fun v d δ1 H1 Hs1 R1 e1 r1 ⟨c, e, q⟩ => ?_
  subst e
  cases r1
  exact ⟨c, rfl, k _ _ _ _ R1 e1 q⟩
theorem jt_cmp {op : CmpOp} {rd : D → D → (D → Prop) → Prop} (ho : OpD X (compareOp op) r rd) (ha : JE X a ua ta) (hb : JE X b ub tb) (hm : behindInMarks op b = false := by first | exact nomark _ | with_unfolding_all rfl) : JT X (.Compare a [op] [b] pos) (tTest (tOp r ua ub)) (dTest (dOp rd ta tb)) := by
  obtain ⟨o, s⟩ := ho
  obtain ⟨pa, sa⟩ := ha
  obtain ⟨pb, sb⟩ := hb
  exact ⟨pt_cmpR o pa pb hm, sim_test (sim_op s sa sb)⟩
def dChain (rd rd' : D → D → (D → Prop) → Prop) (ta tb tc : TDE) : TDE := fun δ Q => ta δ fun x δ1 => tb δ1 fun y δ2 => rd x y fun z => ∃ k, z = .bool k ∧ (if k = true then tc δ2 fun w δ3 => rd' y w fun d => Q d δ3 else Q (.bool false) δ2)
theorem sim_chain {K : PySem.W.Frag} {r r' : R2} {rd rd' : D → D → (D → Prop) → Prop} {ua ub uc : TE} {tc : TDE} (sr : SimR K r rd) (sr' : SimR K r' rd') (sa : SimE K ua ta) (sb : SimE K ub tb) (sc : SimE K uc tc) : SimE K (tChain r r' ua ub uc) (dChain rd rd' ta tb tc) := by
  intro B H0 σ δ H Hs Q Q' R h k
  refine sa R h fun x dx δ1 H1 Hs1 R1 e1 r1 h1 => ?_
  refine sb R1 h1 fun y dy δ2 H2 Hs2 R2 e2 r2 h2 => ?_
  refine sr R2.ex (dp_mono e2 r1) r2 h2 fun v d Hs3 H3 x3 r3 ⟨c, e, q⟩ => ?_
  subst e
  cases r3
  refine ⟨c, rfl, ?_⟩
  cases c with
  | true =>
    rw [if_pos rfl] at q ⊢
    refine sc (R2.ext x3) q fun w dw δ4 H4 Hs4 R4 e4 r4 h4 => ?_
    exact sr' R4.ex (dp_mono (x3.s.trans e4) r2) r4 h4 fun v d Hs5 H5 x5 r5 q5 => k _ _ _ _ _ (R4.ext x5) ((((e1.trans e2).trans x3.s).trans e4).trans x5.s) r5 q5
  | false =>
    rw [if_neg Bool.false_ne_true] at q ⊢
    exact k _ _ _ _ _ (R2.ext x3) ((e1.trans e2).trans x3.s) (.bl false) q
theorem je_chain {op op' : CmpOp} {c : Expr} {tc : TDE} {rd rd' : D → D → (D → Prop) → Prop} (ho : OpD X (compareOp op) r rd) (ho' : OpD X (compareOp op') r' rd') (ha : JE X a ua ta) (hb : JE X b ub tb) (hc : JE X c uc tc) (hm : lastMarks [op, op'] [b, c] = false := by with_unfolding_all rfl) :
    JE X (.Compare a [op, op'] [b, c] pos) (tChain r r' ua ub uc) (dChain rd rd' ta tb tc) := by
  obtain ⟨o, s⟩ := ho
  obtain ⟨o', s'⟩ := ho'
  obtain ⟨pa, sa⟩ := ha
  obtain ⟨pb, sb⟩ := hb
  obtain ⟨pc, sc⟩ := hc
  exact ⟨pe_chain o o' pa pb pc hm, sim_chain s s' sa sb sc⟩
theorem jt_chain {op op' : CmpOp} {c : Expr} {tc : TDE} {rd rd' : D → D → (D → Prop) → Prop} (ho : OpD X (compareOp op) r rd) (ho' : OpD X (compareOp op') r' rd') (ha : JE X a ua ta) (hb : JE X b ub tb) (hc : JE X c uc tc) (hm : lastMarks [op, op'] [b, c] = false := by with_unfolding_all rfl) :
    JT X (.Compare a [op, op'] [b, c] pos) (tTest (tChain r r' ua ub uc)) (dTest (dChain rd rd' ta tb tc)) := by
  obtain ⟨o, s⟩ := ho
  obtain ⟨o', s'⟩ := ho'
  obtain ⟨pa, sa⟩ := ha
  obtain ⟨pb, sb⟩ := hb
  obtain ⟨pc, sc⟩ := hc
  exact ⟨pt_chain o o' pa pb pc hm, sim_test (sim_chain s s' sa sb sc)⟩
def isNoneD : D → Bool
  | .none => true
  | _ => false
def dIsN (t : TDE) : TDE := fun δ Q => t δ fun d δ' => Q (.bool (isNoneD d)) δ'
def dNotN (t : TDE) : TDE := fun δ Q => t δ fun d δ' => Q (.bool (!isNoneD d)) δ'
theorem isNone_dec {K : PySem.W.Frag} {H : Hp} {v : V} {d : D} (r : Dp K H v d) : decide (v = .non) = isNoneD d := by
  cases r <;> rfl
theorem sim_isN {K : PySem.W.Frag} {ua : TE} (sa : SimE K ua ta) : SimE K (tIsN ua) (dIsN ta) := fun R h k => sa R h fun v d δ1 H1 Hs1 R1 e1 r1 q => by
  rw [isNone_dec r1]
  exact k _ _ _ _ _ R1 e1 (.bl _) q
theorem sim_notN {K : PySem.W.Frag} {ua : TE} (sa : SimE K ua ta) : SimE K (tNotN ua) (dNotN ta) := fun R h k => sa R h fun v d δ1 H1 Hs1 R1 e1 r1 q => by
  rw [isNone_dec r1]
  exact k _ _ _ _ _ R1 e1 (.bl _) q
theorem je_isN {j p'} (ha : JE X a ua ta) : JE X (.Compare a [.Is] [.Constant .none j p'] pos) (tIsN ua) (dIsN ta) := by
  obtain ⟨pa, sa⟩ := ha
  exact ⟨pe_cmp (pc_isN pa), sim_isN sa⟩
theorem je_notN {j p'} (ha : JE X a ua ta) : JE X (.Compare a [.IsNot] [.Constant .none j p'] pos) (tNotN ua) (dNotN ta) := by
  obtain ⟨pa, sa⟩ := ha
  exact ⟨pe_cmp (pc_notN pa), sim_notN sa⟩
theorem sim_B {K : PySem.W.Frag} {ua : TE} (sa : SimE K ua ta) : SimT K (tB ua) (dTest ta) := by
  intro B H0 σ δ H Hs Q Q' R h k
  refine sa R h fun v d δ1 H1 Hs1 R1 e1 r1 ⟨c, e, q⟩ => ?_
  subst e
  cases r1
  exact ⟨c, rfl, k _ _ _ _ R1 e1 q⟩
theorem jt_isN {j p'} (ha : JE X a ua ta) : JT X (.Compare a [.Is] [.Constant .none j p'] pos) (tB (tIsN ua)) (dTest (dIsN ta)) := by
  obtain ⟨pa, sa⟩ := ha
  exact ⟨pt_cmp (pc_isN pa), sim_B (sim_isN sa)⟩
theorem jt_notN {j p'} (ha : JE X a ua ta) : JT X (.Compare a [.IsNot] [.Constant .none j p'] pos) (tB (tNotN ua)) (dTest (dNotN ta)) := by
  obtain ⟨pa, sa⟩ := ha
  exact ⟨pt_cmp (pc_notN pa), sim_B (sim_notN sa)⟩
theorem jt_val (ha : JE X e ue t) (he : ∀ whole, isTrue e X.env whole = (do let v ← whole; standAt e.pos; holding [v] (truthy v)) := by intro _; rfl) : JT X e (tB ue) (dTest t) := by
  obtain ⟨pa, sa⟩ := ha
  exact ⟨pt_val pa he, sim_B sa⟩
def truD : D → (Bool → Prop) → Prop
  | .none, Q => Q false
  | .bool b, Q => Q b
  | .int i, Q => Q (i != 0)
  | .str x, Q => x.length ≤ 100000 ∧ Q (x.length != 0)
  | .list xs, Q => Q (!xs.isEmpty)
  | .tuple xs, Q => Q (!xs.isEmpty)
  | .dict _, _ => False
def dTru (t : TDE) : TDB := fun δ Q => t δ fun d δ' => truD d fun c => Q c δ'
theorem jt_tru (ha : JE X e ue t) (he : ∀ whole, isTrue e X.env whole = (do let v ← whole; standAt e.pos; holding [v] (truthy v)) := by intro _; rfl) : JT X e (fun σ H Q => ue σ H fun x H' => ∃ k, TruV X.K x H' k ∧ Q k H') (dTru t) := by
  obtain ⟨pa, sa⟩ := ha
  refine ⟨pt_truth pa he, fun R h k => sa R h fun v d δ1 H1 Hs1 R1 e1 r1 q => ?_⟩
  cases r1 with
  | non => exact ⟨_, rfl, k _ _ _ _ R1 e1 q⟩
  | bl b => exact ⟨_, rfl, k _ _ _ _ R1 e1 q⟩
  | int i => exact ⟨_, rfl, k _ _ _ _ R1 e1 q⟩
  | str x => exact ⟨_, ⟨Nat.le_trans q.1 (by decide), rfl⟩, k _ _ _ _ R1 e1 (by
      have e : ((x.length : Int) != 0) = (x.length != 0) := by
        cases h : x.length with
        | zero => rfl
        | succ n => simp; omega
      rw [e]
      exact q.2)⟩
  | @lst a xs ds h1 h2 =>
    refine ⟨!ds.isEmpty, .inl ⟨xs, R1.ex.sl h1, ?_⟩, k _ _ _ _ R1 e1 q⟩
    cases h2 <;> rfl
  | @tup a xs ds h1 h2 =>
    refine ⟨!ds.isEmpty, .inr (.inl ⟨xs, R1.ex.st h1, ?_⟩), k _ _ _ _ R1 e1 q⟩
    cases h2 <;> rfl
def dAnd (t u : TDB) : TDB := fun δ Q => t δ fun c δ1 => if c = true then u δ1 Q else Q false δ1
def dOr (t u : TDB) : TDB := fun δ Q => t δ fun c δ1 => if c = true then Q true δ1 else u δ1 Q
def dNot (t : TDB) : TDB := fun δ Q => t δ fun c δ1 => Q (!c) δ1
theorem JW.jt {t : TDB} (h : JW X e vt t) : JT X e vt t := ⟨h.p.pt, h.s⟩
theorem jw_and1 {t : TDB} (h : JT X a vt t) : JW X (.BoolOp .And [a] pos) vt t := by
  obtain ⟨p, s⟩ := h
  exact ⟨pw_and1 p, s⟩
theorem jw_or1 {t : TDB} (h : JT X a vt t) : JW X (.BoolOp .Or [a] pos) vt t := by
  obtain ⟨p, s⟩ := h
  exact ⟨pw_or1 p, s⟩
theorem jw_and {rest : List Expr} {t u : TDB} (ha : JT X a vt t) (hb : JW X (.BoolOp .And (b :: rest) pos) vu u) : JW X (.BoolOp .And (a :: b :: rest) pos) (tAnd vt vu) (dAnd t u) := by
  obtain ⟨p, s⟩ := ha
  obtain ⟨p2, s2⟩ := hb
  refine ⟨pw_and p p2, fun R h k => s R h fun c δ1 H1 Hs1 R1 e1 q => ?_⟩
  cases c with
  | true =>
    rw [if_pos rfl] at q ⊢
    exact s2 R1 q fun b δ2 H2 Hs2 R2 e2 q2 => k _ _ _ _ R2 (e1.trans e2) q2
  | false =>
    rw [if_neg Bool.false_ne_true] at q ⊢
    exact k _ _ _ _ R1 e1 q
theorem jw_or {rest : List Expr} {t u : TDB} (ha : JT X a vt t) (hb : JW X (.BoolOp .Or (b :: rest) pos) vu u) : JW X (.BoolOp .Or (a :: b :: rest) pos) (tOr vt vu) (dOr t u) := by
  obtain ⟨p, s⟩ := ha
  obtain ⟨p2, s2⟩ := hb
  refine ⟨pw_or p p2, fun R h k => s R h fun c δ1 H1 Hs1 R1 e1 q => ?_⟩
  cases c with
  | true =>
    rw [if_pos rfl] at q ⊢
    exact k _ _ _ _ R1 e1 q
  | false =>
    rw [if_neg Bool.false_ne_true] at q ⊢
    exact s2 R1 q fun b δ2 H2 Hs2 R2 e2 q2 => k _ _ _ _ R2 (e1.trans e2) q2
theorem jt_not {t : TDB} (ha : JT X a vt t) : JT X (.UnaryOp .Not a pos) (tNot vt) (dNot t) := by
  obtain ⟨p, s⟩ := ha
  exact ⟨pt_not p, fun R h k => s R h fun c δ1 H1 Hs1 R1 e1 q => k _ _ _ _ R1 e1 q⟩
def dAndV (t u : TDE) : TDE := fun δ Q => t δ fun d δ1 => ∃ c, d = .bool c ∧ if c = true then u δ1 Q else Q (.bool false) δ1
def dOrV (t u : TDE) : TDE := fun δ Q => t δ fun d δ1 => ∃ c, d = .bool c ∧ if c = true then Q (.bool true) δ1 else u δ1 Q
def dNotV (t : TDE) : TDE := fun δ Q => t δ fun d δ1 => ∃ c, d = .bool c ∧ Q (.bool (!c)) δ1
theorem je_one {op} (h : JE X a ua t) : JE X (.BoolOp op [a] pos) ua t := by
  obtain ⟨p, s⟩ := h
  exact ⟨pe_one p, s⟩
theorem je_and {rest : List Expr} (ha : JE X a ua ta) (hb : JE X (.BoolOp .And (b :: rest) pos) ub tb) : JE X (.BoolOp .And (a :: b :: rest) pos) (tAndV ua ub) (dAndV ta tb) := by
  obtain ⟨p, s⟩ := ha
  obtain ⟨p2, s2⟩ := hb
  refine ⟨pe_and p p2, fun R h k => s R h fun v d δ1 H1 Hs1 R1 e1 r1 ⟨c, e, q⟩ => ?_⟩
  subst e
  cases r1
  refine ⟨c, rfl, ?_⟩
  cases c with
  | true =>
    rw [if_pos rfl] at q ⊢
    exact s2 R1 q fun v d δ2 H2 Hs2 R2 e2 r2 q2 => k _ _ _ _ _ R2 (e1.trans e2) r2 q2
  | false =>
    rw [if_neg Bool.false_ne_true] at q ⊢
    exact k _ _ _ _ _ R1 e1 (.bl false) q
theorem je_or {rest : List Expr} (ha : JE X a ua ta) (hb : JE X (.BoolOp .Or (b :: rest) pos) ub tb) : JE X (.BoolOp .Or (a :: b :: rest) pos) (tOrV ua ub) (dOrV ta tb) := by
  obtain ⟨p, s⟩ := ha
  obtain ⟨p2, s2⟩ := hb
  refine ⟨pe_or p p2, fun R h k => s R h fun v d δ1 H1 Hs1 R1 e1 r1 ⟨c, e, q⟩ => ?_⟩
  subst e
  cases r1
  refine ⟨c, rfl, ?_⟩
  cases c with
  | true =>
    rw [if_pos rfl] at q ⊢
    exact k _ _ _ _ _ R1 e1 (.bl true) q
  | false =>
    rw [if_neg Bool.false_ne_true] at q ⊢
    exact s2 R1 q fun v d δ2 H2 Hs2 R2 e2 r2 q2 => k _ _ _ _ _ R2 (e1.trans e2) r2 q2
theorem je_not (ha : JE X a ua ta) : JE X (.UnaryOp .Not a pos) (tNotV ua) (dNotV ta) := by
  obtain ⟨p, s⟩ := ha
  refine ⟨pe_not p, fun R h k => s R h fun v d δ1 H1 Hs1 R1 e1 r1 ⟨c, e, q⟩ => ?_⟩
  subst e
  cases r1
  exact ⟨c, rfl, k _ _ _ _ _ R1 e1 (.bl _) q⟩
def dIf (t : TDB) (u w : TDE) : TDE := fun δ Q => t δ fun c δ1 => if c = true then u δ1 Q else w δ1 Q
theorem je_ifExp {c : Expr} {tc : TDB} (hc : JT X c vt tc) (ha : JE X a ua ta) (hb : JE X b ub tb) : JE X (.IfExp c a b pos) (tIf vt ua ub) (dIf tc ta tb) := by
  obtain ⟨p, s⟩ := hc
  obtain ⟨p2, s2⟩ := ha
  obtain ⟨p3, s3⟩ := hb
  refine ⟨pe_ifExp p p2 p3, fun R h k => s R h fun c δ1 H1 Hs1 R1 e1 q => ?_⟩
  cases c with
  | true =>
    rw [if_pos rfl] at q ⊢
    exact s2 R1 q fun v d δ2 H2 Hs2 R2 e2 r2 q2 => k _ _ _ _ _ R2 (e1.trans e2) r2 q2
  | false =>
    rw [if_neg Bool.false_ne_true] at q ⊢
    exact s3 R1 q fun v d δ2 H2 Hs2 R2 e2 r2 q2 => k _ _ _ _ _ R2 (e1.trans e2) r2 q2
end
end DL
namespace DL
open PySem PySem.Spec PyProof.Rows L2
theorem dp_plain : ∀ {K : PySem.W.Frag} {H : Hp} {d : D} {v : V}, Dp K H v d → d.plain = true := by
  intro K H d v
  refine PyData.rec (motive_1 := fun d => ∀ v, Dp K H v d → d.plain = true) (motive_2 := fun ds => ∀ vs, DpAll K H vs ds → PyData.plainAll ds = true) (motive_3 := fun _ => True) (motive_4 := fun _ => True)
    (fun v r => rfl) (fun b v r => rfl) (fun i v r => rfl) (fun s v r => rfl) (fun xs ih v r => ?_) (fun xs ih v r => ?_) (fun _ _ v r => ?_) (fun vs r => rfl) (fun d ds h1 h2 vs r => ?_) trivial (fun _ _ _ _ => trivial) (fun _ _ _ _ => trivial) d v
  · cases r with
    | lst h a =>
      rw [PyData.plain]
      exact ih _ a
  · cases r with
    | tup h a =>
      rw [PyData.plain]
      exact ih _ a
  · cases r
  · cases r with
    | cons a b =>
      rw [PyData.plainAll, h1 _ a, h2 _ b]
      rfl
section
variable {X : Cx}
def rCatS (K : PySem.W.Frag) : R2 := fun x y H Q => ∃ l b xs zs, x = .ref l ∧ y = .ref b ∧ SqL K H l xs ∧ SqL K H b zs ∧ xs.length + zs.length ≤ sizeLine ∧ ∀ p, H p = none → Q (.ref p) (upd H p (.lst (xs ++ zs)))
theorem op_catS : OpR X (binaryOp .Add) (rCatS X.K) := by
  intro pins s σ H x y v u Q I rx ry h
  obtain ⟨l, b, xs, zs, rfl, rfl, hH, hB, hz, q⟩ := h
  cases rx
  cases ry
  obtain ⟨its, r, p1, z1⟩ := I.list hH
  obtain ⟨its2, r2, p2, z2⟩ := I.list hB
  obtain ⟨⟨cls, dd, data, sl⟩, ho, hc, n, hd⟩ := p1.isList
  obtain ⟨⟨cls2, dd2, data2, sl2⟩, ho2, hc2, n2, hd2⟩ := p2.isList
  simp only at hc hd hc2 hd2
  subst hc hd hc2 hd2
  have e : its.toArray ++ its2.toArray = (its ++ its2).toArray := by simp
  refine concat_meets ⟨_, ho, rfl⟩ ⟨_, ho2, rfl⟩ noFill_list_add seq_list_add PySem.F.slot_list_add PySem.F.entry_list_add (PySem.F.args_list_add_2 _ _) (list_addW l b its.toArray its2.toArray n n2 dd dd2 sl sl2 (by rw [List.size_toArray, List.size_toArray, ← r.length, ← r2.length]; exact hz)) ⟨ho, ho2, ?_⟩
  rw [e]
  exact ⟨.ref _, _, I.lnew (t' := s.toks) (r.append r2) (by rw [List.length_append]; omega), rfl, q _ I.fresh⟩
def addD : D → D → (D → Prop) → Prop
  | .int i, .int j, Q => Q (.int (i + j))
  | .str x, .str y, Q => x.length + y.length ≤ 100000 ∧ Q (.str (x ++ y))
  | .list xs, .list ys, Q => xs.length + ys.length ≤ 100000 ∧ Q (.list (xs ++ ys))
  | .tuple xs, .tuple ys, Q => xs.length + ys.length ≤ 100000 ∧ Q (.tuple (xs ++ ys))
  | _, _, _ => False
theorem sz5 {n : Nat} (h : n ≤ 100000) : n ≤ sizeLine := Nat.le_trans h (by decide)
def rOr (r r' : R2) : R2 := fun x y H Q => r x y H Q ∨ r' x y H Q
def rStrAdd : R2 := fun x y H Q => ∃ i j, x = .str i ∧ y = .str j ∧ i.length + j.length ≤ sizeLine ∧ Q (.str (i ++ j)) H
def rAddU (K : PySem.W.Frag) : R2 := rOr (rI0 fun i j => .int (i + j)) (rOr rStrAdd (rOr (rCatS K) (rCatA K)))
theorem do_add : OpD X (binaryOp .Add) (rAddU X.K) addD := by
  refine ⟨op_add.or (op_add_str.or (op_catS.or op_catA)), ?_⟩
  intro Hs H x y dx dy Q Q' e rx ry h k
  cases rx with
  | int i =>
    cases ry with
    | int j => exact .inl ⟨i, j, rfl, rfl, k _ _ _ _ (PExt.refl e) (.int _) h⟩
    | _ => exact h.elim
  | str i =>
    cases ry with
    | str j => exact .inr (.inl ⟨i, j, rfl, rfl, sz5 h.1, k _ _ _ _ (PExt.refl e) (.str _) h.2⟩)
    | _ => exact h.elim
  | @lst a xs ds h1 a1 =>
    cases ry with
    | @lst b ys es h2 a2 =>
      refine .inr (.inr (.inl ⟨a, b, xs, ys, rfl, rfl, e.sl h1, e.sl h2, by rw [dpAll_len a1, dpAll_len a2]; exact sz5 h.1, fun p hp => ?_⟩))
      have x := PExt.new e (.lst (xs ++ ys)) hp
      exact k _ _ _ _ x (.lst (.inl (.inl upd_same)) (dpAll_mono x.s (dpAll_app a1 a2))) h.2
    | _ => exact h.elim
  | @tup a xs ds h1 a1 =>
    cases ry with
    | @tup b ys es h2 a2 =>
      refine .inr (.inr (.inr ⟨a, b, xs, ys, rfl, rfl, e.st h1, e.st h2, by rw [dpAll_len a1, dpAll_len a2]; exact sz5 h.1, fun hx => ?_, fun hx hy => ?_, fun hx hy p hp => ?_⟩))
      · subst hx
        cases a1
        exact k _ _ _ _ (PExt.refl e) (.tup h2 a2) h.2
      · subst hy
        cases a2
        refine k _ _ _ _ (PExt.refl e) (.tup h1 a1) ?_
        have := h.2
        rw [List.append_nil] at this
        exact this
      · have x := PExt.new e (.tup (xs ++ ys)) hp
        exact k _ _ _ _ x (.tup (.inl (.inl upd_same)) (dpAll_mono x.s (dpAll_app a1 a2))) h.2
    | _ => exact h.elim
  | _ => exact h.elim
def intD (C : Int → Int → Prop) (g : Int → Int → Int) : D → D → (D → Prop) → Prop
  | .int i, .int j, Q => C i j ∧ Q (.int (g i j))
  | _, _, _ => False
theorem do_int {f : Value → Value → Sem Value} {C C' : Int → Int → Prop} {g : Int → Int → Int} (ho : OpR X f (rI C' fun i j => .int (g i j))) (hc : ∀ i j, C i j → C' i j) : OpD X f (rI C' fun i j => .int (g i j)) (intD C g) := by
  refine ⟨ho, ?_⟩
  intro Hs H x y dx dy Q Q' e rx ry h k
  cases rx with
  | int i =>
    cases ry with
    | int j => exact ⟨i, j, rfl, rfl, hc _ _ h.1, k _ _ _ _ (PExt.refl e) (.int _) h.2⟩
    | _ => exact h.elim
  | _ => exact h.elim
def subD : D → D → (D → Prop) → Prop
  | .int i, .int j, Q => Q (.int (i - j))
  | _, _, _ => False
theorem do_sub : OpD X (binaryOp .Sub) (rI0 fun i j => .int (i - j)) subD := by
  refine ⟨op_sub, ?_⟩
  intro Hs H x y dx dy Q Q' e rx ry h k
  cases rx with
  | int i =>
    cases ry with
    | int j => exact ⟨i, j, rfl, rfl, k _ _ _ _ (PExt.refl e) (.int _) h⟩
    | _ => exact h.elim
  | _ => exact h.elim
def SmallI (i : Int) : Prop := -(2 ^ 64) < i ∧ i < 2 ^ 64
def mulD : D → D → (D → Prop) → Prop := intD (fun i j => SmallI i ∨ SmallI j) (fun i j => i * j)
theorem do_mul : OpD X (binaryOp .Mult) (rI CMul fun i j => .int (i * j)) mulD := do_int op_mul fun _ _ h => h
def modD : D → D → (D → Prop) → Prop := intD (fun _ j => 0 < j) (fun i j => i % j)
theorem do_mod : OpD X (binaryOp .Mod) (rI (fun _ j => 0 < j) fun i j => .int (i % j)) modD := do_int op_mod fun _ _ h => h
def fdivD : D → D → (D → Prop) → Prop := intD (fun _ j => 0 < j ∧ j < 1073741824) (fun i j => i / j)
theorem do_fdiv : OpD X (binaryOp .FloorDiv) (rI CDiv fun i j => .int (i / j)) fdivD := do_int op_fdiv fun _ _ h => h
def powD : D → D → (D → Prop) → Prop := intD (fun i j => (0 ≤ j ∧ j ≤ 1000) ∧ SmallI i) (fun i j => i ^ j.toNat)
theorem do_pow : OpD X (binaryOp .Pow) (rI CPow fun i j => .int (i ^ j.toNat)) powD := do_int op_pow fun _ _ h => ⟨h.1.1, by omega, by have := h.2; unfold SmallI at this; omega⟩
theorem room200 {A : Around} {k : Nat} (h : A.units + 200 < cLine) (hk : k ≤ 150) : A.units + k < cLine := by omega
def eqD (a b : D) (Q : D → Prop) : Prop := min a.depth b.depth ≤ 150 ∧ Q (.bool (PyData.eqv a b))
def neD (a b : D) (Q : D → Prop) : Prop := min a.depth b.depth ≤ 150 ∧ Q (.bool (!PyData.eqv a b))
def rEqP (K : PySem.W.Frag) : R2 := fun x y H Q => ∃ d e, Dp K H x d ∧ Dp K H y e ∧ min d.depth e.depth ≤ 150 ∧ Q (.bl (PyData.eqv d e)) H
def rNeP (K : PySem.W.Frag) : R2 := fun x y H Q => ∃ d e, Dp K H x d ∧ Dp K H y e ∧ min d.depth e.depth ≤ 150 ∧ Q (.bl (!PyData.eqv d e)) H
theorem op_eqP (hu : X.A.units + 200 < cLine) : OpR X (compareOp .Eq) (rEqP X.K) := by
  intro pins s σ H x y v u Q I rx ry h
  obtain ⟨d, e, hd, he, hm, q⟩ := h
  obtain ⟨as, r1⟩ := Dp.reads I d x v hd rx
  obtain ⟨bs, r2⟩ := Dp.reads I e y u he ry
  exact SeqAt.eq_plain r1 r2 (dp_plain hd) (dp_plain he) (room200 hu hm) ⟨.bl _, H, I, rfl, q⟩
theorem op_neP (hu : X.A.units + 200 < cLine) : OpR X (compareOp .NotEq) (rNeP X.K) := by
  intro pins s σ H x y v u Q I rx ry h
  obtain ⟨d, e, hd, he, hm, q⟩ := h
  obtain ⟨as, r1⟩ := Dp.reads I d x v hd rx
  obtain ⟨bs, r2⟩ := Dp.reads I e y u he ry
  exact SeqAt.ne_plain r1 r2 (dp_plain hd) (dp_plain he) (room200 hu hm) ⟨.bl _, H, I, rfl, q⟩
theorem do_eq (hu : X.A.units + 200 < cLine) : OpD X (compareOp .Eq) (rEqP X.K) eqD := ⟨op_eqP hu, fun e rx ry h k => ⟨_, _, dp_mono e rx, dp_mono e ry, h.1, k _ _ _ _ (PExt.refl e) (.bl _) h.2⟩⟩
theorem do_ne (hu : X.A.units + 200 < cLine) : OpD X (compareOp .NotEq) (rNeP X.K) neD := ⟨op_neP hu, fun e rx ry h k => ⟨_, _, dp_mono e rx, dp_mono e ry, h.1, k _ _ _ _ (PExt.refl e) (.bl _) h.2⟩⟩
def ordD (g : D → D → Bool) (a b : D) (Q : D → Prop) : Prop := PySem.W.alike a b = true ∧ isNoneD a = false ∧ min a.depth b.depth ≤ 150 ∧ Q (.bool (g a b))
def rOrd (K : PySem.W.Frag) (g : D → D → Bool) : R2 := fun x y H Q => ∃ d e, Dp K H x d ∧ Dp K H y e ∧ PySem.W.alike d e = true ∧ isNoneD d = false ∧ min d.depth e.depth ≤ 150 ∧ Q (.bl (g d e)) H
theorem nn {d : D} (h : isNoneD d = false) : d ≠ .none := fun z => by
  subst z
  cases h
theorem do_ord {op : CmpOp} {g : D → D → Bool} (hu : X.A.units + 200 < cLine) (rule : ∀ (s : Shared) (a b : Value) (da db : D) (as bs : List Addr) (Q : Value → Shared → Prop), Reads s.heap a da as → Reads s.heap b db bs → PySem.W.alike da db = true → da ≠ .none → X.A.units + min da.depth db.depth < cLine → Q (.bool (g da db)) s → wpAny (model X.prog X.w) X.A (compareOp op a b) Q X.xe s) :
    OpD X (compareOp op) (rOrd X.K g) (ordD g) := by
  refine ⟨?_, fun e rx ry h k => ⟨_, _, dp_mono e rx, dp_mono e ry, h.1, h.2.1, h.2.2.1, k _ _ _ _ (PExt.refl e) (.bl _) h.2.2.2⟩⟩
  intro pins s σ H x y v u Q I rx ry h
  obtain ⟨d, e, hd, he, hl, hn, hm, q⟩ := h
  obtain ⟨as, r1⟩ := Dp.reads I d x v hd rx
  obtain ⟨bs, r2⟩ := Dp.reads I e y u he ry
  exact rule _ _ _ _ _ _ _ _ r1 r2 hl (nn hn) (room200 hu hm) ⟨.bl _, H, I, rfl, q⟩
abbrev ltD := ordD fun a b => PySem.W.dataLt a b
abbrev gtD := ordD fun a b => PySem.W.dataLt b a
abbrev leD := ordD fun a b => !PySem.W.dataLt b a
abbrev geD := ordD fun a b => !PySem.W.dataLt a b
theorem do_lt (hu : X.A.units + 200 < cLine) : OpD X (compareOp .Lt) (rOrd X.K (fun a b => PySem.W.dataLt a b)) ltD := do_ord hu fun _ _ _ _ _ _ _ _ h1 h2 h3 h4 h5 h6 => PySem.W.lt_data h1 h2 h3 h4 h5 h6
theorem do_gt (hu : X.A.units + 200 < cLine) : OpD X (compareOp .Gt) (rOrd X.K (fun a b => PySem.W.dataLt b a)) gtD := do_ord hu fun _ _ _ _ _ _ _ _ h1 h2 h3 h4 h5 h6 => PySem.W.gt_data h1 h2 h3 h4 h5 h6
theorem do_le (hu : X.A.units + 200 < cLine) : OpD X (compareOp .LtE) (rOrd X.K (fun a b => !PySem.W.dataLt b a)) leD := do_ord hu fun _ _ _ _ _ _ _ _ h1 h2 h3 h4 h5 h6 => PySem.W.le_data h1 h2 h3 h4 h5 h6
theorem do_ge (hu : X.A.units + 200 < cLine) : OpD X (compareOp .GtE) (rOrd X.K (fun a b => !PySem.W.dataLt a b)) geD := do_ord hu fun _ _ _ _ _ _ _ _ h1 h2 h3 h4 h5 h6 => PySem.W.ge_data h1 h2 h3 h4 h5 h6
end
end DL
namespace DL
open PySem PySem.Spec PyProof.Rows L2
section
variable {X : Cx} {e a b : Expr} {es : List Expr} {pos : Pos} {t ta tb : TDE} {ue ua ub : TE} {us : TA} {ul uh : TO} {pins : List (Addr × Obj)} {σ : L2.St} {H : Hp} {s : Shared}
theorem dpAll_at {K : PySem.W.Frag} {H : Hp} {vs : List V} {ds : List D} {i : Int} {d : D} (h : DpAll K H vs ds) (e : atI ds i = some d) : ∃ v, atI vs i = some v ∧ Dp K H v d := by
  unfold atI at e ⊢
  rw [dpAll_len h]
  cases h1 : ixN ds.length i with
  | none =>
    rw [h1] at e
    cases e
  | some j =>
    rw [h1] at e
    obtain ⟨v, e1, r⟩ := dpAll_get h (show ds[j]? = some d from e)
    exact ⟨v, e1, r⟩
theorem atI_pos {α : Type} {xs : List α} {i : Int} (h : 0 ≤ i) : atI xs i = xs[i.toNat]? := by
  unfold atI ixN
  rw [if_pos h]
  by_cases h1 : i < xs.length
  · rw [if_pos h1]
    rfl
  · rw [if_neg h1]
    have : xs.length ≤ i.toNat := by omega
    rw [List.getElem?_eq_none this]
    rfl
theorem atI_cast {α : Type} {xs : List α} (n : Nat) : atI xs (n : Int) = xs[n]? := by
  rw [atI_pos (by omega)]
  simp
def ixD : D → D → (D → Prop) → Prop
  | .list xs, .int i, Q => ∃ d, atI xs i = some d ∧ Q d
  | .tuple xs, .int i, Q => ∃ d, atI xs i = some d ∧ Q d
  | .str z, .int i, Q => z.length ≤ 100000 ∧ ∃ c, atI z.cps.toList i = some c ∧ Q (.str ⟨#[c]⟩)
  | _, _, _ => False
theorem sim_ix {K : PySem.W.Frag} : SimR K (fun x y H Q => rIxL K x y H Q ∨ (rIxT K x y H Q ∨ rIxS x y H Q)) ixD := by
  intro Hs H x y dx dy Q Q' e rx ry h k
  cases rx with
  | str z =>
    cases ry with
    | int i =>
      obtain ⟨z1, c, hc, q⟩ := h
      exact .inr (.inr ⟨z, i, c, rfl, rfl, sz5 z1, hc, k _ _ _ _ (PExt.refl e) (.str _) q⟩)
    | _ => exact h.elim
  | @lst p xs ds h1 a1 =>
    cases ry with
    | int i =>
      obtain ⟨d, hd, q⟩ := h
      obtain ⟨v, e1, r⟩ := dpAll_at a1 hd
      exact .inl ⟨p, xs, i, v, rfl, rfl, e.sl h1, e1, k _ _ _ _ (PExt.refl e) r q⟩
    | _ => exact h.elim
  | @tup p xs ds h1 a1 =>
    cases ry with
    | int i =>
      obtain ⟨d, hd, q⟩ := h
      obtain ⟨v, e1, r⟩ := dpAll_at a1 hd
      exact .inr (.inl ⟨p, xs, i, v, rfl, rfl, e.st h1, e1, k _ _ _ _ (PExt.refl e) r q⟩)
    | _ => exact h.elim
  | _ => exact h.elim
def rIxU (K : PySem.W.Frag) : R2 := fun x y H Q => rIxL K x y H Q ∨ (rIxT K x y H Q ∨ rIxS x y H Q)
theorem je_ix (ha : JE X a ua ta) (hb : JE X b ub tb) (hs : PlainIx b := by exact fun _ _ => rfl) : JE X (.Subscript a b pos) (tOp (rIxU X.K) ua ub) (dOp ixD ta tb) := by
  obtain ⟨pa, sa⟩ := ha
  obtain ⟨pb, sb⟩ := hb
  exact ⟨pe_ix ix_seq pa pb hs, sim_op sim_ix sa sb⟩
abbrev TDO := Dl → (Option Int → Dl → Prop) → Prop
def SimO (K : PySem.W.Frag) (te : TO) (t : TDO) : Prop := ∀ {B H0 : Hp} {σ : L2.St} {δ : Dl} {H Hs : Hp} {Q : Option Int → Dl → Prop} {Q' : Option Int → Hp → Prop}, Rep K B H0 σ δ H Hs → t δ Q →
  (∀ o δ' H' Hs', Rep K B H0 σ δ' H' Hs' → Ex Hs Hs' → Q o δ' → Q' o H') → te σ H Q'
structure JO (X : Cx) (e : Option Expr) (u : TO) (t : TDO) : Prop where
  p : PO X e u
  s : SimO X.K u t
def dNoPart : TDO := fun δ Q => Q none δ
def dPart (t : TDE) : TDO := fun δ Q => t δ fun d δ' => ∃ i, d = .int i ∧ Q (some i) δ'
theorem jo_none : JO X none tNoPart dNoPart := ⟨po_none, fun R h k => k _ _ _ _ R (Ex.refl _) h⟩
theorem jo_some (h : JE X e ue t) : JO X (some e) (tPart ue) (dPart t) := by
  obtain ⟨p, s⟩ := h
  refine ⟨po_some p, fun R h k => s R h fun v d δ1 H1 Hs1 R1 e1 r1 ⟨i, e, q⟩ => ?_⟩
  subst e
  cases r1
  exact ⟨i, rfl, k _ _ _ _ R1 e1 q⟩
def cutA {α : Type} (xs : List α) (lo hi : Option Int) : List α := (xs.drop (HT.sIx xs.length 0 lo)).take (HT.sIx xs.length xs.length hi - HT.sIx xs.length 0 lo)
theorem cutA_V (xs : List V) (lo hi : Option Int) : cutV xs lo hi = cutA xs lo hi := rfl
theorem dpAll_cut {K : PySem.W.Frag} {H : Hp} {vs : List V} {ds : List D} (h : DpAll K H vs ds) (lo hi : Option Int) : DpAll K H (cutV vs lo hi) (cutA ds lo hi) := by
  rw [cutA_V]
  unfold cutA
  rw [dpAll_len h]
  exact dpAll_take _ (dpAll_drop _ h)
def dSlN (t : TDE) (lo hi : TDO) : TDL := fun δ Q => t δ fun d δ1 => lo δ1 fun l δ2 => hi δ2 fun u δ3 => ∃ xs, d = .list xs ∧ Q (cutA xs l u) δ3
theorem jn_slice {lo hi : Option Expr} {tl th : TDO} {p2 : Pos} (he : JE X e ue t) (hl : JO X lo ul tl) (hh : JO X hi uh th) : JN X (.Subscript e (.Slice lo hi none p2) pos) (tSl (rSlL X.K) ue ul uh) (dSlN t tl th) := by
  obtain ⟨p, s⟩ := he
  obtain ⟨pl, sl⟩ := hl
  obtain ⟨ph, sh⟩ := hh
  refine ⟨pe_slice sl_list p pl ph, fun R h k => s R h fun v d δ1 H1 Hs1 R1 e1 r1 h1 => sl R1 h1 fun o δ2 H2 Hs2 R2 e2 h2 => sh R2 h2 fun o' δ3 H3 Hs3 R3 e3 ⟨xs, e, q⟩ => ?_⟩
  subst e
  cases r1 with
  | @lst a vs ds h1 a1 =>
    have e4 := e2.trans e3
    refine ⟨a, vs, rfl, R3.ex.sl (e4.sl h1), fun p hp => ?_⟩
    exact k _ _ _ _ _ _ (R3.hide hp) (R3.base.none hp) (R3.frz.none (R3.ex.none hp)) (e1.trans e4) (dpAll_cut (dpAll_mono e4 a1) o o') q
def slD : D → Option Int → Option Int → (D → Prop) → Prop
  | .str z, l, u, Q => z.length ≤ 100000 ∧ Q (.str (cutS z l u))
  | .list xs, l, u, Q => Q (.list (cutA xs l u))
  | .tuple xs, l, u, Q => Q (.tuple (cutA xs l u))
  | _, _, _, _ => False
def dSl (t : TDE) (lo hi : TDO) : TDE := fun δ Q => t δ fun d δ1 => lo δ1 fun l δ2 => hi δ2 fun u δ3 => slD d l u fun d' => Q d' δ3
theorem sIx_le2 (n : Nat) (o : Option Int) : HT.sIx n n o ≤ n := HT.sIx_le _ _ (Nat.le_refl _) _
theorem cut_whole {α : Type} {xs : List α} {lo hi : Option Int} (h : HT.sIx xs.length 0 lo = 0 ∧ HT.sIx xs.length xs.length hi = xs.length) : cutA xs lo hi = xs := by
  unfold cutA
  rw [h.1, h.2, Nat.sub_zero, List.drop_zero, List.take_length]
def rSlU (K : PySem.W.Frag) : V → Option Int → Option Int → Hp → VK → Prop := fun x lo hi H Q => rSlL K x lo hi H Q ∨ (rSlA K x lo hi H Q ∨ rSlS x lo hi H Q)
theorem je_slice {lo hi : Option Expr} {tl th : TDO} {p2 : Pos} (he : JE X e ue t) (hl : JO X lo ul tl) (hh : JO X hi uh th) : JE X (.Subscript e (.Slice lo hi none p2) pos) (tSl (rSlU X.K) ue ul uh) (dSl t tl th) := by
  obtain ⟨p, s⟩ := he
  obtain ⟨pl, sl⟩ := hl
  obtain ⟨ph, sh⟩ := hh
  refine ⟨pe_slice (sl_list.or (sl_tupA.or sl_str)) p pl ph, ?_⟩
  intro B H0 σ δ H Hs Q Q' R h k
  refine s R h fun v d δ1 H1 Hs1 R1 e1 r1 h1 => sl R1 h1 fun o δ2 H2 Hs2 R2 e2 h2 => sh R2 h2 fun o' δ3 H3 Hs3 R3 e3 q => ?_
  have e4 := e2.trans e3
  cases r1 with
  | str z => exact .inr (.inr ⟨z, rfl, sz5 q.1, k _ _ _ _ _ R3 (e1.trans e4) (.str _) q.2⟩)
  | @lst a vs ds hs1 a1 =>
    refine .inl ⟨a, vs, rfl, R3.ex.sl (e4.sl hs1), fun p hp => ?_⟩
    have x := PExt.new R3.ex (.lst (cutV vs o o')) hp
    exact k _ _ _ _ _ (R3.ext x) ((e1.trans e4).trans x.s) (.lst (.inl (.inl upd_same)) (dpAll_mono x.s (dpAll_cut (dpAll_mono e4 a1) o o'))) q
  | @tup a vs ds hs1 a1 =>
    refine .inr (.inl ⟨a, vs, rfl, R3.ex.st (e4.st hs1), fun hw => ?_, fun hw p hp => ?_⟩)
    · rw [dpAll_len a1] at hw
      refine k _ _ _ _ _ R3 (e1.trans e4) (.tup (e4.st hs1) (dpAll_mono e4 a1)) ?_
      have q' : Q (PyData.tuple (cutA ds o o')) δ3 := q
      rw [cut_whole hw] at q'
      exact q'
    · have x := PExt.new R3.ex (.tup (cutV vs o o')) hp
      exact k _ _ _ _ _ (R3.ext x) ((e1.trans e4).trans x.s) (.tup (.inl (.inl upd_same)) (dpAll_mono x.s (dpAll_cut (dpAll_mono e4 a1) o o'))) q
  | _ => exact q.elim
def dRev (t : TDE) : TDL := fun δ Q => t δ fun d δ1 => ∃ xs, d = .list xs ∧ Q xs.reverse δ1
theorem jn_rev {k : Nat} {p1 p2 p3 : Pos} (he : JE X e ue t) : JN X (.Subscript e (.Slice none none (some (.UnaryOp .USub (.Constant (.int 1) k p1) p2)) p3) pos) (tRevL X.K ue) (dRev t) := by
  obtain ⟨p, s⟩ := he
  refine ⟨pe_revL p, fun R h k => s R h fun v d δ1 H1 Hs1 R1 e1 r1 ⟨xs, e, q⟩ => ?_⟩
  subst e
  cases r1 with
  | @lst a vs ds h1 a1 => exact ⟨a, vs, rfl, R1.ex.sl h1, fun p hp => k _ _ _ _ _ _ (R1.hide hp) (R1.base.none hp) (R1.frz.none (R1.ex.none hp)) e1 (dpAll_rev a1) q⟩
def SimC (K : PySem.W.Frag) (r : List V → Hp → VK → Prop) (rd : List D → (D → Prop) → Prop) : Prop := ∀ {Hs H : Hp} {vs : List V} {ds : List D} {Q : D → Prop} {Q' : VK}, Ex Hs H → DpAll K Hs vs ds → rd ds Q →
  (∀ v d Hs' H', PExt Hs H Hs' H' → Dp K Hs' v d → Q d → Q' v H') → r vs H Q'
def SimCN (K : PySem.W.Frag) (r : List V → Hp → VK → Prop) (rd : List D → (List D → Prop) → Prop) : Prop := ∀ {Hs H : Hp} {vs : List V} {ds : List D} {Q : List D → Prop} {Q' : VK}, Ex Hs H → DpAll K Hs vs ds → rd ds Q →
  (∀ p ws xs, H p = none → DpAll K Hs ws xs → Q xs → Q' (.ref p) (upd H p (.lst ws))) → r vs H Q'
abbrev RCl := List V → Hp → VK → Prop
structure CallD (X : Cx) (f : Value) (r : RCl) (rd : List D → (D → Prop) → Prop) : Prop where
  p : CallR X f r
  s : SimC X.K r rd
structure CallN (X : Cx) (f : Value) (r : RCl) (rd : List D → (List D → Prop) → Prop) : Prop where
  p : CallR X f r
  s : SimCN X.K r rd
def dCall (rd : List D → (D → Prop) → Prop) (t : TDL) : TDE := fun δ Q => t δ fun ds δ' => rd ds fun d => Q d δ'
def dCallN (rd : List D → (List D → Prop) → Prop) (t : TDL) : TDL := fun δ Q => t δ fun ds δ' => rd ds fun xs => Q xs δ'
theorem sim_call {K : PySem.W.Frag} {r : List V → Hp → VK → Prop} {rd : List D → (D → Prop) → Prop} {u : TA} {t : TDL} (sr : SimC K r rd) (s : SimA K u t) : SimE K (tCB r u) (dCall rd t) := fun R h k =>
  s R h fun vs ds δ1 H1 Hs1 R1 e1 r1 h1 => sr R1.ex r1 h1 fun v d Hs' H' x r q => k _ _ _ _ _ (R1.ext x) (e1.trans x.s) r q
theorem sim_callN {K : PySem.W.Frag} {r : List V → Hp → VK → Prop} {rd : List D → (List D → Prop) → Prop} {u : TA} {t : TDL} (sr : SimCN K r rd) (s : SimA K u t) : SimN K (tCB r u) (dCallN rd t) := fun R h k =>
  s R h fun vs ds δ1 H1 Hs1 R1 e1 r1 h1 => sr R1.ex r1 h1 fun p ws xs hp r q => k _ _ _ _ _ _ (R1.hide hp) (R1.base.none hp) (R1.frz.none (R1.ex.none hp)) e1 r q
section
variable {x : Str} {id T : String} {p : Pos} {u : TDL} {r : RCl}
theorem je_callB {rd : List D → (D → Prop) → Prop} (hc : CallD X (.builtin id) r rd) (hg : Gl X x) (hm : X.mg x = none) (hv : bootBuiltins x = some (.builtin id)) (ha : JA X (e :: es) us u) (hn : x ≠ "__name__" := by decide) (hdb : (x == ("__debug__" : Str)) = false := by decide)
    (he : starEach (e :: es) X.env = (false, eval e X.env) :: starEach es X.env := by rfl) (hpl : (backTo pos (starEach es X.env)).any (·.1) = false := by rfl) : JE X (.Call (.Name x p) (e :: es) [] pos) (tCB r us) (dCall rd u) := by
  obtain ⟨cr, sr⟩ := hc
  obtain ⟨pw, sw⟩ := ha
  exact ⟨pe_callB cr hg hm hv pw hn hdb he hpl, sim_call sr sw⟩
theorem je_callTy {rd : List D → (D → Prop) → Prop} (hc : CallD X (.type T) r rd) (hg : Gl X x) (hm : X.mg x = none) (hv : bootBuiltins x = some (.type T)) (ha : JA X (e :: es) us u) (hn : x ≠ "__name__" := by decide) (hdb : (x == ("__debug__" : Str)) = false := by decide)
    (he : starEach (e :: es) X.env = (false, eval e X.env) :: starEach es X.env := by rfl) (hpl : (backTo pos (starEach es X.env)).any (·.1) = false := by rfl) : JE X (.Call (.Name x p) (e :: es) [] pos) (tCB r us) (dCall rd u) := by
  obtain ⟨cr, sr⟩ := hc
  obtain ⟨pw, sw⟩ := ha
  exact ⟨pe_callTy cr hg hm hv pw hn hdb he hpl, sim_call sr sw⟩
theorem jn_callB {rd : List D → (List D → Prop) → Prop} (hc : CallN X (.builtin id) r rd) (hg : Gl X x) (hm : X.mg x = none) (hv : bootBuiltins x = some (.builtin id)) (ha : JA X (e :: es) us u) (hn : x ≠ "__name__" := by decide) (hdb : (x == ("__debug__" : Str)) = false := by decide)
    (he : starEach (e :: es) X.env = (false, eval e X.env) :: starEach es X.env := by rfl) (hpl : (backTo pos (starEach es X.env)).any (·.1) = false := by rfl) : JN X (.Call (.Name x p) (e :: es) [] pos) (tCB r us) (dCallN rd u) := by
  obtain ⟨cr, sr⟩ := hc
  obtain ⟨pw, sw⟩ := ha
  exact ⟨pe_callB cr hg hm hv pw hn hdb he hpl, sim_callN sr sw⟩
theorem jn_callTy {rd : List D → (List D → Prop) → Prop} (hc : CallN X (.type T) r rd) (hg : Gl X x) (hm : X.mg x = none) (hv : bootBuiltins x = some (.type T)) (ha : JA X (e :: es) us u) (hn : x ≠ "__name__" := by decide) (hdb : (x == ("__debug__" : Str)) = false := by decide)
    (he : starEach (e :: es) X.env = (false, eval e X.env) :: starEach es X.env := by rfl) (hpl : (backTo pos (starEach es X.env)).any (·.1) = false := by rfl) : JN X (.Call (.Name x p) (e :: es) [] pos) (tCB r us) (dCallN rd u) := by
  obtain ⟨cr, sr⟩ := hc
  obtain ⟨pw, sw⟩ := ha
  exact ⟨pe_callTy cr hg hm hv pw hn hdb he hpl, sim_callN sr sw⟩
end
def lenD : List D → (D → Prop) → Prop
  | [.list xs], Q => Q (.int xs.length)
  | [.tuple xs], Q => Q (.int xs.length)
  | [.str z], Q => z.length ≤ 100000 ∧ Q (.int z.length)
  | _, _ => False
def rLenU (K : PySem.W.Frag) : RCl := fun xs H Q => ∃ x n, xs = [x] ∧ LenV K x H n ∧ Q (.int n) H
theorem cd_len : CallD X (.builtin "len") (rLenU X.K) lenD := by
  refine ⟨call_len, ?_⟩
  intro Hs H vs ds Q Q' e r h k
  cases r with
  | nil => exact h.elim
  | cons r1 r2 =>
    cases r2 with
    | cons _ _ => cases r1 <;> exact h.elim
    | nil =>
      cases r1 with
      | str z => exact ⟨_, _, rfl, ⟨sz5 h.1, rfl⟩, k _ _ _ _ (PExt.refl e) (.int _) h.2⟩
      | @lst p xs es h1 a1 => exact ⟨_, es.length, rfl, .inl ⟨xs, e.sl h1, (dpAll_len a1).symm⟩, k _ _ _ _ (PExt.refl e) (.int _) h⟩
      | @tup p xs es h1 a1 => exact ⟨_, es.length, rfl, .inr ⟨xs, e.st h1, (dpAll_len a1).symm⟩, k _ _ _ _ (PExt.refl e) (.int _) h⟩
      | _ => exact h.elim
def toIntD : List D → (D → Prop) → Prop
  | [.int i], Q => Q (.int i)
  | [.bool b], Q => Q (.int (if b then 1 else 0))
  | _, _ => False
def rIntU : RCl := fun xs H Q => (∃ i, xs = [.int i] ∧ Q (.int i) H) ∨ ∃ k, xs = [.bl k] ∧ Q (.int (if k then 1 else 0)) H
theorem cd_int : CallD X (.type "int") rIntU toIntD := by
  refine ⟨call_int1, ?_⟩
  intro Hs H vs ds Q Q' e r h k
  cases r with
  | nil => exact h.elim
  | cons r1 r2 =>
    cases r2 with
    | cons _ _ => cases r1 <;> exact h.elim
    | nil =>
      cases r1 with
      | int i => exact .inl ⟨i, rfl, k _ _ _ _ (PExt.refl e) (.int _) h⟩
      | bl b => exact .inr ⟨b, rfl, k _ _ _ _ (PExt.refl e) (.int _) h⟩
      | _ => exact h.elim
def listD : List D → (List D → Prop) → Prop
  | [.list xs], Q => Q xs
  | [.tuple xs], Q => Q xs
  | _, _ => False
def rListU (K : PySem.W.Frag) : RCl := fun xs H Q => ∃ p ys, xs = [.ref p] ∧ (SqL K H p ys ∨ SqT K H p ys) ∧ ∀ l, H l = none → Q (.ref l) (upd H l (.lst ys))
theorem cn_list : CallN X (.type "list") (rListU X.K) listD := by
  refine ⟨call_list_of, ?_⟩
  intro Hs H vs ds Q Q' e r h k
  cases r with
  | nil => exact h.elim
  | cons r1 r2 =>
    cases r2 with
    | cons _ _ => cases r1 <;> exact h.elim
    | nil =>
      cases r1 with
      | @lst p xs es h1 a1 => exact ⟨p, xs, rfl, .inl (e.sl h1), fun l hl => k _ _ _ hl a1 h⟩
      | @tup p xs es h1 a1 => exact ⟨p, xs, rfl, .inr (e.st h1), fun l hl => k _ _ _ hl a1 h⟩
      | _ => exact h.elim
def tupleD : List D → (D → Prop) → Prop
  | [.list xs], Q => Q (.tuple xs)
  | [.tuple xs], Q => Q (.tuple xs)
  | _, _ => False
def rTupU (K : PySem.W.Frag) : RCl := fun xs H Q => ∃ p ys, xs = [.ref p] ∧ ((SqL K H p ys ∧ ∀ l, H l = none → Q (.ref l) (upd H l (.tup ys))) ∨ (SqT K H p ys ∧ Q (.ref p) H))
theorem cd_tuple : CallD X (.type "tuple") (rTupU X.K) tupleD := by
  refine ⟨call_tuple_of, ?_⟩
  intro Hs H vs ds Q Q' e r h k
  cases r with
  | nil => exact h.elim
  | cons r1 r2 =>
    cases r2 with
    | cons _ _ => cases r1 <;> exact h.elim
    | nil =>
      cases r1 with
      | @lst p xs es h1 a1 =>
        refine ⟨p, xs, rfl, .inl ⟨e.sl h1, fun l hl => ?_⟩⟩
        have x := PExt.new e (.tup xs) hl
        exact k _ _ _ _ x (.tup (.inl (.inl upd_same)) (dpAll_mono x.s a1)) h
      | @tup p xs es h1 a1 => exact ⟨p, xs, rfl, .inr ⟨e.st h1, k _ _ _ _ (PExt.refl e) (.tup h1 a1) h⟩⟩
      | _ => exact h.elim
def int2D (g : Int → Int → Int) : List D → (D → Prop) → Prop
  | [.int i, .int j], Q => Q (.int (g i j))
  | _, _ => False
theorem sim_int2 {K : PySem.W.Frag} (g : Int → Int → Int) : SimC K (fun xs H Q => ∃ i j, xs = [.int i, .int j] ∧ Q (.int (g i j)) H) (int2D g) := by
  intro Hs H vs ds Q Q' e r h k
  cases r with
  | nil => exact h.elim
  | cons r1 r2 =>
    cases r2 with
    | nil => cases r1 <;> exact h.elim
    | cons r2 r3 =>
      cases r3 with
      | cons _ _ => cases r1 <;> cases r2 <;> exact h.elim
      | nil =>
        cases r1 with
        | int i =>
          cases r2 with
          | int j => exact ⟨i, j, rfl, k _ _ _ _ (PExt.refl e) (.int _) h⟩
          | _ => exact h.elim
        | _ => cases r2 <;> exact h.elim
def rInt2 (g : Int → Int → Int) : RCl := fun xs H Q => ∃ i j, xs = [.int i, .int j] ∧ Q (.int (g i j)) H
theorem cd_max2 (hc : X.calm = true) : CallD X (.builtin "max") (rInt2 fun i j => if j > i then j else i) (int2D fun i j => if j > i then j else i) := ⟨call_max2 hc, sim_int2 _⟩
theorem cd_min2 (hc : X.calm = true) : CallD X (.builtin "min") (rInt2 fun i j => if j < i then j else i) (int2D fun i j => if j < i then j else i) := ⟨call_min2 hc, sim_int2 _⟩
def rMaxL (K : PySem.W.Frag) (g : D → List D → D) : List V → Hp → VK → Prop := fun vs H Q => ∃ a xs x ds, vs = [.ref a] ∧ SqL K H a xs ∧ DpAll K H xs (x :: ds) ∧ PySem.W.AlikeAll (x :: ds) ∧ PyData.depthAll (x :: ds) ≤ 150 ∧
  ∀ (i : Nat) v, xs[i]? = some v → (x :: ds)[i]? = some (g x ds) → Q v H
def maxLD (g : D → List D → D) (ds : List D) (Q : D → Prop) : Prop := ∃ x xs, ds = [.list (x :: xs)] ∧ PySem.W.AlikeAll (x :: xs) ∧ PyData.depthAll (x :: xs) ≤ 150 ∧ Q (g x xs)
theorem sim_maxL {K : PySem.W.Frag} (g : D → List D → D) : SimC K (rMaxL K g) (maxLD g) := by
  intro Hs H vs ds Q Q' e r h k
  obtain ⟨x, xs, rfl, h1, h2, q⟩ := h
  cases r with
  | cons r1 r2 =>
    cases r2 with
    | nil =>
      cases r1 with
      | @lst p ws es hs a1 =>
        refine ⟨p, ws, x, xs, rfl, e.sl hs, dpAll_mono e a1, h1, h2, fun i v hv hd => ?_⟩
        obtain ⟨v', e1, r⟩ := dpAll_get a1 hd
        rw [hv] at e1
        cases e1
        exact k _ _ _ _ (PExt.refl e) r q
theorem vals_get {xs : List V} {us : List Value} (r : Vals xs us) {i : Nat} {u : Value} (h : us[i]? = some u) : ∃ x, xs[i]? = some x ∧ RelV x u := by
  have hl := r.length
  have hi : i < xs.length := by
    rw [hl]
    exact (List.getElem?_eq_some_iff.mp h).1
  obtain ⟨u', e, q⟩ := Vals.get r (List.getElem?_eq_getElem hi)
  rw [h] at e
  cases e
  exact ⟨xs[i], List.getElem?_eq_getElem hi, q⟩
theorem plain_of : ∀ {xs : List D} {x : D}, PyData.plainAll xs = true → x ∈ xs → x.plain = true
  | _ :: _, _, h, hx => by
    rw [PyData.plainAll, Bool.and_eq_true] at h
    rcases List.mem_cons.mp hx with rfl | hx
    · exact h.1
    · exact plain_of h.2 hx
theorem best_at {h h' : Heap} {v : Value} {its : List Value} {xs : List D} {as bs : List Addr} {z : D} {i : Nat} (hr : ReadsAll h its xs as) (hp : PyData.plainAll xs = true) (hv : its[i]? = some v) (hz : Reads h' v z bs) (hk : ∀ b o, h.get? b = some o → h'.get? b = some o) : xs[i]? = some z := by
  obtain ⟨cs, r, hi, hm, _⟩ := PySem.W.readsAll_at hr i v hv
  have e := SeqAt.plain_unique _ _ _ _ _ (plain_of hp hm) (PySem.W.reads_keeps hk r) hz
  rw [← e]
  simp [hi]
theorem dpAll_plain {K : PySem.W.Frag} {H : Hp} : ∀ {vs : List V} {ds : List D}, DpAll K H vs ds → PyData.plainAll ds = true
  | _, _, .nil => rfl
  | _, _, .cons r t => by
    rw [PyData.plainAll, dp_plain r, dpAll_plain t]
    rfl
theorem cr_maxL (hc : X.calm = true) (hu : X.A.units + 200 < cLine) : CallR X (.builtin "max") (rMaxL X.K PySem.W.maxD) := by
  intro pins s σ H vs us Q I r h
  obtain ⟨a, xs, x, ds, rfl, hs, ha, hal, hd, q⟩ := h
  obtain ⟨its, rv, hl, _⟩ := I.list hs
  rw [Vals.ref1 r]
  obtain ⟨as, hr⟩ := Dp.readsAll I _ _ its ha rv
  refine PySem.W.max_list_data (I.ok.hd hc) hl.isList (x := x) (xs := ds) hr hal (by omega) fun i v h' tk bs hv hz hk => ?_
  have hv' : its[i]? = some v := by simpa using hv
  obtain ⟨w', e1, rw'⟩ := vals_get rv hv'
  exact ⟨w', H, I.kept (t' := tk) hk, rw', q i w' e1 (best_at hr (dpAll_plain ha) hv' hz hk)⟩
theorem cr_minL (hc : X.calm = true) (hu : X.A.units + 200 < cLine) : CallR X (.builtin "min") (rMaxL X.K PySem.W.minD) := by
  intro pins s σ H vs us Q I r h
  obtain ⟨a, xs, x, ds, rfl, hs, ha, hal, hd, q⟩ := h
  obtain ⟨its, rv, hl, _⟩ := I.list hs
  rw [Vals.ref1 r]
  obtain ⟨as, hr⟩ := Dp.readsAll I _ _ its ha rv
  refine PySem.W.min_list_data (I.ok.hd hc) hl.isList (x := x) (xs := ds) hr hal (by omega) fun i v h' tk bs hv hz hk => ?_
  have hv' : its[i]? = some v := by simpa using hv
  obtain ⟨w', e1, rw'⟩ := vals_get rv hv'
  exact ⟨w', H, I.kept (t' := tk) hk, rw', q i w' e1 (best_at hr (dpAll_plain ha) hv' hz hk)⟩
theorem cd_maxL (hc : X.calm = true) (hu : X.A.units + 200 < cLine) : CallD X (.builtin "max") (rMaxL X.K PySem.W.maxD) (maxLD PySem.W.maxD) := ⟨cr_maxL hc hu, sim_maxL _⟩
theorem cd_minL (hc : X.calm = true) (hu : X.A.units + 200 < cLine) : CallD X (.builtin "min") (rMaxL X.K PySem.W.minD) (maxLD PySem.W.minD) := ⟨cr_minL hc hu, sim_maxL _⟩
def boolsD (g : List Bool → Bool) (ds : List D) (Q : D → Prop) : Prop := ∃ bs : List Bool, ds = [.list (bs.map .bool)] ∧ Q (.bool (g bs))
theorem dpAll_bls {K : PySem.W.Frag} {H : Hp} : ∀ {vs : List V} {bs : List Bool}, DpAll K H vs (bs.map .bool) → vs = bs.map V.bl
  | _, [], .nil => rfl
  | _, b :: bs, .cons r t => by
    cases r
    rw [dpAll_bls t]
    rfl
theorem cd_all (hc : X.calm = true) : CallD X (.builtin "all") (rAll X.K) (boolsD fun bs => bs.all id) := by
  refine ⟨cr_all hc, ?_⟩
  intro Hs H vs ds Q Q' e r h k
  obtain ⟨bs, rfl, q⟩ := h
  cases r with
  | cons r1 r2 =>
    cases r2 with
    | nil =>
      cases r1 with
      | lst hs a1 =>
        rw [dpAll_bls a1] at hs
        exact ⟨_, bs, rfl, e.sl hs, k _ _ _ _ (PExt.refl e) (.bl _) q⟩
theorem cd_any (hc : X.calm = true) : CallD X (.builtin "any") (rAny X.K) (boolsD fun bs => bs.any id) := by
  refine ⟨cr_any hc, ?_⟩
  intro Hs H vs ds Q Q' e r h k
  obtain ⟨bs, rfl, q⟩ := h
  cases r with
  | cons r1 r2 =>
    cases r2 with
    | nil =>
      cases r1 with
      | lst hs a1 =>
        rw [dpAll_bls a1] at hs
        exact ⟨_, bs, rfl, e.sl hs, k _ _ _ _ (PExt.refl e) (.bl _) q⟩
def tyName : D → String
  | .none => "NoneType"
  | .bool _ => "bool"
  | .int _ => "int"
  | .str _ => "str"
  | .list _ => "list"
  | .tuple _ => "tuple"
  | .dict _ => "dict"
def isT (T : String) (d : D) : Bool := (tyName d == T) || (T == "int" && tyName d == "bool")
theorem dp_ty {K : PySem.W.Frag} {H : Hp} {v : V} {d : D} (r : Dp K H v d) : TyX K H v (.type (tyName d)) := by
  cases r with
  | non => exact .base .non
  | bl b => exact .base (.bl b)
  | int i => exact .base (.int i)
  | str x => exact .base (.str x)
  | lst h _ =>
    rcases h with (h | ⟨o, h⟩) | ⟨o, its, n, h1, h2, _⟩
    · exact .base (.lst h)
    · exact .base (.frz h)
    · exact .kList h1 h2
  | tup h _ =>
    rcases h with (h | ⟨o, h⟩) | ⟨o, its, n, h1, h2, _⟩
    · exact .base (.tup h)
    · exact .fTuple h
    · exact .kTuple h1 h2
def TyOk (T : String) : Prop := ∀ d : D, kitB (tyName d) T = some (isT T d)
theorem tok {T : String} (h : ∀ n ∈ ["NoneType", "bool", "int", "str", "list", "tuple", "dict"], kitB n T = some ((n == T) || (T == "int" && n == "bool"))) : TyOk T := fun d => by
  cases d with
  | none => exact h "NoneType" (by decide)
  | bool b => exact h "bool" (by decide)
  | int i => exact h "int" (by decide)
  | str x => exact h "str" (by decide)
  | list xs => exact h "list" (by decide)
  | tuple xs => exact h "tuple" (by decide)
  | dict kvs => exact h "dict" (by decide)
theorem tok_list : TyOk "list" := tok (by decide +kernel)
theorem tok_tuple : TyOk "tuple" := tok (by decide +kernel)
theorem tok_bool : TyOk "bool" := tok (by decide +kernel)
theorem tok_int : TyOk "int" := tok (by decide +kernel)
theorem tok_str : TyOk "str" := tok (by decide +kernel)
def dIsi (T : String) (t : TDE) : TDE := fun δ Q => t δ fun d δ' => Q (.bool (isT T d)) δ'
theorem je_isi {x : Str} {p p2 : Pos} {T : String} (hT : TyOk T) (hg : Gl X "isinstance") (hm : X.mg "isinstance" = none) (hg2 : Gl X x) (hm2 : X.mg x = none) (hv : bootBuiltins x = some (.type T)) (ha : JE X e ue t)
    (hn : x ≠ "__name__" := by decide) (hd : (x == ("__debug__" : Str)) = false := by decide)
    (hs : starEach [e, .Name x p2] X.env = (false, eval e X.env) :: starEach [.Name x p2] X.env := by rfl)
    (hs2 : starEach [.Name x p2] X.env = (false, eval (.Name x p2) X.env) :: starEach [] X.env := by rfl) (hpl : (backTo pos (starEach [.Name x p2] X.env)).any (·.1) = false := by rfl) : JE X (.Call (.Name "isinstance" p) [e, .Name x p2] [] pos) (tCB (rIsi X.K) (tCons ue (tCons (tC (.ty T)) tNil))) (dIsi T t) := by
  obtain ⟨pu, su⟩ := ha
  refine ⟨pe_callB call_isi hg hm (by decide +kernel) (pa_cons pu (pa_cons (pe_bltn (v := .ty T) hg2 hm2 hv rfl hn hd) pa_nil hs2) hs) (by decide) (by decide) hs hpl, fun R h k => su R h fun v d δ1 H1 Hs1 R1 e1 r1 q => ?_⟩
  exact ⟨v, .ty T, _, _, isT T d, rfl, .ty T, dp_ty (dp_mono R1.ex r1), kit_ty (hT d), k _ _ _ _ _ R1 e1 (.bl _) q⟩
def dIsi2 (T T' : String) (t : TDE) : TDE := fun δ Q => t δ fun d δ' => Q (.bool (isT T d || isT T' d)) δ'
theorem je_isi2 {x y : Str} {p p2 p3 p4 : Pos} {c : Nat} {T T' : String} (hT : TyOk T) (hT' : TyOk T') (hg : Gl X "isinstance") (hm : X.mg "isinstance" = none) (hg2 : Gl X x) (hm2 : X.mg x = none) (hv : bootBuiltins x = some (.type T))
    (hg3 : Gl X y) (hm3 : X.mg y = none) (hv3 : bootBuiltins y = some (.type T')) (ha : JE X e ue t)
    (hn : x ≠ "__name__" := by decide) (hd : (x == ("__debug__" : Str)) = false := by decide) (hn3 : y ≠ "__name__" := by decide) (hd3 : (y == ("__debug__" : Str)) = false := by decide)
    (hs : starEach [e, .Tuple [.Name x p2, .Name y p3] c p4] X.env = (false, eval e X.env) :: starEach [.Tuple [.Name x p2, .Name y p3] c p4] X.env := by rfl)
    (hs2 : starEach [.Tuple [.Name x p2, .Name y p3] c p4] X.env = (false, eval (.Tuple [.Name x p2, .Name y p3] c p4) X.env) :: starEach [] X.env := by rfl)
    (hs3 : starEach [.Name x p2, .Name y p3] X.env = (false, eval (.Name x p2) X.env) :: starEach [.Name y p3] X.env := by rfl)
    (hs4 : starEach [.Name y p3] X.env = (false, eval (.Name y p3) X.env) :: starEach [] X.env := by rfl)
    (hpl : (backTo pos (starEach [.Tuple [.Name x p2, .Name y p3] c p4] X.env)).any (·.1) = false := by rfl) : JE X (.Call (.Name "isinstance" p) [e, .Tuple [.Name x p2, .Name y p3] c p4] [] pos) (tCB (rIsiT X.K) (tCons ue (tCons (tTup (tCons (tC (.ty T)) (tCons (tC (.ty T')) tNil))) tNil))) (dIsi2 T T' t) := by
  obtain ⟨pu, su⟩ := ha
  refine ⟨pe_callB call_isiT hg hm (by decide +kernel) (pa_cons pu (pa_cons (pe_tup (pa_cons (pe_bltn (v := .ty T) hg2 hm2 hv rfl hn hd) (pa_cons (pe_bltn (v := .ty T') hg3 hm3 hv3 rfl hn3 hd3) pa_nil hs4) hs3)) pa_nil hs2) hs) (by decide) (by decide) hs hpl, fun R h k => su R h fun v d δ1 H1 Hs1 R1 e1 r1 q => ?_⟩
  refine ⟨(by show 2 ≤ sizeLine; decide), fun tp hp => ?_⟩
  have x := PExt.raw R1.ex (.tup [.ty T, .ty T']) hp
  refine ⟨v, tp, _, _, [.type T, .type T'], isT T d || isT T' d, rfl, upd_same, .cons (.ty T) (.cons (.ty T') .nil), dp_ty (dp_mono (R1.ex.trans x.h) r1), ?_, k _ _ _ _ _ (R1.ext x) (e1.trans x.s) (.bl _) q⟩
  refine kitAny_cons (kit_ty (hT d)) (fun hb => ?_) (fun hb => by rw [hb]; rfl)
  rw [hb, Bool.false_or]
  exact kitAny_cons (kit_ty (hT' d)) (fun hb => by rw [hb]; exact kitAny_nil) (fun hb => hb)
def rSortD (K : PySem.W.Frag) : List V → Hp → VK → Prop := fun vs H Q => ∃ a xs ds, vs = [.ref a] ∧ SqL K H a xs ∧ DpAll K H xs ds ∧ PySem.W.AllAlike ds ∧ PySem.W.Sortable ds ∧ (∀ d ∈ ds, d.depth ≤ 150) ∧
  ∀ (zs : List (V × D)) p, zs.Perm (xs.zip ds) → H p = none → Q (.ref p) (upd H p (.lst (zs.map Prod.fst)))
def sortD (ds : List D) (Q : List D → Prop) : Prop := ∃ xs, ds = [.list xs] ∧ PySem.W.AllAlike xs ∧ PySem.W.Sortable xs ∧ (∀ d ∈ xs, d.depth ≤ 150) ∧ ∀ ys, ys.Perm xs → Q ys
theorem dpAll_zip {K : PySem.W.Frag} {H : Hp} : ∀ {vs : List V} {ds : List D}, DpAll K H vs ds → ∀ p ∈ vs.zip ds, Dp K H p.1 p.2
  | _, _, .nil, p, h => by simp at h
  | _, _, .cons r t, p, h => by
    rw [List.zip_cons_cons] at h
    rcases List.mem_cons.mp h with rfl | h
    · exact r
    · exact dpAll_zip t p h
theorem dpAll_unzip {K : PySem.W.Frag} {H : Hp} : ∀ {zs : List (V × D)}, (∀ p ∈ zs, Dp K H p.1 p.2) → DpAll K H (zs.map Prod.fst) (zs.map Prod.snd)
  | [], _ => .nil
  | z :: zs, h => .cons (h z List.mem_cons_self) (dpAll_unzip fun p hp => h p (List.mem_cons_of_mem _ hp))
theorem sim_sort {K : PySem.W.Frag} : SimCN K (rSortD K) sortD := by
  intro Hs H vs ds Q Q' e r h k
  obtain ⟨xs, rfl, h1, h2, h3, q⟩ := h
  cases r with
  | cons r1 r2 =>
    cases r2 with
    | nil =>
      cases r1 with
      | @lst p ws es hs a1 =>
        refine ⟨p, ws, xs, rfl, e.sl hs, dpAll_mono e a1, h1, h2, h3, fun zs p hz hp => ?_⟩
        refine k p _ (zs.map Prod.snd) hp (dpAll_unzip fun z hz' => dpAll_zip a1 z (hz.mem_iff.mp hz')) (q _ ?_)
        have := hz.map Prod.snd
        rw [List.map_snd_zip (by rw [dpAll_len a1]; exact Nat.le_refl _)] at this
        exact this
theorem each_zip {h : Heap} : ∀ {xs : List V} {ds : List D} {us : List Value} {as : List Addr}, Vals xs us → ReadsAll h us ds as →
    PySem.W.EachIs (fun (u : Value) (b : V × D) => RelV b.1 u) us (xs.zip ds) ∧ PySem.W.EachIs (fun (u : Value) (b : V × D) => ∃ as, Reads h u b.2 as) us (xs.zip ds)
  | [], _, _, _, .nil, r => by
    cases r
    exact ⟨.nil, .nil⟩
  | x :: xs, _, _, _, .cons r t, .cons q qs => ⟨.cons r (each_zip t qs).1, .cons ⟨_, q⟩ (each_zip t qs).2⟩
theorem each_vals : ∀ {us : List Value} {bs : List (V × D)}, PySem.W.EachIs (fun (u : Value) (b : V × D) => RelV b.1 u) us bs → Vals (bs.map Prod.fst) us
  | _, _, .nil => .nil
  | _, _, .cons r t => .cons r (each_vals t)
theorem sort_rule {us : List Value} {xs : List V} {ds : List D} {Q : VK} {rev : Bool} {out : List Value} (I : Inv X pins σ H s) (hz : xs.length ≤ sizeLine) (hl : xs.length = ds.length)
    (q : ∀ (zs : List (V × D)) p, zs.Perm (xs.zip ds) → H p = none → Q (.ref p) (upd H p (.lst (zs.map Prod.fst)))) (he : PySem.W.EachIs (fun (u : Value) (b : V × D) => RelV b.1 u) out ((xs.zip ds).mergeSort (PySem.W.dataLe rev Prod.snd))) :
    EP X pins σ Q (.ref (s.heap.objs.size + 1)) { s with heap := PyProof.Rows.sortedAll s.heap us (List.toArray out) } := by
  obtain ⟨ep, he'⟩ := PyProof.Rows.sortedAll_at s.heap us out.toArray
  have hp : ((xs.zip ds).mergeSort (PySem.W.dataLe rev Prod.snd)).Perm (xs.zip ds) := List.mergeSort_perm _ _
  refine ⟨.ref _, upd H (s.heap.objs.size + 1) (.lst (((xs.zip ds).mergeSort (PySem.W.dataLe rev Prod.snd)).map Prod.fst)), I.laid (t' := s.toks) (fun _ _ => PyProof.Rows.sortedAll_old) (Nat.le_succ _) ⟨?_, out, ep, each_vals he, he'⟩, rfl, q _ _ hp (I.hok.fresh (Nat.le_succ _))⟩
  rw [List.length_map, hp.length_eq, List.length_zip]
  omega
theorem cr_sortD (hu : X.A.units + 200 < cLine) : CallR X (.builtin "sorted") (rSortD X.K) := by
  intro pins s σ H vs us Q I r h
  obtain ⟨a, xs, ds, rfl, hs, ha, h1, h2, h3, q⟩ := h
  obtain ⟨its, rv, hl, hz⟩ := I.list hs
  rw [Vals.ref1 r]
  obtain ⟨as, hr⟩ := Dp.readsAll I _ _ its ha rv
  obtain ⟨e1, e2⟩ := each_zip rv hr
  have hm : (xs.zip ds).map Prod.snd = ds := List.map_snd_zip (by rw [dpAll_len ha]; exact Nat.le_refl _)
  refine PySem.W.sorted_data (enc := Prod.snd) hl.isList e1 e2 (by rw [hm]; exact h1) (by rw [hm]; exact h2) (by rw [List.length_zip]; omega) (fun b hb => ?_) fun out ho he => sort_rule I hz (dpAll_len ha) q he
  have := h3 b.2 (List.of_mem_zip (a := b.1) (b := b.2) hb).2
  omega
theorem cn_sorted (hu : X.A.units + 200 < cLine) : CallN X (.builtin "sorted") (rSortD X.K) sortD := ⟨cr_sortD hu, sim_sort⟩
end
end DL
namespace DL
open PySem PySem.Spec PyProof.Rows L2
structure EndsOk (K : PySem.W.Frag) (B H0 Hs : Hp) (D : DEnds) (D' : Ends) : Prop where
  nx : ∀ σ δ H Hs', Rep K B H0 σ δ H Hs' → Ex Hs Hs' → D.nx δ → D'.nx σ H
  rt : ∀ v d σ δ H Hs', Rep K B H0 σ δ H Hs' → Ex Hs Hs' → Dp K Hs' v d → D.rt (.dt d) δ → D'.rt v H
  rn : ∀ p vs xs σ δ H Hs', Rep K (upd B p (.lst vs)) H0 σ δ H Hs' → B p = none → H0 p = none → Ex Hs Hs' → DpAll K Hs' vs xs → D.rt (.new xs) δ → D'.rt (.ref p) H
  ro : ∀ p o a σ δ H Hs', Rep K (upd B p o) H0 σ δ H Hs' → B p = none → H0 p = none → Ex Hs Hs' → a.P K Hs' o → D.rt (.obj a) δ → D'.rt (.ref p) H
  bk : ∀ σ δ H Hs', Rep K B H0 σ δ H Hs' → Ex Hs Hs' → D.bk δ → D'.bk σ H
  ct : ∀ σ δ H Hs', Rep K B H0 σ δ H Hs' → Ex Hs Hs' → D.ct δ → D'.ct σ H
theorem EndsOk.mono {K : PySem.W.Frag} {B H0 Hs Hs1 : Hp} {D : DEnds} {D' : Ends} (k : EndsOk K B H0 Hs D D') (e : Ex Hs Hs1) : EndsOk K B H0 Hs1 D D' where
  nx := fun _ _ _ _ R x => k.nx _ _ _ _ R (e.trans x)
  rt := fun _ _ _ _ _ _ R x => k.rt _ _ _ _ _ _ R (e.trans x)
  rn := fun _ _ _ _ _ _ _ R h1 h2 x => k.rn _ _ _ _ _ _ _ R h1 h2 (e.trans x)
  ro := fun _ _ _ _ _ _ _ R h1 h2 x => k.ro _ _ _ _ _ _ _ R h1 h2 (e.trans x)
  bk := fun _ _ _ _ R x => k.bk _ _ _ _ R (e.trans x)
  ct := fun _ _ _ _ R x => k.ct _ _ _ _ R (e.trans x)
def SimS (K : PySem.W.Frag) (ts : TS) (t : TDS) : Prop := ∀ {B H0 : Hp} {σ : L2.St} {δ : Dl} {H Hs : Hp} {D : DEnds} {D' : Ends}, Rep K B H0 σ δ H Hs → t D δ → EndsOk K B H0 Hs D D' → ts D' σ H
structure JS (X : Cx) (st : Stmt) (u : TS) (t : TDS) : Prop where
  p : PS X st u
  s : SimS X.K u t
structure JSs (X : Cx) (st : List Stmt) (u : TS) (t : TDS) : Prop where
  p : PSs X st u
  s : SimS X.K u t
abbrev TDG := D → Dl → (Dl → Prop) → Prop
abbrev TDGs := List D → Dl → (Dl → Prop) → Prop
def SimG (K : PySem.W.Frag) (g : TG) (t : TDG) : Prop := ∀ {B H0 : Hp} {σ : L2.St} {δ : Dl} {H Hs : Hp} {v : V} {d : D} {Q : Dl → Prop} {Q' : L2.St → Hp → Prop}, Rep K B H0 σ δ H Hs → Dp K Hs v d → t d δ Q →
  (∀ σ' δ', Rep K B H0 σ' δ' H Hs → Q δ' → Q' σ' H) → g v σ H Q'
def SimGs (K : PySem.W.Frag) (g : TGs) (t : TDGs) : Prop := ∀ {B H0 : Hp} {σ : L2.St} {δ : Dl} {H Hs : Hp} {vs : List V} {ds : List D} {Q : Dl → Prop} {Q' : L2.St → Hp → Prop}, Rep K B H0 σ δ H Hs → DpAll K Hs vs ds → t ds δ Q →
  (∀ σ' δ', Rep K B H0 σ' δ' H Hs → Q δ' → Q' σ' H) → g vs σ H Q'
structure JG (X : Cx) (e : Expr) (u : TG) (t : TDG) : Prop where
  p : PG X e u
  s : SimG X.K u t
structure JGs (X : Cx) (es : List Expr) (u : TGs) (t : TDGs) : Prop where
  p : PGs X es u
  s : SimGs X.K u t
section
variable {X : Cx} {e a b : Expr} {es : List Expr} {pos : Pos} {t ta tb : TDE} {ue ua ub : TE} {us : TA} {vt : TT} {g : TG} {gs : TGs} {tg : TDG} {tgs : TDGs} {st : Stmt} {sts : List Stmt} {w w1 w2 : TS} {s s1 s2 : TDS}
def sNext : TDS := fun D δ => D.nx δ
def sSeq (t u : TDS) : TDS := fun D δ => t { D with nx := u D } δ
theorem js_nil : JSs X [] tNext sNext := ⟨pss_nil, fun R h k => k.nx _ _ _ _ R (Ex.refl _) h⟩
theorem js_cons (h1 : JS X st w1 s1) (h2 : JSs X sts w2 s2) : JSs X (st :: sts) (tSeq w1 w2) (sSeq s1 s2) := ⟨pss_cons h1.p h2.p, fun R h k =>
  h1.s R h ⟨fun _ _ _ _ R1 x q => h2.s R1 q (k.mono x), k.rt, k.rn, k.ro, k.bk, k.ct⟩⟩
theorem js_one (h1 : JS X st w s) : JSs X [st] w s := ⟨pss_one h1.p, h1.s⟩
def sBreak : TDS := fun D δ => D.bk δ
def sCont : TDS := fun D δ => D.ct δ
theorem js_pass : JS X (.Pass pos) tNext sNext := ⟨ps_pass, fun R h k => k.nx _ _ _ _ R (Ex.refl _) h⟩
theorem js_break : JS X (.Break pos) tBreak sBreak := ⟨ps_break, fun R h k => k.bk _ _ _ _ R (Ex.refl _) h⟩
theorem js_continue : JS X (.Continue pos) tCont sCont := ⟨ps_continue, fun R h k => k.ct _ _ _ _ R (Ex.refl _) h⟩
theorem js_doc {x j p'} : JS X (.Expr (.Constant (.str x) j pos) p') tNext sNext := ⟨ps_doc, fun R h k => k.nx _ _ _ _ R (Ex.refl _) h⟩
def sDrop (t : TDE) : TDS := fun D δ => t δ fun _ δ' => D.nx δ'
theorem js_expr (h : JE X e ue t) (hs : swapsWith e none pos.line X.env = pure false := by rfl) : JS X (.Expr e pos) (tDrop ue) (sDrop t) := ⟨ps_expr h.p hs, fun R q k => h.s R q fun _ _ _ _ _ R1 x _ q1 => k.nx _ _ _ _ R1 x q1⟩
def sRet (t : TDE) : TDS := fun D δ => t δ fun d δ' => D.rt (.dt d) δ'
theorem js_ret (h : JE X e ue t) : JS X (.Return (some e) pos) (tRet ue) (sRet t) := ⟨ps_ret h.p, fun R q k => h.s R q fun _ _ _ _ _ R1 x r q1 => k.rt _ _ _ _ _ _ R1 x r q1⟩
def sRetNew (t : TDL) : TDS := fun D δ => t δ fun xs δ' => D.rt (.new xs) δ'
theorem js_retNew {tl : TDL} (h : JN X e ue tl) : JS X (.Return (some e) pos) (tRet ue) (sRetNew tl) := ⟨ps_ret h.p, fun R q k => h.s R q fun _ _ _ _ _ _ R1 hB h0 x r q1 => k.rn _ _ _ _ _ _ _ R1 hB h0 x r q1⟩
def sRetOwn (i : Nat) : TDS := fun D δ => ∃ p xs, δ[i]? = some (.ow p (.lst xs)) ∧ D.rt (.new xs) (δ.set i .un)
theorem js_retOwn (i : Nat) {x : Str} {p : Pos} (hN : X.N[i]? = some x := by rfl) (hv : Vis X.env.scope x := by first | exact Or.inl rfl | exact Or.inr (Or.inl rfl) | exact Or.inr (Or.inr rfl)) (hd : (x == ("__debug__" : Str)) = false := by decide)
    (hcd : (x == ("__classdict__" : Str)) = false := by decide) : JS X (.Return (some (.Name x p)) pos) (tRet (tVar i)) (sRetOwn i) := ⟨ps_ret (pe_var hN hv hd hcd), fun R ⟨p, xs, ex, q⟩ k => by
  obtain ⟨vs, e1, hp, h1, h2, h3, ha, R1⟩ := R.take ex
  exact ⟨_, e1, k.rn p vs xs _ _ _ _ R1 h2 h3 (Ex.refl _) ha q⟩⟩
def sRetObj (i : Nat) : TDS := fun D δ => ∃ p a, δ[i]? = some (.ow p (OD.one a)) ∧ D.rt (.obj a) (δ.set i .un)
theorem js_retObj (i : Nat) {x : Str} {p : Pos} (hN : X.N[i]? = some x := by rfl) (hv : Vis X.env.scope x := by first | exact Or.inl rfl | exact Or.inr (Or.inl rfl) | exact Or.inr (Or.inr rfl)) (hd : (x == ("__debug__" : Str)) = false := by decide)
    (hcd : (x == ("__classdict__" : Str)) = false := by decide) : JS X (.Return (some (.Name x p)) pos) (tRet (tVar i)) (sRetObj i) := ⟨ps_ret (pe_var hN hv hd hcd), fun R ⟨p, a, ex, q⟩ k => by
  obtain ⟨o, e1, hp, h1, h2, h3, ha, R1⟩ := R.takeA ex
  exact ⟨_, e1, k.ro p o a _ _ _ _ R1 h2 h3 (Ex.refl _) ha q⟩⟩
def sRetN : TDS := fun D δ => D.rt (.dt .none) δ
theorem js_retN : JS X (.Return none pos) tRetN sRetN := ⟨ps_retN, fun R q k => k.rt _ _ _ _ _ _ R (Ex.refl _) .non q⟩
def sIf (c : TDB) (t u : TDS) : TDS := fun D δ => c δ fun b δ' => if b = true then t D δ' else u D δ'
theorem js_if {c : Expr} {tc : TDB} {x y : List Stmt} (hc : JT X c vt tc) (ha : JSs X x w1 s1) (hb : JSs X y w2 s2) : JS X (.If c x y pos) (tIfS vt w1 w2) (sIf tc s1 s2) := ⟨ps_if hc.p ha.p hb.p, fun R h k =>
  hc.s R h fun c δ1 H1 Hs1 R1 e1 q => by
    cases c with
    | true =>
      rw [if_pos rfl] at q ⊢
      exact ha.s R1 q (k.mono e1)
    | false =>
      rw [if_neg Bool.false_ne_true] at q ⊢
      exact hb.s R1 q (k.mono e1)⟩
def dgName (i : Nat) : TDG := fun d δ Q => Q (δ.set i (.dt d))
theorem jg_name {i : Nat} {x : Str} (hN : X.N.Nodup) (hi : X.N[i]? = some x := by rfl) (hx : Loc X.env.scope x := by first | exact .inl rfl | exact .inr rfl) (hf : X.fn x = true ∨ X.env.scope.names.lookup x = some .local := by first | exact .inl rfl | exact .inr rfl | assumption) : JG X (.Name x pos) (gName i) (dgName i) :=
  ⟨pg_name hN hi hx hf, fun R r q k => k _ _ (R.set r i) q⟩
def dgNil : TDGs := fun ds δ Q => ds = [] ∧ Q δ
def dgCons (t : TDG) (u : TDGs) : TDGs := fun ds δ Q => ∃ d r, ds = d :: r ∧ t d δ fun δ' => u r δ' Q
def dgTup (n : Nat) (t : TDGs) : TDG := fun d δ Q => ∃ xs, d = .tuple xs ∧ xs.length = n ∧ t xs δ Q
theorem jgs_nil : JGs X [] gNil dgNil := ⟨pgs_nil, fun R r ⟨e, q⟩ k => by
  subst e
  cases r
  exact ⟨rfl, k _ _ R q⟩⟩
theorem jgs_cons (h1 : JG X e g tg) (h2 : JGs X es gs tgs) (hs : (assignEach (e :: es) X.env).map (·.2) = assign e X.env :: (assignEach es X.env).map (·.2) := by rfl) : JGs X (e :: es) (gCons g gs) (dgCons tg tgs) := ⟨pgs_cons h1.p h2.p hs, fun R r ⟨d, ds, e, q⟩ k => by
  subst e
  cases r with
  | cons r1 r2 => exact ⟨_, _, rfl, h1.s R r1 q fun σ' δ' R1 q1 => h2.s R1 r2 q1 k⟩⟩
theorem jg_tup {c n : Nat} (hc : X.calm = true) (h : JGs X es gs tgs) (hn : (assignEach es X.env).length = n := by rfl) (hst : (assignEach es X.env).findIdx? (·.1) = none := by rfl) : JG X (.Tuple es c pos) (gTup X.K n gs) (dgTup n tgs) :=
  ⟨pg_tup hc h.p hn hst, fun R r ⟨xs, e, hl, q⟩ k => by
    subst e
    cases r with
    | tup hs ha => exact ⟨_, _, rfl, R.ex.st hs, by rw [dpAll_len ha]; exact hl, h.s R ha q k⟩⟩
def sAsg (t : TDE) (g : TDG) : TDS := fun D δ => t δ fun d δ' => g d δ' D.nx
theorem js_asg (he : JE X e ue t) (hg : JG X a g tg) (hs : swapsWithSole [a] e pos.line X.env = pure false := by rfl) (hw : swappedStores [a] e X.env = pure none := by rfl)
    (h1 : (assignEach [a] X.env).map (·.2) = [assign a X.env] := by rfl) : JS X (.Assign [a] e pos) (tAsg ue g) (sAsg t tg) := ⟨ps_asg he.p hg.p hs hw h1, fun R q k =>
  he.s R q fun _ _ _ _ _ R1 x r q1 => hg.s R1 r q1 fun _ _ R2 q2 => k.nx _ _ _ _ R2 x q2⟩
theorem js_set {i : Nat} {x : Str} {p' : Pos} (hN : X.N.Nodup) (he : JE X e ue t) (hi : X.N[i]? = some x := by rfl) (hx : Loc X.env.scope x := by first | exact .inl rfl | exact .inr rfl) (hs : swapsWith e (some (.Name x p')) pos.line X.env = pure false := by rfl)
    (hf : X.fn x = true ∨ X.env.scope.names.lookup x = some .local := by first | exact .inl rfl | exact .inr rfl | assumption) : JS X (.Assign [.Name x p'] e pos) (tAsg ue (gName i)) (sAsg t (dgName i)) := ⟨ps_set hN hi hx he.p hs hf, fun R q k =>
  he.s R q fun _ _ _ _ _ R1 x r q1 => k.nx _ _ _ _ (R1.set r i) x q1⟩
def sOwn (t : TDL) (i : Nat) : TDS := fun D δ => t δ fun xs δ' => i < δ'.length ∧ ∀ p, D.nx (δ'.set i (.ow p (.lst xs)))
theorem js_own {i : Nat} {x : Str} {p' : Pos} {tl : TDL} (hN : X.N.Nodup) (he : JN X e ue tl) (hi : X.N[i]? = some x := by rfl) (hx : Loc X.env.scope x := by first | exact .inl rfl | exact .inr rfl) (hs : swapsWith e (some (.Name x p')) pos.line X.env = pure false := by rfl)
    (hf : X.fn x = true ∨ X.env.scope.names.lookup x = some .local := by first | exact .inl rfl | exact .inr rfl | assumption) : JS X (.Assign [.Name x p'] e pos) (tAsg ue (gName i)) (sOwn tl i) := ⟨ps_set hN hi hx he.p hs hf, fun R q k =>
  he.s R q fun p vs xs δ' H' Hs' R1 hB h0 x r ⟨hl, q1⟩ => k.nx _ _ _ _ (R1.own hB h0 r hl) x (q1 p)⟩
def sFrz (i : Nat) (t : TDS) : TDS := fun D δ => ∃ p xs, δ[i]? = some (.ow p (.lst xs)) ∧ t D (δ.set i (.dt (.list xs)))
theorem js_frz (i : Nat) (h : JSs X sts w s) : JSs X sts w (sFrz i s) := ⟨h.p, fun R ⟨p, xs, e, q⟩ k => by
  obtain ⟨v, Hs', e1, x, r, R1⟩ := R.frzAt e
  exact h.s R1 q (k.mono x)⟩
def sAug (i : Nat) (t : TDE) (f : Int → Int → Int) : TDS := fun D δ => ∃ a, δ[i]? = some (.dt (.int a)) ∧ t δ fun d δ' => ∃ b, d = .int b ∧ D.nx (δ'.set i (.dt (.int (f a b))))
theorem js_aug {i : Nat} {x : Str} {op : Operator} {f : Int → Int → Int} {p' : Pos} (ho : PIp X op (ipI f)) (hN : X.N.Nodup) (he : JE X e ue t) (hi : X.N[i]? = some x := by rfl) (hx : Loc X.env.scope x := by first | exact .inl rfl | exact .inr rfl)
    (hf : X.fn x = true ∨ X.env.scope.names.lookup x = some .local := by first | exact .inl rfl | exact .inr rfl | assumption) : JS X (.AugAssign (.Name x p') op e pos) (tAug i ue (ipI f)) (sAug i t f) := ⟨ps_aug hN hi hx he.p ho hf, fun R ⟨a, e, q⟩ k => by
  obtain ⟨v, e1, r⟩ := R.get e
  cases r
  refine ⟨_, e1, he.s R q fun v d δ' H' Hs' R1 x r ⟨b, eb, q1⟩ => ?_⟩
  subst eb
  cases r
  exact ⟨a, b, rfl, rfl, k.nx _ _ _ _ (R1.set (.int _) i) x q1⟩⟩
def sApp (i : Nat) (t : TDE) : TDS := fun D δ => (∃ p xs, δ[i]? = some (.ow p (.lst xs))) ∧ t δ fun d δ' => ∃ p xs, δ'[i]? = some (.ow p (.lst xs)) ∧ xs.length ≤ 100000 ∧ D.nx (δ'.set i (.ow p (.lst (xs ++ [d]))))
theorem own_at {K : PySem.W.Frag} {B H0 H Hs : Hp} {σ : L2.St} {δ : Dl} {i : Nat} {p : Addr} {xs : List D} (R : Rep K B H0 σ δ H Hs) (h : δ[i]? = some (.ow p (.lst xs))) : ∃ vs, σ[i]? = some (some (.ref p)) ∧ H p = some (.lst vs) ∧ DpAll K Hs vs xs := by
  obtain ⟨vs, e, hp, _, _, _, ha, _⟩ := R.take h
  exact ⟨vs, e, hp, ha⟩
theorem lt_line {n : Nat} (h : n ≤ 100000) : n < sizeLine := Nat.lt_of_le_of_lt h (by decide)
theorem je_tVar {K : PySem.W.Frag} {B H0 H Hs : Hp} {σ : L2.St} {δ : Dl} {i : Nat} {p : Addr} {xs : List D} {Q : VK} (R : Rep K B H0 σ δ H Hs) (h : δ[i]? = some (.ow p (.lst xs))) (q : Q (.ref p) H) : tVar i σ H Q := by
  obtain ⟨vs, e, hp, ha⟩ := own_at R h
  exact ⟨_, e, q⟩
theorem js_app {x : Str} {p1 p2 p3 : Pos} (i : Nat) (he : JE X e ue t) (hN : X.N[i]? = some x := by rfl) (hv : Vis X.env.scope x := by first | exact Or.inl rfl | exact Or.inr (Or.inl rfl) | exact Or.inr (Or.inr rfl)) (hd : (x == ("__debug__" : Str)) = false := by decide)
    (hcd : (x == ("__classdict__" : Str)) = false := by decide) (hs : starEach [e] X.env = (false, eval e X.env) :: starEach [] X.env := by rfl)
    (h1 : PE X (.Call (.Attribute (.Name x p1) "append" p2) [e] [] p3) (tBM X.K "list" rAppend (tVar i) (tCons ue tNil)) → PS X (.Expr (.Call (.Attribute (.Name x p1) "append" p2) [e] [] p3) pos) (tDrop (tBM X.K "list" rAppend (tVar i) (tCons ue tNil))) := by exact fun z => ps_expr z)
    (h2 : PE X (.Name x p1) (tVar i) → PA X [e] (tCons ue tNil) → PE X (.Call (.Attribute (.Name x p1) "append" p2) [e] [] p3) (tBM X.K "list" rAppend (tVar i) (tCons ue tNil)) := by exact fun z y => pe_bm PySem.F.plainAttrs_list PySem.F.slot_list_append PySem.F.type_list_append mt_append z y) :
    JS X (.Expr (.Call (.Attribute (.Name x p1) "append" p2) [e] [] p3) pos) (tDrop (tBM X.K "list" rAppend (tVar i) (tCons ue tNil))) (sApp i t) := by
  refine ⟨h1 (h2 (pe_var hN hv hd hcd) (pa_cons he.p pa_nil hs)), fun R ⟨⟨p, xs, ex⟩, q⟩ k => ?_⟩
  obtain ⟨vs, e1, hp, ha⟩ := own_at R ex
  refine ⟨_, e1, .inl ⟨rfl, vs, .inl (.inl hp)⟩, he.s R q fun v d δ' H' Hs' R1 x r ⟨p', ys, ey, hl, q1⟩ => ?_⟩
  obtain ⟨ws, e2, hp2, ha2⟩ := own_at R1 ey
  rw [e1] at e2
  cases e2
  refine ⟨p, ws, v, rfl, rfl, hp2, by rw [dpAll_len ha2]; exact lt_line hl, ?_⟩
  exact k.nx _ _ _ _ (R1.change ey (dpAll_app ha2 (.cons r .nil))) x q1
def dPop (i : Nat) : TDE := fun δ Q => ∃ p xs d, δ[i]? = some (.ow p (.lst (xs ++ [d]))) ∧ Q d (δ.set i (.ow p (.lst xs)))
theorem dpAll_snoc {K : PySem.W.Frag} {H : Hp} {vs : List V} {ds : List D} {d : D} (h : DpAll K H vs (ds ++ [d])) : ∃ ws v, vs = ws ++ [v] ∧ DpAll K H ws ds ∧ Dp K H v d := by
  induction ds generalizing vs with
  | nil =>
    cases h with
    | cons r t =>
      cases t
      exact ⟨[], _, rfl, .nil, r⟩
  | cons x xs ih =>
    cases h with
    | cons r t =>
      obtain ⟨ws, v, rfl, h1, h2⟩ := ih t
      exact ⟨_ :: ws, v, rfl, .cons r h1, h2⟩
theorem je_pop {x : Str} {p1 p2 p3 : Pos} (i : Nat) (hN : X.N[i]? = some x := by rfl) (hv : Vis X.env.scope x := by first | exact Or.inl rfl | exact Or.inr (Or.inl rfl) | exact Or.inr (Or.inr rfl)) (hd : (x == ("__debug__" : Str)) = false := by decide)
    (hcd : (x == ("__classdict__" : Str)) = false := by decide)
    (h2 : PE X (.Name x p1) (tVar i) → PE X (.Call (.Attribute (.Name x p1) "pop" p2) [] [] p3) (tBM0 X.K "list" rPop (tVar i)) := by exact fun z => pe_bm0 PySem.F.plainAttrs_list PySem.F.slot_list_pop PySem.F.type_list_pop mt_pop z) :
    JE X (.Call (.Attribute (.Name x p1) "pop" p2) [] [] p3) (tBM0 X.K "list" rPop (tVar i)) (dPop i) := by
  refine ⟨h2 (pe_var hN hv hd hcd), fun R ⟨p, xs, d, ex, q⟩ k => ?_⟩
  obtain ⟨vs, e1, hp, ha⟩ := own_at R ex
  obtain ⟨ws, v, rfl, h1, h3⟩ := dpAll_snoc ha
  refine ⟨_, e1, .inl ⟨rfl, _, .inl (.inl hp)⟩, p, ws ++ [v], v, rfl, rfl, hp, by simp, ?_⟩
  rw [List.dropLast_concat]
  exact k _ _ _ _ _ (R.change ex h1) (Ex.refl _) h3 q
def dLenO (i : Nat) : TDE := fun δ Q => ∃ p xs, δ[i]? = some (.ow p (.lst xs)) ∧ Q (.int xs.length) δ
theorem je_lenO {x : Str} {p1 p2 : Pos} (i : Nat) (hg : Gl X "len") (hm : X.mg "len" = none) (hN : X.N[i]? = some x := by rfl) (hv : Vis X.env.scope x := by first | exact Or.inl rfl | exact Or.inr (Or.inl rfl) | exact Or.inr (Or.inr rfl)) (hd : (x == ("__debug__" : Str)) = false := by decide)
    (hcd : (x == ("__classdict__" : Str)) = false := by decide) (hs : starEach [.Name x p2] X.env = (false, eval (.Name x p2) X.env) :: starEach [] X.env := by rfl) (hpl : (backTo pos (starEach [] X.env)).any (·.1) = false := by rfl) :
    JE X (.Call (.Name "len" p1) [.Name x p2] [] pos) (tCB (rLenU X.K) (tCons (tVar i) tNil)) (dLenO i) :=
  ⟨pe_callB call_len hg hm PySem.boot_len (pa_cons (pe_var hN hv hd hcd) pa_nil hs) (by decide) (by decide) hs hpl, fun R ⟨p, xs, ex, q⟩ k => by
    obtain ⟨vs, e1, hp, ha⟩ := own_at R ex
    exact ⟨_, e1, _, xs.length, rfl, .inl ⟨vs, .inl (.inl hp), (dpAll_len ha).symm⟩, k _ _ _ _ _ R (Ex.refl _) (.int _) q⟩⟩
def sSetO (i : Nat) (tj t : TDE) : TDS := fun D δ => t δ fun d δ1 => (∃ p xs, δ1[i]? = some (.ow p (.lst xs))) ∧ tj δ1 fun dj δ2 => ∃ p xs j k, δ2[i]? = some (.ow p (.lst xs)) ∧ dj = .int j ∧ ixN xs.length j = some k ∧ D.nx (δ2.set i (.ow p (.lst (xs.set k d))))
theorem js_setO {x : Str} {p1 p2 : Pos} {j : Expr} {uj : TE} {tj : TDE} (i : Nat) (hj : JE X j uj tj) (he : JE X e ue t) (hN : X.N[i]? = some x := by rfl) (hv : Vis X.env.scope x := by first | exact Or.inl rfl | exact Or.inr (Or.inl rfl) | exact Or.inr (Or.inr rfl)) (hd : (x == ("__debug__" : Str)) = false := by decide)
    (hcd : (x == ("__classdict__" : Str)) = false := by decide)
    (h1 : PE X (.Name x p1) (tVar i) → PE X j uj → PE X e ue → PS X (.Assign [.Subscript (.Name x p1) j p2] e pos) (tAsg ue (gSub (tVar i) uj rSetL)) := by exact fun z y v => ps_asg v (pg_sub z y set_list)) :
    JS X (.Assign [.Subscript (.Name x p1) j p2] e pos) (tAsg ue (gSub (tVar i) uj rSetL)) (sSetO i tj t) := by
  refine ⟨h1 (pe_var hN hv hd hcd) hj.p he.p, fun R q k => he.s R q fun v d δ1 H1 Hs1 R1 x1 r ⟨⟨p, xs, ex⟩, q1⟩ => ?_⟩
  obtain ⟨vs, e1, hp, ha⟩ := own_at R1 ex
  refine ⟨_, e1, hj.s R1 q1 fun u dj δ2 H2 Hs2 R2 x2 r2 ⟨p', ys, j', k', ey, ej, hk, q2⟩ => ?_⟩
  subst ej
  cases r2
  obtain ⟨ws, e2, hp2, ha2⟩ := own_at R2 ey
  rw [e1] at e2
  cases e2
  refine ⟨p, ws, j', k', rfl, rfl, hp2, by rw [dpAll_len ha2]; exact hk, ?_⟩
  exact k.nx _ _ _ _ (R2.change ey (dpAll_set (dp_mono x2 r) k' ha2)) (x1.trans x2) q2
end
end DL
namespace DL
open PySem PySem.Spec PyProof.Rows L2
abbrev TDI := Dl → (List D → Dl → Prop) → Prop
def ItOk (K : PySem.W.Frag) (J : It) (xs : List D) (Hs : Hp) : Prop := ∀ (i : Nat) (H Hs1 : Hp), Ex Hs Hs1 → Ex Hs1 H → (xs.length ≤ i → J.stop i H) ∧
  ∀ d, xs[i]? = some d → J.go i H ∧ ∀ x H', J.yld i H x H' → ∃ Hs2, PExt Hs1 H Hs2 H' ∧ Dp K Hs2 x d
def SimI (K : PySem.W.Frag) (wi : TI) (t : TDI) : Prop := ∀ {B H0 : Hp} {σ : L2.St} {δ : Dl} {H Hs : Hp} {Q : List D → Dl → Prop} {R' : It → Hp → Prop}, Rep K B H0 σ δ H Hs → t δ Q →
  (∀ J xs δ' H' Hs', Rep K B H0 σ δ' H' Hs' → Ex Hs Hs' → ItOk K J xs Hs' → Q xs δ' → R' J H') → wi σ H R'
structure JI (X : Cx) (tg iter : Expr) (u : TI) (t : TDI) : Prop where
  p : PI X tg iter u
  s : SimI X.K u t
section
variable {X : Cx} {e a b tg : Expr} {es : List Expr} {pos : Pos} {t ta tb : TDE} {ue ua ub : TE} {us : TA} {vt : TT} {g : TG} {dg : TDG} {sts : List Stmt} {w : TS} {s : TDS} {wi : TI} {ti : TDI}
def iLst (t : TDE) : TDI := fun δ Q => t δ fun d δ' => ∃ xs, d = .list xs ∧ Q xs δ'
theorem it_list {K : PySem.W.Frag} {Hs : Hp} {a : Addr} {vs : List V} {xs : List D} (h : SqL K Hs a vs) (ha : DpAll K Hs vs xs) : ItOk K (Itl K a) xs Hs := fun i H Hs1 e1 e2 =>
  ⟨fun hi => ⟨vs, (e1.trans e2).sl h, by rw [dpAll_len ha]; exact hi⟩, fun d hd => by
    obtain ⟨v, hv, r⟩ := dpAll_get ha hd
    refine ⟨⟨vs, v, (e1.trans e2).sl h, hv⟩, fun x H' ⟨e, y⟩ => ?_⟩
    subst e
    have z := y vs ((e1.trans e2).sl h)
    rw [hv] at z
    cases z
    exact ⟨Hs1, PExt.refl e2, dp_mono e1 r⟩⟩
theorem it_tup {K : PySem.W.Frag} {Hs : Hp} {a : Addr} {vs : List V} {xs : List D} (h : SqT K Hs a vs) (ha : DpAll K Hs vs xs) : ItOk K (Itt K a) xs Hs := fun i H Hs1 e1 e2 =>
  ⟨fun hi => ⟨vs, (e1.trans e2).st h, by rw [dpAll_len ha]; exact hi⟩, fun d hd => by
    obtain ⟨v, hv, r⟩ := dpAll_get ha hd
    refine ⟨⟨vs, v, (e1.trans e2).st h, hv⟩, fun x H' ⟨e, y⟩ => ?_⟩
    subst e
    have z := y vs ((e1.trans e2).st h)
    rw [hv] at z
    cases z
    exact ⟨Hs1, PExt.refl e2, dp_mono e1 r⟩⟩
theorem ji_list (h : JE X e ue t) : JI X tg e (iList X.K ue) (iLst t) := ⟨pi_list h.p, fun R q k => h.s R q fun v d δ1 H1 Hs1 R1 e1 r1 ⟨xs, e, q1⟩ => by
  subst e
  cases r1 with
  | @lst a vs ds hs ha => exact ⟨a, rfl, ⟨vs, R1.ex.sl hs⟩, k _ _ _ _ _ R1 e1 (it_list hs ha) q1⟩⟩
def iTupD (t : TDE) : TDI := fun δ Q => t δ fun d δ' => ∃ xs, d = .tuple xs ∧ Q xs δ'
theorem ji_tup (h : JE X e ue t) : JI X tg e (iTup X.K ue) (iTupD t) := ⟨pi_tup h.p, fun R q k => h.s R q fun v d δ1 H1 Hs1 R1 e1 r1 ⟨xs, e, q1⟩ => by
  subst e
  cases r1 with
  | @tup a vs ds hs ha => exact ⟨a, rfl, ⟨vs, R1.ex.st hs⟩, k _ _ _ _ _ R1 e1 (it_tup hs ha) q1⟩⟩
def rngD (lo : Int) (n : Nat) : List D := (List.range n).map fun (i : Nat) => PyData.int (lo + (i : Int))
theorem it_rng {K : PySem.W.Frag} {Hs : Hp} (lo : Int) (n : Nat) : ItOk K (Itr lo n) (rngD lo n) Hs := fun i H Hs1 e1 e2 =>
  ⟨fun hi => by
    unfold rngD at hi
    rw [List.length_map, List.length_range] at hi
    exact hi, fun d hd => by
    unfold rngD at hd
    rw [List.getElem?_map] at hd
    by_cases hi : i < n
    · rw [List.getElem?_range hi] at hd
      cases hd
      exact ⟨hi, fun x H' ⟨e, y⟩ => by
        subst e y
        exact ⟨Hs1, PExt.refl e2, .int _⟩⟩
    · rw [List.getElem?_eq_none (by rw [List.length_range]; omega)] at hd
      cases hd⟩
def iRg1 (t : TDL) : TDI := fun δ Q => t δ fun ds δ' => ∃ n : Int, ds = [.int n] ∧ n ≤ 1000000 ∧ -1000000 ≤ n ∧ Q (rngD 0 n.toNat) δ'
theorem ji_range1 {p p2 : Pos} {u : TDL} (hg : Gl X "range") (hm : X.mg "range" = none) (ha : JA X [a] us u) (hs : starEach [a] X.env = [(false, eval a X.env)] := by rfl) : JI X tg (.Call (.Name "range" p) [a] [] p2) (iRng1 us) (iRg1 u) :=
  ⟨pi_range1 hg hm ha.p hs, fun R q k => ha.s R q fun vs ds δ1 H1 Hs1 R1 e1 r1 ⟨n, e, h1, h2, q1⟩ => by
    subst e
    cases r1 with
    | cons r1 r2 =>
      cases r1
      cases r2
      exact ⟨n, rfl, by omega, by omega, k _ _ _ _ _ R1 e1 (it_rng 0 n.toNat) q1⟩⟩
def iRg2 (t : TDL) : TDI := fun δ Q => t δ fun ds δ' => ∃ m n : Int, ds = [.int m, .int n] ∧ (n ≤ 1000000 ∧ -1000000 ≤ n ∧ m ≤ 1000000 ∧ -1000000 ≤ m) ∧ Q (rngD m (n - m).toNat) δ'
theorem ji_range2 {p p2 : Pos} {u : TDL} (hg : Gl X "range") (hm : X.mg "range" = none) (ha : JA X [a, b] us u) (hs : starEach [a, b] X.env = [(false, eval a X.env), (false, eval b X.env)] := by rfl) (hs2 : starEach [b] X.env = [(false, eval b X.env)] := by rfl) : JI X tg (.Call (.Name "range" p) [a, b] [] p2) (iRng2 us) (iRg2 u) :=
  ⟨pi_range2 hg hm ha.p hs hs2, fun R q k => ha.s R q fun vs ds δ1 H1 Hs1 R1 e1 r1 ⟨m, n, e, h1, q1⟩ => by
    subst e
    cases r1 with
    | cons r1 r2 =>
      cases r2 with
      | cons r2 r3 =>
        cases r1
        cases r2
        cases r3
        exact ⟨m, n, rfl, by omega, k _ _ _ _ _ R1 e1 (it_rng m (n - m).toNat) q1⟩⟩
def sForGo (dg : TDG) (s : TDS) (D0 : DEnds) : List D → Dl → Prop
  | [], δ => D0.nx δ
  | x :: xs, δ => dg x δ fun δ1 => s { D0 with nx := sForGo dg s D0 xs, ct := sForGo dg s D0 xs, bk := D0.nx } δ1
def sFor (ti : TDI) (dg : TDG) (s : TDS) : TDS := fun D δ => ti δ fun xs δ' => sForGo dg s D xs δ'
theorem js_for (hc : X.calm = true) (hi : JI X tg a wi ti) (hg : JG X tg g dg) (hb : JSs X sts w s) (hs : ∀ x, foldedSetIterable a X.env x = pure x := by intro _; rfl) (hp : PassesOwn (model X.prog X.w) X.A X.env X.xe := by exact PassesOwn.never) : JS X (.For tg a sts [] pos) (tFor wi g w) (sFor ti dg s) := by
  refine ⟨ps_for hp hc hi.p hg.p hb.p hs, ?_⟩
  intro B H0 σ δ H Hs D0 D' R q k
  refine hi.s R q fun J xs δ1 H1 Hs1 R1 e1 it q1 => ?_
  have k1 := k.mono e1
  refine ⟨fun i m σ' H' => m + i = xs.length ∧ ∃ δ' Hs', Rep X.K B H0 σ' δ' H' Hs' ∧ Ex Hs1 Hs' ∧ sForGo dg s D0 (xs.drop i) δ', ⟨xs.length, by omega, δ1, Hs1, R1, Ex.refl _, q1⟩, ?_⟩
  rintro i m σ' H' ⟨hm, δ', Hs', R', e', q'⟩
  obtain ⟨h1, h2⟩ := it i H' Hs' e' R'.ex
  by_cases hi' : i < xs.length
  · obtain ⟨go, yl⟩ := h2 xs[i] (List.getElem?_eq_getElem hi')
    rw [List.drop_eq_getElem_cons hi'] at q'
    refine .inr ⟨go, fun σ2 H2 => ∃ δ2 Hs2, Rep X.K B H0 σ2 δ2 H2 Hs2 ∧ Ex Hs1 Hs2 ∧ sForGo dg s D0 (xs.drop (i + 1)) δ2, fun σ2 H2 ⟨δ2, Hs2, R2, e2, q2⟩ => ⟨m - 1, by omega, by omega, δ2, Hs2, R2, e2, q2⟩, fun x H2 y => ?_⟩
    obtain ⟨Hs2, x2, r2⟩ := yl x H2 y
    refine hg.s (R'.ext x2) r2 q' fun σ3 δ3 R3 q3 => ?_
    have e3 := e'.trans x2.s
    exact hb.s R3 q3 ⟨fun σ4 δ4 H4 Hs4 R4 e4 q4 => ⟨δ4, Hs4, R4, e3.trans e4, q4⟩, (k1.mono e3).rt, (k1.mono e3).rn, (k1.mono e3).ro, (k1.mono e3).nx, fun σ4 δ4 H4 Hs4 R4 e4 q4 => ⟨δ4, Hs4, R4, e3.trans e4, q4⟩⟩
  · have ed : xs.drop i = [] := List.drop_eq_nil_of_le (by omega)
    rw [ed] at q'
    exact .inl ⟨h1 (by omega), k1.nx _ _ _ _ R' e' q'⟩
def sWhile (tc : TDB) (s : TDS) : TDS := fun D δ => ∃ W : Nat → Dl → Prop, (∃ m, W m δ) ∧ ∀ m δ, W m δ → tc δ fun b δ1 => if b = true then s { D with nx := fun δ' => ∃ m', m' < m ∧ W m' δ', ct := fun δ' => ∃ m', m' < m ∧ W m' δ', bk := D.nx } δ1 else D.nx δ1
theorem js_while {c : Expr} {tc : TDB} (hc : JT X c vt tc) (hb : JSs X sts w s) (hp : PassesOwn (model X.prog X.w) X.A X.env X.xe := by exact PassesOwn.never) : JS X (.While c sts [] pos) (tWhile vt w) (sWhile tc s) := by
  refine ⟨ps_while hp hc.p hb.p, ?_⟩
  intro B H0 σ δ H Hs D0 D' R q k
  obtain ⟨W, ⟨m0, w0⟩, turn⟩ := q
  refine ⟨fun m σ' H' => ∃ δ' Hs', Rep X.K B H0 σ' δ' H' Hs' ∧ Ex Hs Hs' ∧ W m δ', ⟨m0, δ, Hs, R, Ex.refl _, w0⟩, ?_⟩
  rintro m σ' H' ⟨δ', Hs', R', e', w'⟩
  refine hc.s R' (turn m δ' w') fun c δ1 H1 Hs1 R1 e1 q1 => ?_
  cases c with
  | true =>
    rw [if_pos rfl] at q1 ⊢
    have e2 := e'.trans e1
    refine ⟨fun σ2 H2 => ∃ δ2 Hs2, Rep X.K B H0 σ2 δ2 H2 Hs2 ∧ Ex Hs Hs2 ∧ ∃ m', m' < m ∧ W m' δ2, fun σ2 H2 ⟨δ2, Hs2, R2, e3, n2⟩ => ?_, ?_⟩
    · obtain ⟨m', hm, w2⟩ := n2
      exact ⟨m', hm, δ2, Hs2, R2, e3, w2⟩
    · exact hb.s R1 q1 ⟨fun σ4 δ4 H4 Hs4 R4 e4 q4 => ⟨δ4, Hs4, R4, e2.trans e4, q4⟩, (k.mono e2).rt, (k.mono e2).rn, (k.mono e2).ro, (k.mono e2).nx, fun σ4 δ4 H4 Hs4 R4 e4 q4 => ⟨δ4, Hs4, R4, e2.trans e4, q4⟩⟩
  | false =>
    rw [if_neg Bool.false_ne_true] at q1 ⊢
    exact k.nx _ _ _ _ R1 (e'.trans e1) q1
def wipeD (δ : Dl) : List Nat → Dl
  | [] => δ
  | v :: vs => (wipeD δ vs).set v .un
def mixD (δ2 δ : Dl) : List Nat → Dl
  | [] => δ2
  | v :: vs => (mixD δ2 δ vs).set v (δ[v]?.getD .un)
def mixS (σ2 σ : L2.St) : List Nat → L2.St
  | [] => σ2
  | v :: vs => (mixS σ2 σ vs).set v (σ[v]?.getD none)
def isOw : SD → Bool
  | .ow _ _ => true
  | _ => false
theorem Rep.setUn {K : PySem.W.Frag} {B H0 H Hs : Hp} {σ : L2.St} {δ : Dl} (R : Rep K B H0 σ δ H Hs) (i : Nat) (x : Option V) : Rep K B H0 (σ.set i x) (δ.set i .un) H Hs where
  len := by rw [List.length_set, List.length_set, R.len]
  ex := R.ex
  base := R.base
  frz := R.frz
  frs := R.frs
  sl := by
    obtain ⟨fps, F⟩ := R.sl
    refine ⟨fun j b => j ≠ i ∧ fps j b, fun j s hs => ?_, fun j hj b hb => F.out j (by rw [List.length_set] at hj; exact hj) b hb.2, fun j k b h1 h2 => F.dj j k b h1.2 h2.2⟩
    by_cases hj : i = j
    · subst hj
      have hl : i < δ.length := by
        have := (List.getElem?_eq_some_iff.mp hs).1
        rw [List.length_set] at this
        exact this
      rw [List.getElem?_set_self hl] at hs
      cases hs
      exact ⟨x, List.getElem?_set_self (by rw [R.len]; exact hl), fun b hb => hb.1 rfl⟩
    · rw [List.getElem?_set_ne hj] at hs
      obtain ⟨x, e, q⟩ := F.sl j s hs
      refine ⟨x, by rw [List.getElem?_set_ne hj]; exact e, ?_⟩
      have : (fun b => j ≠ i ∧ fps j b) = fps j := funext fun b => propext ⟨fun z => z.2, fun z => ⟨fun z => hj z.symm, z⟩⟩
      rw [this]
      exact q
theorem Rep.wipe {K : PySem.W.Frag} {B H0 H Hs : Hp} {σ : L2.St} {δ : Dl} (R : Rep K B H0 σ δ H Hs) : ∀ vs : List Nat, Rep K B H0 (L2.wipe σ vs) (wipeD δ vs) H Hs
  | [] => R
  | v :: vs => (R.wipe vs).setUn v none
theorem Rep.mix {K : PySem.W.Frag} {B H0 H Hs H2 Hs2 : Hp} {σ σ2 : L2.St} {δ δ2 : Dl} (R : Rep K B H0 σ δ H Hs) (R2 : Rep K B H0 σ2 δ2 H2 Hs2) (e : Ex Hs Hs2) : ∀ vs : List Nat, (∀ v ∈ vs, ∃ s, δ[v]? = some s ∧ isOw s = false) → Rep K B H0 (mixS σ2 σ vs) (mixD δ2 δ vs) H2 Hs2
  | [], _ => R2
  | v :: vs, h => by
    have ih := R.mix R2 e vs fun u hu => h u (List.mem_cons_of_mem _ hu)
    obtain ⟨s, hs, ho⟩ := h v List.mem_cons_self
    obtain ⟨fps, F⟩ := R.sl
    obtain ⟨x, ex, r⟩ := F.sl v s hs
    show Rep K B H0 ((mixS σ2 σ vs).set v (σ[v]?.getD none)) ((mixD δ2 δ vs).set v (δ[v]?.getD .un)) H2 Hs2
    rw [hs, ex]
    cases s with
    | un => exact ih.setUn v x
    | dt d =>
      cases x with
      | none => exact r.elim
      | some y => exact ih.set (dp_mono e r.1) v
    | ow p o => cases ho
theorem mixS_len (σ2 σ : L2.St) : ∀ vs, (mixS σ2 σ vs).length = σ2.length
  | [] => rfl
  | v :: vs => by
    unfold mixS
    rw [List.length_set, mixS_len σ2 σ vs]
theorem mixS_get {σ2 σ : L2.St} (hl : σ2.length = σ.length) {i : Nat} (hi : i < σ.length) : ∀ vs : List Nat, (mixS σ2 σ vs)[i]? = if i ∈ vs then σ[i]? else σ2[i]?
  | [] => by rw [if_neg (by simp)]; rfl
  | v :: vs => by
    show ((mixS σ2 σ vs).set v (σ[v]?.getD none))[i]? = _
    by_cases hv : v = i
    · subst hv
      rw [List.getElem?_set_self (by rw [mixS_len, hl]; exact hi), if_pos List.mem_cons_self, List.getElem?_eq_getElem hi]
      rfl
    · rw [List.getElem?_set_ne hv, mixS_get hl hi vs]
      by_cases hm : i ∈ vs
      · rw [if_pos hm, if_pos (List.mem_cons_of_mem _ hm)]
      · rw [if_neg hm, if_neg (fun z => by rcases List.mem_cons.mp z with z | z; exact hv z.symm; exact hm z)]
theorem mixS_eq {σ2 σ : L2.St} {vs : List Nat} (h : L2.wipe σ2 vs = L2.wipe σ vs) : mixS σ2 σ vs = σ := by
  have hl : σ2.length = σ.length := by
    have := congrArg List.length h
    rw [wipe_length, wipe_length] at this
    exact this
  refine List.ext_getElem? fun i => ?_
  by_cases hi : i < σ.length
  · rw [mixS_get hl hi vs]
    by_cases hm : i ∈ vs
    · rw [if_pos hm]
    · rw [if_neg hm]
      have := congrArg (fun l => l[i]?) h
      simp only [wipe_out hm] at this
      exact this
  · rw [List.getElem?_eq_none (by rw [mixS_len, hl]; omega), List.getElem?_eq_none (by omega)]
def dLcGo (dg : TDG) (tt : TDB) (te : TDE) (vs : List Nat) (Q : List D → Dl → Prop) : List D → List D → Dl → Prop
  | [], acc, δ => Q acc δ
  | x :: xs, acc, δ => dg x (wipeD δ vs) fun δ1 => tt δ1 fun b δ2 => if b = true then te δ2 fun y δ3 => acc.length ≤ 100000 ∧ dLcGo dg tt te vs Q xs (acc ++ [y]) (mixD δ3 δ vs) else dLcGo dg tt te vs Q xs acc (mixD δ2 δ vs)
def dLc (ti : TDI) (dg : TDG) (tt : TDB) (te : TDE) (vs : List Nat) : TDL := fun δ Q => (∀ v ∈ vs, ∃ s, δ[v]? = some s ∧ isOw s = false) ∧ ti δ fun xs δ' => (∀ v ∈ vs, ∃ s, δ'[v]? = some s ∧ isOw s = false) ∧ dLcGo dg tt te vs Q xs [] δ'
theorem wipe_own {σ : L2.St} {i : Nat} {x : Option V} : ∀ {vs : List Nat}, i ∈ vs → L2.wipe ((L2.wipe σ vs).set i x) vs = L2.wipe σ vs := by
  intro vs hi
  refine List.ext_getElem? fun j => ?_
  have key : ∀ (us : List Nat) (τ : L2.St), j ∈ us → j < τ.length → (L2.wipe τ us)[j]? = some none := by
    intro us
    induction us with
    | nil => intro τ h; simp at h
    | cons v us ih =>
      intro τ h hl
      show ((L2.wipe τ us).set v none)[j]? = some none
      by_cases hv : v = j
      · subst hv
        rw [List.getElem?_set_self (by rw [wipe_length]; exact hl)]
      · rw [List.getElem?_set_ne hv]
        rcases List.mem_cons.mp h with z | z
        · exact absurd z.symm hv
        · exact ih τ z hl
  by_cases hj : j ∈ vs
  · by_cases hl : j < σ.length
    · rw [key vs _ hj (by rw [List.length_set, wipe_length]; exact hl), key vs _ hj hl]
    · rw [List.getElem?_eq_none (by rw [wipe_length, List.length_set, wipe_length]; omega), List.getElem?_eq_none (by rw [wipe_length]; omega)]
  · rw [wipe_out hj, List.getElem?_set_ne (fun (z : i = j) => hj (z ▸ hi)), wipe_out hj]
theorem sim_lc {K : PySem.W.Frag} {i : Nat} {vt : TT} {ue : TE} {tt : TDB} {te : TDE} {vs : List Nat} (hi : SimI K wi ti) (ht : SimT K vt tt) (he : SimE K ue te) (hv : i ∈ vs) : SimN K (tLc wi (gName i) vt ue vs) (dLc ti (dgName i) tt te vs) := by
  intro B H0 σ δ H Hs Q Q' R q k
  obtain ⟨_, q⟩ := q
  refine hi R q fun J xs δ1 H1 Hs1 R1 e1 it ⟨ho, q1⟩ => ?_
  intro p hp
  have hB : B p = none := R1.base.none hp
  have hH0 : H0 p = none := R1.frz.none (R1.ex.none hp)
  refine ⟨fun j m H' => m + j = xs.length ∧ ∃ δ' Hs' acc vacc, Rep K (upd B p (.lst vacc)) H0 σ δ' H' Hs' ∧ Ex Hs1 Hs' ∧ DpAll K Hs' vacc acc ∧ (∀ v ∈ vs, ∃ s, δ'[v]? = some s ∧ isOw s = false) ∧ dLcGo (dgName i) tt te vs Q (xs.drop j) acc δ',
    ⟨xs.length, by omega, δ1, Hs1, [], [], R1.hide hp, Ex.refl _, .nil, ho, q1⟩, ?_⟩
  rintro j m H' ⟨hm, δ', Hs', acc, vacc, R', e', ha, ho', q'⟩
  obtain ⟨h1, h2⟩ := it j H' Hs' e' R'.ex
  by_cases hj : j < xs.length
  · obtain ⟨go, yl⟩ := h2 xs[j] (List.getElem?_eq_getElem hj)
    rw [List.drop_eq_getElem_cons hj] at q'
    refine .inr ⟨go, fun H2 => ∃ δ2 Hs2 acc vacc, Rep K (upd B p (.lst vacc)) H0 σ δ2 H2 Hs2 ∧ Ex Hs1 Hs2 ∧ DpAll K Hs2 vacc acc ∧ (∀ v ∈ vs, ∃ s, δ2[v]? = some s ∧ isOw s = false) ∧ dLcGo (dgName i) tt te vs Q (xs.drop (j + 1)) acc δ2,
      fun H2 ⟨δ2, Hs2, acc2, vacc2, R2, e2, a2, o2, q2⟩ => ⟨m - 1, by omega, by omega, δ2, Hs2, acc2, vacc2, R2, e2, a2, o2, q2⟩, fun x H2 y => ?_⟩
    obtain ⟨Hs2, x2, r2⟩ := yl x H2 y
    have R2 := R'.ext x2
    have R3 := (R2.wipe vs).set r2 i
    have hw : L2.wipe ((L2.wipe σ vs).set i (some x)) vs = L2.wipe σ vs := wipe_own hv
    refine ⟨hw, ht R3 q' fun c δ4 H4 Hs4 R4 e4 q4 => ?_⟩
    have mono : ∀ {δx : Dl}, (∀ v ∈ vs, ∃ s, (mixD δx δ' vs)[v]? = some s ∧ isOw s = false) ↔ (∀ v ∈ vs, ∃ s, (mixD δx δ' vs)[v]? = some s ∧ isOw s = false) := Iff.rfl
    have keep : ∀ {δx : Dl} {us : List Nat}, δx.length = δ'.length → (∀ v ∈ us, v ∈ vs) → ∀ v ∈ us, ∃ s, (mixD δx δ' us)[v]? = some s ∧ isOw s = false := by
      intro δx us hl
      have ml : ∀ us, (mixD δx δ' us).length = δx.length := by
        intro us
        induction us with
        | nil => rfl
        | cons v us ih =>
          show ((mixD δx δ' us).set v _).length = _
          rw [List.length_set, ih]
      induction us with
      | nil =>
        intro _ v hv
        simp at hv
      | cons u us ih =>
        intro hsub v hv
        show ∃ s, ((mixD δx δ' us).set u (δ'[u]?.getD .un))[v]? = some s ∧ isOw s = false
        obtain ⟨s, hs, hso⟩ := ho' u (hsub u List.mem_cons_self)
        have hul : u < δ'.length := lt_of_get hs
        by_cases huv : u = v
        · subst huv
          rw [List.getElem?_set_self (by rw [ml, hl]; exact hul), hs]
          exact ⟨s, rfl, hso⟩
        · rw [List.getElem?_set_ne huv]
          rcases List.mem_cons.mp hv with z | z
          · exact absurd z.symm huv
          · exact ih (fun w hw => hsub w (List.mem_cons_of_mem _ hw)) v z
    cases c with
    | true =>
      rw [if_pos rfl] at q4 ⊢
      refine he R4 q4 fun z d δ5 H5 Hs5 R5 e5 r5 ⟨hlen, q5⟩ => ?_
      refine ⟨vacc, R5.at_p, by rw [dpAll_len ha]; exact lt_line hlen, ?_⟩
      have R6 := R2.mix R5 (e4.trans e5) vs ho'
      rw [mixS_eq hw] at R6
      have hl5 : δ5.length = δ'.length := by
        have a1 := R5.len
        have a2 := R2.len
        rw [List.length_set, wipe_length] at a1
        omega
      have e6 := (x2.s.trans e4).trans e5
      exact ⟨mixD δ5 δ' vs, Hs5, acc ++ [d], vacc ++ [z], R6.hset hH0, e'.trans e6, dpAll_app (dpAll_mono e6 ha) (.cons r5 .nil), keep hl5 (fun _ h => h), q5⟩
    | false =>
      rw [if_neg Bool.false_ne_true] at q4 ⊢
      have R6 := R2.mix R4 e4 vs ho'
      rw [mixS_eq hw] at R6
      have hl5 : δ4.length = δ'.length := by
        have a1 := R4.len
        have a2 := R2.len
        rw [List.length_set, wipe_length] at a1
        omega
      have e6 := x2.s.trans e4
      exact ⟨mixD δ4 δ' vs, Hs4, acc, vacc, R6, e'.trans e6, dpAll_mono e6 ha, keep hl5 (fun _ h => h), q4⟩
  · have ed : xs.drop j = [] := List.drop_eq_nil_of_le (by omega)
    rw [ed] at q'
    exact .inl ⟨h1 (by omega), k _ _ _ _ _ _ R' hB hH0 (e1.trans e') ha q'⟩
def dYes : TDB := fun δ Q => Q true δ
theorem sim_yes {K : PySem.W.Frag} : SimT K tYes dYes := fun R h k => k _ _ _ _ R (Ex.refl _) h
abbrev Bk (X : Cx) (s : Shared) (H : Hp) (scope : Scope) (C : Addr) (cl : List (Str × Addr)) (fp : List Addr) : Cx := X.blk s H scope (compEnvC scope cl C X.env) fp
section
variable {x : Str} {i : Nat} {iter elt : Expr} {ifs : List Expr} {scope : Scope} {p1 : Pos} {tt : TDB} {te : TDE} {uf : Shared → Hp → Addr → List (Str × Addr) → List Addr → TE} {vf : Shared → Hp → Addr → List (Str × Addr) → List Addr → TT}
theorem jn_lc (hc : X.calm = true) (hN : X.N.Nodup) (hi : JI X (.Name x p1) iter wi ti) (ok : BlkOk X.N X.env.scope scope [(x, i)])
    (hg : ∀ (s : Shared) (H : Hp) (C : Addr) (cl : List (Str × Addr)) (fp : List Addr), PG (Bk X s H scope C cl fp) (.Name x p1) (gName i))
    (he : ∀ (s : Shared) (H : Hp) (C : Addr) (cl : List (Str × Addr)) (fp : List Addr), JE (Bk X s H scope C cl fp) elt (uf s H C cl fp) te) (hu : ∀ (s : Shared) (H : Hp) (C : Addr) (cl : List (Str × Addr)) (fp : List Addr), uf s H C cl fp = uf X.s_0 X.H_0 0 [] [] := by intros; rfl) (hs : ∀ x, foldedSetIterable iter X.env x = pure x := by intro _; rfl) :
    JN X (.ListComp elt [⟨.Name x p1, iter, [], 0⟩] scope pos) (tLc wi (gName i) tYes (uf X.s_0 X.H_0 0 [] []) [i]) (dLc ti (dgName i) dYes te [i]) :=
  ⟨pe_lc (own := [(x, i)]) hc hN hi.p ok hg (fun _ _ _ _ _ => pts_nil) (fun s H C cl fp => hu s H C cl fp ▸ (he s H C cl fp).p) hs, sim_lc hi.s sim_yes (he X.s_0 X.H_0 0 [] []).s List.mem_cons_self⟩
theorem jn_lcIf {c : Expr} (hc : X.calm = true) (hN : X.N.Nodup) (hi : JI X (.Name x p1) iter wi ti) (ok : BlkOk X.N X.env.scope scope [(x, i)])
    (hg : ∀ (s : Shared) (H : Hp) (C : Addr) (cl : List (Str × Addr)) (fp : List Addr), PG (Bk X s H scope C cl fp) (.Name x p1) (gName i))
    (ht : ∀ (s : Shared) (H : Hp) (C : Addr) (cl : List (Str × Addr)) (fp : List Addr), JT (Bk X s H scope C cl fp) c (vf s H C cl fp) tt)
    (he : ∀ (s : Shared) (H : Hp) (C : Addr) (cl : List (Str × Addr)) (fp : List Addr), JE (Bk X s H scope C cl fp) elt (uf s H C cl fp) te) (hu : ∀ (s : Shared) (H : Hp) (C : Addr) (cl : List (Str × Addr)) (fp : List Addr), uf s H C cl fp = uf X.s_0 X.H_0 0 [] [] := by intros; rfl) (hv : ∀ (s : Shared) (H : Hp) (C : Addr) (cl : List (Str × Addr)) (fp : List Addr), vf s H C cl fp = vf X.s_0 X.H_0 0 [] [] := by intros; rfl) (hs : ∀ x, foldedSetIterable iter X.env x = pure x := by intro _; rfl) :
    JN X (.ListComp elt [⟨.Name x p1, iter, [c], 0⟩] scope pos) (tLc wi (gName i) (vf X.s_0 X.H_0 0 [] []) (uf X.s_0 X.H_0 0 [] []) [i]) (dLc ti (dgName i) tt te [i]) :=
  ⟨pe_lc (own := [(x, i)]) hc hN hi.p ok hg (fun s H C cl fp => pts_one (hv s H C cl fp ▸ (ht s H C cl fp).p)) (fun s H C cl fp => hu s H C cl fp ▸ (he s H C cl fp).p) hs, sim_lc hi.s (ht X.s_0 X.H_0 0 [] []).s (he X.s_0 X.H_0 0 [] []).s List.mem_cons_self⟩
theorem js_setLc {y : Str} {py p2 spos : Pos} {n : Nat} (hc : X.calm = true) (hN : X.N.Nodup) (hi : JI X (.Name x p1) iter wi ti) (ok : BlkOk X.N X.env.scope scope [(x, i)])
    (hg : ∀ (s : Shared) (H : Hp) (C : Addr) (cl : List (Str × Addr)) (fp : List Addr), PG (Bk X s H scope C cl fp) (.Name x p1) (gName i))
    (he : ∀ (s : Shared) (H : Hp) (C : Addr) (cl : List (Str × Addr)) (fp : List Addr), JE (Bk X s H scope C cl fp) elt (uf s H C cl fp) te) (hu : ∀ (s : Shared) (H : Hp) (C : Addr) (cl : List (Str × Addr)) (fp : List Addr), uf s H C cl fp = uf X.s_0 X.H_0 0 [] [] := by intros; rfl) (hy : X.N[n]? = some y := by rfl) (hyl : X.env.scope.names.lookup y = some .local := by rfl)
    (hsw : swapsWith (.ListComp elt [⟨.Name x p1, iter, [], 0⟩] scope p2) (some (.Name y py)) spos.line X.env = pure true := by exact sw_true rfl rfl rfl (by decide +kernel)) (hs : ∀ x, foldedSetIterable iter X.env x = pure x := by intro _; rfl) :
    JS X (.Assign [.Name y py] (.ListComp elt [⟨.Name x p1, iter, [], 0⟩] scope p2) spos) (tAsg (tLc wi (gName i) tYes (uf X.s_0 X.H_0 0 [] []) [i]) (gName n)) (sAsg (dN (dLc ti (dgName i) dYes te [i])) (dgName n)) := by
  have h := jn_lc (pos := p2) hc hN hi ok hg he hu hs
  refine ⟨ps_setLc (own := [(x, i)]) hc hN hy hyl hsw hi.p ok hg (fun _ _ _ _ _ => pts_nil) (fun s H C cl fp => hu s H C cl fp ▸ (he s H C cl fp).p) hs, fun R q k => ?_⟩
  exact (je_new h).s R q fun _ _ _ _ _ R1 x r q1 => k.nx _ _ _ _ (R1.set r n) x q1
theorem js_ownLc {y : Str} {py p2 spos : Pos} {n : Nat} (hc : X.calm = true) (hN : X.N.Nodup) (hi : JI X (.Name x p1) iter wi ti) (ok : BlkOk X.N X.env.scope scope [(x, i)])
    (hg : ∀ (s : Shared) (H : Hp) (C : Addr) (cl : List (Str × Addr)) (fp : List Addr), PG (Bk X s H scope C cl fp) (.Name x p1) (gName i))
    (he : ∀ (s : Shared) (H : Hp) (C : Addr) (cl : List (Str × Addr)) (fp : List Addr), JE (Bk X s H scope C cl fp) elt (uf s H C cl fp) te) (hu : ∀ (s : Shared) (H : Hp) (C : Addr) (cl : List (Str × Addr)) (fp : List Addr), uf s H C cl fp = uf X.s_0 X.H_0 0 [] [] := by intros; rfl) (hy : X.N[n]? = some y := by rfl) (hyl : X.env.scope.names.lookup y = some .local := by rfl)
    (hsw : swapsWith (.ListComp elt [⟨.Name x p1, iter, [], 0⟩] scope p2) (some (.Name y py)) spos.line X.env = pure true := by exact sw_true rfl rfl rfl (by decide +kernel)) (hs : ∀ x, foldedSetIterable iter X.env x = pure x := by intro _; rfl) :
    JS X (.Assign [.Name y py] (.ListComp elt [⟨.Name x p1, iter, [], 0⟩] scope p2) spos) (tAsg (tLc wi (gName i) tYes (uf X.s_0 X.H_0 0 [] []) [i]) (gName n)) (sOwn (dLc ti (dgName i) dYes te [i]) n) := by
  have h := jn_lc (pos := p2) hc hN hi ok hg he hu hs
  refine ⟨ps_setLc (own := [(x, i)]) hc hN hy hyl hsw hi.p ok hg (fun _ _ _ _ _ => pts_nil) (fun s H C cl fp => hu s H C cl fp ▸ (he s H C cl fp).p) hs, fun R q k => ?_⟩
  exact h.s R q fun p vs xs δ' H' Hs' R1 hB h0 x r ⟨hl, q1⟩ => k.nx _ _ _ _ (R1.own hB h0 r hl) x (q1 p)
end
end
end DL
namespace DL
open PySem PySem.Spec PyProof.Rows L2
abbrev DSp := List SD → (RS → List SD → Prop) → Prop
open Classical in
noncomputable def Bm (H : Hp) (fps : Nat → Foot) : Hp := fun b => if ∃ i, fps i b then none else H b
theorem bm_in {H : Hp} {fps : Nat → Foot} {b : Addr} {i : Nat} (h : fps i b) : Bm H fps b = none := by
  unfold Bm
  rw [if_pos ⟨i, h⟩]
theorem bm_out {H : Hp} {fps : Nat → Foot} {b : Addr} (h : ∀ i, ¬ fps i b) : Bm H fps b = H b := by
  unfold Bm
  rw [if_neg (fun ⟨i, z⟩ => h i z)]
theorem bm_ex {H : Hp} {fps : Nat → Foot} : Ex (Bm H fps) H := fun b o e => by
  by_cases h : ∃ i, fps i b
  · obtain ⟨i, h⟩ := h
    rw [bm_in h] at e
    cases e
  · rw [bm_out (fun i z => h ⟨i, z⟩)] at e
    exact e
def ResOk (K : PySem.W.Frag) (Bx Hs' H' : Hp) (fps' : Nat → Foot) (v : V) : RS → Prop
  | .dt d => Dp K Hs' v d
  | .new xs => ∃ p vs, v = .ref p ∧ Hs' p = none ∧ H' p = some (.lst vs) ∧ Bx p = none ∧ (∀ i, ¬ fps' i p) ∧ DpAll K Hs' vs xs
  | .obj a => ∃ p o, v = .ref p ∧ Hs' p = none ∧ H' p = some o ∧ Bx p = none ∧ (∀ i, ¬ fps' i p) ∧ a.P K Hs' o
def spOf (K : PySem.W.Frag) (dsp : DSp) : Sp := fun vs H Q _ => ∃ (Hs : Hp) (as : List SD) (fps : Nat → Foot), vs.length = as.length ∧ Ex Hs H ∧ Fps K (Bm H fps) Hs H (vs.map some) as fps ∧
  dsp as fun d as' => ∀ (v : V) (H' Hs' : Hp) (fps' : Nat → Foot), Ex (Bm H fps) H' → Ex Hs Hs' → Ex Hs' H' → (∀ b, Hs' b ≠ none → Hs b = none → NewT (Bm H fps) b) →
    (∀ i s, as'[i]? = some s → s = .un ∨ ∃ p o o', as[i]? = some (.ow p o) ∧ s = .ow p o' ∧ SRep K (Bm H fps) Hs' H' (fps' i) (some (.ref p)) (.ow p o')) → (∀ i j b, fps' i b → fps' j b → i = j) → ResOk K (Bm H fps) Hs' H' fps' v d → Q v H'
def oneOut : SD → SD → SD
  | .ow p _, .ow q o => if p = q then .ow q o else .un
  | _, _ => .un
def outs : List SD → Dl → List SD
  | a :: as, s :: ss => oneOut a s :: outs as ss
  | _, _ => []
theorem outs_get : ∀ {as : List SD} {ss : Dl} {i : Nat} {s : SD}, (outs as ss)[i]? = some s → s = .un ∨ ∃ p o o', as[i]? = some (.ow p o) ∧ s = .ow p o' ∧ ss[i]? = some (.ow p o')
  | [], _, _, _, h => by simp [outs] at h
  | _ :: _, [], _, _, h => by simp [outs] at h
  | a :: as, t :: ss, 0, s, h => by
    have h : some (oneOut a t) = some s := h
    cases h
    cases a with
    | un => exact .inl rfl
    | dt d => exact .inl rfl
    | ow p o =>
      cases t with
      | un => exact .inl rfl
      | dt d => exact .inl rfl
      | ow q o' =>
        by_cases e : p = q
        · subst e
          exact .inr ⟨p, o, o', rfl, (show (if p = p then SD.ow p o' else SD.un) = _ from if_pos rfl), rfl⟩
        · exact .inl (show (if p = q then SD.ow q o' else SD.un) = _ from if_neg e)
  | a :: as, t :: ss, i + 1, s, h => by
    have h : (outs as ss)[i]? = some s := h
    exact outs_get (i := i) h
def startD (n : Nat) (as : List SD) : Dl := as ++ List.replicate (n - as.length) .un
section
variable {P : Program} {w : World} {K : PySem.W.Frag} {mg : Str → Option Value} {base : Heap}
theorem fn_ok {x qual : Str} {st : Stmt} {f : Addr} {fd : FuncData} {N ps : List Str} {k : Nat} {dsp : DSp} (F : Fun K x qual st f fd) (S : FnScope N ps (defScope st)) (len : ∀ as Q, dsp as Q → as.length = ps.length) (hN : ps.length ≤ N.length)
    (body : ∀ (cdv : Value) (A : Around) (outer : List Env) (s : Shared) (H : Hp) (E : XK), Room k (A.deeper (envOfC qual (defScope st) s.heap.objs.size f cdv)) →
      ∃ u t, JSs (cxOf CX0 P w K mg base N qual (defScope st) f cdv A outer s H E).nox (defBody st) u t ∧ ∀ (as : List SD) (Q : RS → List SD → Prop), dsp as Q → t { nx := fun δ => Q (.dt .none) (outs as δ), rt := fun d δ => Q d (outs as δ) } (startD N.length as)) :
    FnOk P w K mg base CX0 (k + 1) f fd ps (spOf K dsp) := by
  refine F.ok S (fun vs H Q E h => ?_) (fun cdv A outer s H vs Q E hr h => ?_)
  · obtain ⟨Hs, as, fps, hl, _, _, hd⟩ := h
    rw [hl]
    exact len _ _ hd
  · obtain ⟨Hs, as, fps, hl, hx, F1, hd⟩ := h
    obtain ⟨u, t, J, q⟩ := body cdv A outer s H E hr
    have hal := len _ _ hd
    refine ⟨u, J.p, ?_⟩
    have R : Rep K (Bm H fps) Hs (L2.start N vs) (startD N.length as) H Hs := by
      refine ⟨?_, hx, bm_ex, Ex.refl _, fun b h1 h2 => absurd h2 h1, fps, fun i s hs => ?_, fun i hi => F1.out i ?_, F1.dj⟩
      · unfold L2.start startD
        rw [List.length_append, List.length_append, List.length_map, List.length_replicate, List.length_replicate, hl]
      · unfold startD at hs
        unfold L2.start
        by_cases hi : i < as.length
        · rw [List.getElem?_append_left hi] at hs
          obtain ⟨y, e, r⟩ := F1.sl i s hs
          exact ⟨y, by rw [List.getElem?_append_left (by rw [List.length_map, hl]; exact hi)]; exact e, r⟩
        · rw [List.getElem?_append_right (by omega)] at hs
          have hs2 := (List.getElem?_eq_some_iff.mp hs)
          obtain ⟨h3, h4⟩ := hs2
          rw [List.length_replicate] at h3
          rw [List.getElem_replicate] at h4
          subst h4
          refine ⟨none, ?_, F1.out i (by omega)⟩
          rw [List.getElem?_append_right (by rw [List.length_map, hl]; omega), List.length_map, hl, List.getElem?_replicate, if_pos h3]
      · unfold startD at hi
        rw [List.length_append] at hi
        omega
    have fin : ∀ (v : V) (d : RS) (σ' : L2.St) (δ' : Dl) (H' Hs' : Hp), Rep K (Bm H fps) Hs σ' δ' H' Hs' → Ex Hs Hs' → (∀ fps', Fps K (Bm H fps) Hs' H' σ' δ' fps' → ResOk K (Bm H fps) Hs' H' fps' v d) → (∀ (v : V) (H' Hs' : Hp) (fps' : Nat → Foot), Ex (Bm H fps) H' → Ex Hs Hs' → Ex Hs' H' → (∀ b, Hs' b ≠ none → Hs b = none → NewT (Bm H fps) b) →
        (∀ i s, (outs as δ')[i]? = some s → s = .un ∨ ∃ p o o', as[i]? = some (.ow p o) ∧ s = .ow p o' ∧ SRep K (Bm H fps) Hs' H' (fps' i) (some (.ref p)) (.ow p o')) → (∀ i j b, fps' i b → fps' j b → i = j) → ResOk K (Bm H fps) Hs' H' fps' v d → Q v H') → ∀ fps', Fps K (Bm H fps) Hs' H' σ' δ' fps' → Q v H' := by
      intro v d σ' δ' H' Hs' R' e' r' q' fps' F'
      refine q' v H' Hs' fps' R'.base e' R'.ex R'.frs (fun i s hs => ?_) F'.dj (r' fps' F')
      rcases outs_get hs with h | ⟨p, o, o', h1, h2, h3⟩
      · exact .inl h
      · obtain ⟨y, e, r⟩ := F'.sl i _ h3
        cases y with
        | none => exact r.elim
        | some y =>
          obtain ⟨⟨e2, _⟩, _⟩ := id r
          subst e2
          exact .inr ⟨p, o, o', h1, h2, r⟩
    refine J.s R (q as _ hd) ⟨fun σ' δ' H' Hs' R' e' q' => ?_, fun v d σ' δ' H' Hs' R' e' r' q' => ?_, fun p vs' xs σ' δ' H' Hs' R' hB h0 e' r' q' => ?_, fun p o a σ' δ' H' Hs' R' hB h0 e' r' q' => ?_, fun _ _ _ _ _ _ z => z.elim, fun _ _ _ _ _ _ z => z.elim⟩
    · obtain ⟨fps', F'⟩ := R'.sl
      exact fin .non (.dt .none) _ _ _ _ R' e' (fun _ _ => .non) q' fps' F'
    · obtain ⟨fps', F'⟩ := R'.sl
      exact fin v (.dt d) _ _ _ _ R' e' (fun _ _ => r') q' fps' F'
    · obtain ⟨fps', F'⟩ := R'.sl
      have np : ∀ i, ¬ fps' i p := fun i => F'.not_p i
      have F2 : Fps K (Bm H fps) Hs' H' σ' δ' fps' := ⟨fun i s hs => by
        obtain ⟨y, e1, r⟩ := F'.sl i s hs
        exact ⟨y, e1, r.base (ex_upd_B hB)⟩, F'.out, F'.dj⟩
      have R2 := R'.weaken (ex_upd_B hB)
      have hp := R'.at_p
      have hs0 := R'.hs_none h0
      refine q' (.ref p) H' Hs' fps' R2.base e' R2.ex R2.frs (fun i s hs => ?_) F2.dj ⟨p, vs', rfl, hs0, hp, hB, np, r'⟩
      rcases outs_get hs with h | ⟨p, o, o', h1, h2, h3⟩
      · exact .inl h
      · obtain ⟨y, e, r⟩ := F2.sl i _ h3
        cases y with
        | none => exact r.elim
        | some y =>
          obtain ⟨⟨e2, _⟩, _⟩ := id r
          subst e2
          exact .inr ⟨p, o, o', h1, h2, r⟩
    · obtain ⟨fps', F'⟩ := R'.sl
      have np : ∀ i, ¬ fps' i p := fun i => F'.not_p i
      have F2 : Fps K (Bm H fps) Hs' H' σ' δ' fps' := ⟨fun i s hs => by
        obtain ⟨y, e1, r⟩ := F'.sl i s hs
        exact ⟨y, e1, r.base (ex_upd_B hB)⟩, F'.out, F'.dj⟩
      have R2 := R'.weaken (ex_upd_B hB)
      have hp := R'.at_p
      have hs0 := R'.hs_none h0 (a.nt r')
      refine q' (.ref p) H' Hs' fps' R2.base e' R2.ex R2.frs (fun i s hs => ?_) F2.dj ⟨p, o, rfl, hs0, hp, hB, np, r'⟩
      rcases outs_get hs with h | ⟨p, o, o', h1, h2, h3⟩
      · exact .inl h
      · obtain ⟨y, e, r⟩ := F2.sl i _ h3
        cases y with
        | none => exact r.elim
        | some y =>
          obtain ⟨⟨e2, _⟩, _⟩ := id r
          subst e2
          exact .inr ⟨p, o, o', h1, h2, r⟩
end
abbrev Ent := Nat ⊕ D
abbrev TDC := Dl → (List Ent → Dl → Prop) → Prop
def EntOk (K : PySem.W.Frag) (Hs : Hp) (σ : L2.St) : V → Ent → Prop
  | v, .inl i => σ[i]? = some (some v)
  | v, .inr d => Dp K Hs v d
inductive Ents (K : PySem.W.Frag) (Hs : Hp) (σ : L2.St) : List V → List Ent → Prop
  | nil : Ents K Hs σ [] []
  | cons {v : V} {vs : List V} {e : Ent} {es : List Ent} : EntOk K Hs σ v e → Ents K Hs σ vs es → Ents K Hs σ (v :: vs) (e :: es)
theorem EntOk.mono {K : PySem.W.Frag} {Hs Hs' : Hp} {σ : L2.St} {v : V} {e : Ent} (h : EntOk K Hs σ v e) (x : Ex Hs Hs') : EntOk K Hs' σ v e := by
  cases e with
  | inl i => exact h
  | inr d => exact dp_mono x h
theorem Ents.len {K : PySem.W.Frag} {Hs : Hp} {σ : L2.St} {vs : List V} {es : List Ent} (h : Ents K Hs σ vs es) : vs.length = es.length := by
  induction h with
  | nil => rfl
  | cons _ _ ih => exact congrArg (· + 1) ih
theorem Ents.get {K : PySem.W.Frag} {Hs : Hp} {σ : L2.St} {vs : List V} {es : List Ent} (h : Ents K Hs σ vs es) : ∀ {i : Nat} {e : Ent}, es[i]? = some e → ∃ v, vs[i]? = some v ∧ EntOk K Hs σ v e := by
  induction h with
  | nil =>
    intro i e h
    simp at h
  | cons r t ih =>
    intro i e h
    cases i with
    | zero =>
      cases (show some _ = some e from h)
      exact ⟨_, rfl, r⟩
    | succ i => exact ih (i := i) h
def SimCl (K : PySem.W.Frag) (u : TA) (t : TDC) : Prop := ∀ {B H0 : Hp} {σ : L2.St} {δ : Dl} {H Hs : Hp} {Q : List Ent → Dl → Prop} {Q' : List V → Hp → Prop}, Rep K B H0 σ δ H Hs → t δ Q →
  (∀ vs es δ' H' Hs', Rep K B H0 σ δ' H' Hs' → Ex Hs Hs' → Ents K Hs' σ vs es → Q es δ' → Q' vs H') → u σ H Q'
structure JC (X : Cx) (es : List Expr) (u : TA) (t : TDC) : Prop where
  p : PA X es u
  s : SimCl X.K u t
section
variable {X : Cx} {e : Expr} {es : List Expr} {pos : Pos} {t : TDE} {ue : TE} {us ur : TA} {tc : TDC}
def cNil : TDC := fun δ Q => Q [] δ
def cCons (t : TDE) (u : TDC) : TDC := fun δ Q => t δ fun d δ1 => u δ1 fun es δ2 => Q (.inr d :: es) δ2
theorem jc_nil : JC X [] tNil cNil := ⟨pa_nil, fun R h k => k _ _ _ _ _ R (Ex.refl _) .nil h⟩
theorem jc_cons (ha : JE X e ue t) (hr : JC X es ur tc) (hs : starEach (e :: es) X.env = (false, eval e X.env) :: starEach es X.env := by rfl) : JC X (e :: es) (tCons ue ur) (cCons t tc) :=
  ⟨pa_cons ha.p hr.p hs, fun R h k => ha.s R h fun v d δ1 H1 Hs1 R1 e1 r1 h1 => hr.s R1 h1 fun vs es δ2 H2 Hs2 R2 e2 r2 h2 => k _ _ _ _ _ R2 (e1.trans e2) (Ents.cons (e := .inr d) (dp_mono e2 r1) r2) h2⟩
def cLendT (i : Nat) (u : TDC) : TDC := fun δ Q => (∃ p o, δ[i]? = some (.ow p o)) ∧ u δ fun es δ2 => Q (.inl i :: es) δ2
theorem jc_own (i : Nat) {x : Str} {p : Pos} (hr : JC X es ur tc) (hN : X.N[i]? = some x := by rfl) (hv : Vis X.env.scope x := by first | exact Or.inl rfl | exact Or.inr (Or.inl rfl) | exact Or.inr (Or.inr rfl)) (hd : (x == ("__debug__" : Str)) = false := by decide)
    (hcd : (x == ("__classdict__" : Str)) = false := by decide) (hs : starEach (.Name x p :: es) X.env = (false, eval (.Name x p) X.env) :: starEach es X.env := by rfl) : JC X (.Name x p :: es) (tCons (tVar i) ur) (cLendT i tc) :=
  ⟨pa_cons (pe_var hN hv hd hcd) hr.p hs, fun {B H0 σ δ H Hs Q Q'} R ⟨⟨q, o, ho⟩, h⟩ k => by
    obtain ⟨fps, F⟩ := R.sl
    obtain ⟨y, ey, r⟩ := F.sl i _ ho
    cases y with
    | none => exact r.elim
    | some v => exact ⟨v, ey, hr.s R h fun vs es δ2 H2 Hs2 R2 e2 r2 h2 => k _ _ _ _ _ R2 e2 (Ents.cons (e := .inl i) ey r2) h2⟩⟩
def resD (δ : Dl) : Ent → SD
  | .inl i => δ[i]?.getD .un
  | .inr d => .dt d
def bors : List Ent → List Nat
  | [] => []
  | .inl i :: es => i :: bors es
  | .inr _ :: es => bors es
def back : List Ent → List SD → Dl → Dl
  | .inl i :: es, s :: as, δ => (back es as δ).set i s
  | .inr _ :: es, _ :: as, δ => back es as δ
  | _, _, δ => δ
def dCallF (dsp : DSp) (t : TDC) : TDE := fun δ Q => t δ fun es δ' => (bors es).Nodup ∧ (∀ i ∈ bors es, i < δ'.length) ∧ ∀ Q2 : RS → List SD → Prop, (∀ d as', as'.length = es.length → Q d (back es as' δ') → Q2 (.dt d) as') → dsp (es.map (resD δ')) Q2
def dCallNw (dsp : DSp) (t : TDC) : TDL := fun δ Q => t δ fun es δ' => (bors es).Nodup ∧ (∀ i ∈ bors es, i < δ'.length) ∧ ∀ Q2 : RS → List SD → Prop, (∀ xs as', as'.length = es.length → Q xs (back es as' δ') → Q2 (.new xs) as') → dsp (es.map (resD δ')) Q2
theorem back_len : ∀ (es : List Ent) (as : List SD) (δ : Dl), (back es as δ).length = δ.length
  | [], _, _ => by simp [back]
  | .inl i :: es, [], _ => by simp [back]
  | .inr d :: es, [], _ => by simp [back]
  | .inl i :: es, s :: as, δ => by
    show ((back es as δ).set i s).length = _
    rw [List.length_set, back_len es as δ]
  | .inr d :: es, s :: as, δ => back_len es as δ
theorem mem_bors : ∀ {es : List Ent} {j : Nat}, j ∈ bors es ↔ ∃ k : Nat, es[k]? = some (Sum.inl j : Ent)
  | [], j => by simp [bors]
  | .inl i :: es, j => by
    show j ∈ i :: bors es ↔ _
    rw [List.mem_cons, mem_bors (es := es)]
    constructor
    · rintro (rfl | ⟨k, h⟩)
      · exact ⟨0, rfl⟩
      · exact ⟨k + 1, h⟩
    · rintro ⟨k, h⟩
      cases k with
      | zero =>
        cases (show some (Sum.inl i : Ent) = some (Sum.inl j) from h)
        exact .inl rfl
      | succ k => exact .inr ⟨k, h⟩
  | .inr d :: es, j => by
    show j ∈ bors es ↔ _
    rw [mem_bors (es := es)]
    constructor
    · rintro ⟨k, h⟩
      exact ⟨k + 1, h⟩
    · rintro ⟨k, h⟩
      cases k with
      | zero => cases (show some (Sum.inr d : Ent) = some (Sum.inl j) from h)
      | succ k => exact ⟨k, h⟩
theorem back_out : ∀ {es : List Ent} {as : List SD} {δ : Dl} {j : Nat}, j ∉ bors es → (back es as δ)[j]? = δ[j]?
  | [], _, _, _, _ => by simp [back]
  | .inl i :: es, [], _, _, _ => by simp [back]
  | .inr d :: es, [], _, _, _ => by simp [back]
  | .inl i :: es, s :: as, δ, j, h => by
    have h : j ∉ i :: bors es := h
    rw [List.mem_cons, not_or] at h
    show ((back es as δ).set i s)[j]? = _
    rw [List.getElem?_set_ne (fun z => h.1 z.symm), back_out h.2]
  | .inr d :: es, s :: as, δ, j, h => back_out (es := es) (as := as) h
theorem back_in : ∀ {es : List Ent} {as : List SD} {δ : Dl} {j k : Nat} {s : SD}, (bors es).Nodup → es[k]? = some (.inl j) → as[k]? = some s → j < δ.length → (back es as δ)[j]? = some s
  | [], _, _, _, _, _, _, h, _, _ => by simp at h
  | _ :: _, [], _, _, _, _, _, _, h, _ => by simp at h
  | .inl i :: es, a :: as, δ, j, k, s, nd, h1, h2, hj => by
    show ((back es as δ).set i a)[j]? = _
    cases k with
    | zero =>
      cases (show some (Sum.inl i : Ent) = some (Sum.inl j) from h1)
      cases (show some a = some s from h2)
      rw [List.getElem?_set_self (by rw [back_len]; exact hj)]
    | succ k =>
      have nd : (i :: bors es).Nodup := nd
      rw [List.nodup_cons] at nd
      have hm : j ∈ bors es := mem_bors.mpr ⟨k, h1⟩
      rw [List.getElem?_set_ne (fun (z : i = j) => nd.1 (z ▸ hm))]
      exact back_in nd.2 (k := k) h1 h2 hj
  | .inr d :: es, a :: as, δ, j, k, s, nd, h1, h2, hj => by
    cases k with
    | zero => cases (show some (Sum.inr d : Ent) = some (Sum.inl j) from h1)
    | succ k => exact back_in (es := es) (as := as) nd (k := k) h1 h2 hj
theorem bors_inj {es : List Ent} (nd : (bors es).Nodup) : ∀ {k k' j : Nat}, es[k]? = some (.inl j) → es[k']? = some (.inl j) → k = k' := by
  induction es with
  | nil =>
    intro k k' j h
    simp at h
  | cons x xs ih =>
    intro k k' j h1 h2
    cases x with
    | inl i =>
      have nd : (i :: bors xs).Nodup := nd
      rw [List.nodup_cons] at nd
      cases k with
      | zero =>
        cases k' with
        | zero => rfl
        | succ k' =>
          cases (show some (Sum.inl i : Ent) = some (Sum.inl j) from h1)
          exact absurd (mem_bors.mpr ⟨k', h2⟩) nd.1
      | succ k =>
        cases k' with
        | zero =>
          cases (show some (Sum.inl i : Ent) = some (Sum.inl j) from h2)
          exact absurd (mem_bors.mpr ⟨k, h1⟩) nd.1
        | succ k' => exact congrArg (· + 1) (ih nd.2 (k := k) (k' := k') h1 h2)
    | inr d =>
      cases k with
      | zero => cases (show some (Sum.inr d : Ent) = some (Sum.inl j) from h1)
      | succ k =>
        cases k' with
        | zero => cases (show some (Sum.inr d : Ent) = some (Sum.inl j) from h2)
        | succ k' => exact congrArg (· + 1) (ih nd (k := k) (k' := k') h1 h2)
theorem call_core {K : PySem.W.Frag} {dsp : DSp} {B H0 : Hp} {σ : L2.St} {Q' : VK} {vs : List V} {es : List Ent} {δ1 : Dl} {H1 Hs1 : Hp} {Qr : RS → Dl → Prop} (R1 : Rep K B H0 σ δ1 H1 Hs1) (r1 : Ents K Hs1 σ vs es) (nd : (bors es).Nodup) (hlt : ∀ i ∈ bors es, i < δ1.length)
    (hd : ∀ Q2 : RS → List SD → Prop, (∀ r as', as'.length = es.length → Qr r (back es as' δ1) → Q2 r as') → dsp (es.map (resD δ1)) Q2)
    (k : ∀ v r δ' H' Hs', Rep K B H0 σ δ' H' Hs' → Ex Hs1 Hs' → (∀ d, r = .dt d → Dp K Hs' v d) → (∀ xs, r = .new xs → ∃ p vs, v = .ref p ∧ Rep K (upd B p (.lst vs)) H0 σ δ' H' Hs' ∧ B p = none ∧ H0 p = none ∧ DpAll K Hs' vs xs) → (∀ a, r = .obj a → ∃ p o, v = .ref p ∧ Rep K (upd B p o) H0 σ δ' H' Hs' ∧ B p = none ∧ H0 p = none ∧ a.P K Hs' o) → Qr r δ' → Q' v H') : spOf K dsp vs H1 Q' E0 := by
  obtain ⟨fpsC, F⟩ := R1.sl
  let fpsA : Nat → Foot := fun k b => ∃ j, es[k]? = some (.inl j) ∧ fpsC j b
  have own : ∀ j b, fpsC j b → B b = none ∧ Hs1 b = none ∧ H1 b ≠ none := by
    intro j b hb
    by_cases hj : j < δ1.length
    · obtain ⟨x, ex, r⟩ := F.sl j δ1[j] (List.getElem?_eq_getElem hj)
      cases hsd : δ1[j] with
      | un =>
        rw [hsd] at r
        exact absurd hb (r b)
      | dt d =>
        rw [hsd] at r
        cases x with
        | none => exact r.elim
        | some v => exact absurd hb (r.2 b)
      | ow p o =>
        rw [hsd] at r
        cases x with
        | none => exact r.elim
        | some v => exact ⟨(r.2 b hb).2.1, (r.2 b hb).1, (r.2 b hb).2.2⟩
    · exact absurd hb (F.out j (by omega) b)
  have FA : Fps K (Bm H1 fpsA) Hs1 H1 (vs.map some) (es.map (resD δ1)) fpsA := by
    refine ⟨fun i s hi => ?_, fun i hi b ⟨j, hj, _⟩ => ?_, fun i i' b ⟨j, hj, hb⟩ ⟨j', hj', hb'⟩ => ?_⟩
    · rw [List.getElem?_map] at hi
      cases he : es[i]? with
      | none =>
        rw [he] at hi
        cases hi
      | some en =>
        rw [he] at hi
        cases (show some (resD δ1 en) = some s from hi)
        obtain ⟨v, hv, ro⟩ := r1.get he
        refine ⟨some v, by rw [List.getElem?_map, hv]; rfl, ?_⟩
        cases en with
        | inr d =>
          refine ⟨ro, fun b ⟨j, hj, _⟩ => ?_⟩
          rw [he] at hj
          cases hj
        | inl j =>
          have hjl := hlt j (mem_bors.mpr ⟨i, he⟩)
          obtain ⟨x, ex, r⟩ := F.sl j δ1[j] (List.getElem?_eq_getElem hjl)
          have er : resD δ1 (.inl j) = δ1[j] := by
            show (δ1[j]?).getD .un = _
            rw [List.getElem?_eq_getElem hjl]
            rfl
          rw [er]
          have ro' : σ[j]? = some (some v) := ro
          rw [ro'] at ex
          cases ex
          have efp : fpsA i = fpsC j := funext fun b => propext ⟨fun ⟨j', hj', hb⟩ => by
            rw [he] at hj'
            cases hj'
            exact hb, fun hb => ⟨j, he, hb⟩⟩
          cases hsd : δ1[j] with
          | un =>
            rw [hsd] at r
            rw [efp]
            exact r
          | dt d =>
            rw [hsd] at r
            rw [efp]
            exact r
          | ow p o =>
            rw [hsd] at r
            refine ⟨by rw [efp]; exact r.1, fun b hb => ⟨?_, bm_in hb, ?_⟩⟩
            · rw [efp] at hb
              exact (r.2 b hb).1
            · rw [efp] at hb
              exact (r.2 b hb).2.2
    · rw [List.length_map] at hi
      rw [List.getElem?_eq_none hi] at hj
      cases hj
    · have := F.dj j j' b hb hb'
      subst this
      exact bors_inj nd hj hj'
  refine ⟨Hs1, es.map (resD δ1), fpsA, by rw [List.length_map]; exact r1.len, R1.ex, FA, ?_⟩
  have key : ∀ d as', as'.length = es.length → Qr d (back es as' δ1) → ∀ (v : V) (H' Hs' : Hp) (fps' : Nat → Foot), Ex (Bm H1 fpsA) H' → Ex Hs1 Hs' → Ex Hs' H' → (∀ b, Hs' b ≠ none → Hs1 b = none → NewT (Bm H1 fpsA) b) →
    (∀ i s, as'[i]? = some s → s = .un ∨ ∃ p o o', (es.map (resD δ1))[i]? = some (.ow p o) ∧ s = .ow p o' ∧ SRep K (Bm H1 fpsA) Hs' H' (fps' i) (some (.ref p)) (.ow p o')) → (∀ i j b, fps' i b → fps' j b → i = j) → ResOk K (Bm H1 fpsA) Hs' H' fps' v d → Q' v H' := by
    intro d as' hlen q v H' Hs' fps' x1 x2 x3 x4 x5 x6 r
    have notA : ∀ j b, j ∉ bors es → fpsC j b → ∀ k, ¬ fpsA k b := fun j b hj hb k ⟨j', hj', hb'⟩ => by
      have := F.dj j j' b hb hb'
      subst this
      exact hj (mem_bors.mpr ⟨k, hj'⟩)
    have FF : Fps K B Hs' H' σ (back es as' δ1) (fun j b => (∃ k, es[k]? = some (.inl j) ∧ (∃ s, as'[k]? = some s ∧ isOw s = true) ∧ fps' k b) ∨ (j ∉ bors es ∧ fpsC j b)) := by
      refine ⟨fun j s hj => ?_, fun j hj b hb => ?_, fun j j' b h1 h2 => ?_⟩
      · have hjl : j < δ1.length := by
          have := lt_of_get hj
          rw [back_len] at this
          exact this
        by_cases hm : j ∈ bors es
        · obtain ⟨k, hk⟩ := mem_bors.mp hm
          have hkl : k < as'.length := by
            rw [hlen]
            exact lt_of_get hk
          have hb := back_in nd hk (List.getElem?_eq_getElem hkl) hjl (as := as')
          rw [hb] at hj
          cases hj
          obtain ⟨x, ex, rx⟩ := F.sl j δ1[j] (List.getElem?_eq_getElem hjl)
          refine ⟨x, ex, ?_⟩
          rcases x5 k as'[k] (List.getElem?_eq_getElem hkl) with hu | ⟨p, o, o', hA, hs', S⟩
          · have nofp : ∀ b, ¬ ((∃ k, es[k]? = some (.inl j) ∧ (∃ s, as'[k]? = some s ∧ isOw s = true) ∧ fps' k b) ∨ (j ∉ bors es ∧ fpsC j b)) := by
              rintro b (⟨k', hk', ⟨s, hs, hso⟩, _⟩ | ⟨z, _⟩)
              · have := bors_inj nd hk hk'
                subst this
                rw [List.getElem?_eq_getElem hkl] at hs
                cases hs
                rw [hu] at hso
                cases hso
              · exact z hm
            rw [hu]
            exact nofp
          · have efp : (fun b => (∃ k, es[k]? = some (.inl j) ∧ (∃ s, as'[k]? = some s ∧ isOw s = true) ∧ fps' k b) ∨ (j ∉ bors es ∧ fpsC j b)) = fps' k := funext fun b => propext ⟨by
              rintro (⟨k', hk', _, hb⟩ | ⟨z, _⟩)
              · have := bors_inj nd hk hk'
                subst this
                exact hb
              · exact absurd hm z, fun hb => .inl ⟨k, hk, ⟨as'[k], List.getElem?_eq_getElem hkl, by rw [hs']; rfl⟩, hb⟩⟩
            rw [efp, hs']
            have hA' : some (resD δ1 (.inl j)) = some (SD.ow p o) := by
              rw [← hA, List.getElem?_map, hk]
              rfl
            have er : resD δ1 (.inl j) = δ1[j] := by
              show (δ1[j]?).getD .un = _
              rw [List.getElem?_eq_getElem hjl]
              rfl
            rw [er] at hA'
            have hd1 : δ1[j] = SD.ow p o := Option.some.inj hA'
            rw [hd1] at rx
            cases x with
            | none => exact rx.elim
            | some y =>
              obtain ⟨⟨ey, _⟩, _⟩ := rx
              subst ey
              refine ⟨S.1, fun b hb => ⟨(S.2 b hb).1, ?_, (S.2 b hb).2.2⟩⟩
              have h4 := (S.2 b hb).2.1
              by_cases h5 : ∃ k, fpsA k b
              · obtain ⟨k, j, _, hb⟩ := h5
                exact (own j b hb).1
              · rw [bm_out (fun k z => h5 ⟨k, z⟩)] at h4
                exact R1.base.none h4
        · rw [back_out hm] at hj
          obtain ⟨x, ex, rx⟩ := F.sl j s hj
          refine ⟨x, ex, ?_⟩
          have efp : (fun b => (∃ k, es[k]? = some (.inl j) ∧ (∃ s, as'[k]? = some s ∧ isOw s = true) ∧ fps' k b) ∨ (j ∉ bors es ∧ fpsC j b)) = fpsC j := funext fun b => propext ⟨by
            rintro (⟨k', hk', _⟩ | ⟨_, z⟩)
            · exact absurd (mem_bors.mpr ⟨k', hk'⟩) hm
            · exact z, fun hb => .inr ⟨hm, hb⟩⟩
          rw [efp]
          refine rx.mono x2 (fun b o hb hu => x1 b o ?_) fun b hb h1 hnt h2 _ => ?_
          · rw [bm_out (notA j b hm hb)]
            exact hu
          · cases h3 : Hs' b with
            | none => rfl
            | some o =>
              have h4 := x4 b (by rw [h3]; exact fun z => nomatch z) h2
              unfold NewT at h4
              rw [bm_out (notA j b hm hb)] at h4
              rcases h4 with h4 | ⟨xs, h4⟩
              · exact absurd h4 h1
              · exact absurd h4 (hnt xs)
      · rw [back_len] at hj
        rcases hb with ⟨k, hk, _⟩ | ⟨_, hb⟩
        · have := hlt j (mem_bors.mpr ⟨k, hk⟩)
          omega
        · exact F.out j hj b hb
      · have cross : ∀ k j j', es[k]? = some (.inl j) → (∃ s, as'[k]? = some s ∧ isOw s = true) → fps' k b → j' ∉ bors es → fpsC j' b → False := by
          intro k j j' hk ⟨s, hs, hso⟩ hb hm hb'
          rcases x5 k s hs with hu | ⟨p, o, o', hA, hs', S⟩
          · rw [hu] at hso
            cases hso
          · have h4 := (S.2 b hb).2.1
            rw [bm_out (notA j' b hm hb')] at h4
            exact (own j' b hb').2.2 h4
        rcases h1 with ⟨k1, hk1, ho1, hb1⟩ | ⟨hm1, hb1⟩
        · rcases h2 with ⟨k2, hk2, ho2, hb2⟩ | ⟨hm2, hb2⟩
          · have := x6 k1 k2 b hb1 hb2
            subst this
            rw [hk1] at hk2
            cases hk2
            rfl
          · exact (cross k1 j j' hk1 ho1 hb1 hm2 hb2).elim
        · rcases h2 with ⟨k2, hk2, ho2, hb2⟩ | ⟨hm2, hb2⟩
          · exact (cross k2 j' j hk2 ho2 hb2 hm1 hb1).elim
          · exact F.dj j j' b hb1 hb2
    have base : Ex B H' := fun b o hb => by
      refine x1 b o ?_
      have hno : ∀ i, ¬ fpsA i b := fun i ⟨j, _, hb'⟩ => by
        rw [(own j b hb').1] at hb
        cases hb
      rw [bm_out hno]
      exact R1.base b o hb
    have frs : ∀ b, Hs' b ≠ none → H0 b = none → NewT B b := fun b h1 h2 => by
      cases h3 : Hs1 b with
      | some o => exact R1.frs b (by rw [h3]; exact fun z => nomatch z) h2
      | none =>
        have h4 := x4 b h1 h3
        by_cases h5 : ∃ k, fpsA k b
        · obtain ⟨k, j, _, hb⟩ := h5
          exact .inl (own j b hb).1
        · unfold NewT at h4
          rw [bm_out (fun k z => h5 ⟨k, z⟩)] at h4
          exact NewT.back R1.base h4
    have RR : Rep K B H0 σ (back es as' δ1) H' Hs' := ⟨by rw [back_len]; exact R1.len, x3, base, R1.frz.trans x2, frs, _, FF⟩
    refine k v d (back es as' δ1) H' Hs' RR x2 (fun d' ed => by subst ed; exact r) (fun xs ed => ?_) (fun a ed => ?_) q
    all_goals
      subst ed
      obtain ⟨p, ws, ev, hs0, hp, hbp, hnp, ha⟩ := r
      have hBp : B p = none := by
        by_cases h5 : ∃ k, fpsA k p
        · obtain ⟨k, j, _, hb⟩ := h5
          exact (own j p hb).1
        · rw [bm_out (fun k z => h5 ⟨k, z⟩)] at hbp
          exact R1.base.none hbp
      refine ⟨p, ws, ev, RR.reveal FF (fun i hi => ?_) hp hs0, hBp, RR.frz.none hs0, ha⟩
      rcases hi with ⟨k, hk, _, hb⟩ | ⟨hm, hb⟩
      · exact hnp k hb
      · rw [bm_out (notA i p hm hb)] at hbp
        exact (own i p hb).2.2 hbp
  exact hd _ key
theorem sim_callF {K : PySem.W.Frag} {dsp : DSp} (hs : SimCl K us tc) : SimE K (tCall (spOf K dsp) [] E0 us) (dCallF dsp tc) := by
  intro B H0 σ δ H Hs Q Q' R h k
  refine hs R h fun vs es δ1 H1 Hs1 R1 e1 r1 ⟨nd, hlt, hd⟩ => ?_
  show spOf K dsp (vs ++ []) H1 Q' E0
  rw [List.append_nil]
  refine call_core (Qr := fun r δ' => ∃ d, r = .dt d ∧ Q d δ') R1 r1 nd hlt (fun Q2 h2 => hd Q2 fun d as' hl q => h2 _ _ hl ⟨d, rfl, q⟩) fun v r δ' H' Hs' R' x rd _ _ ⟨d, ed, q⟩ => k v d δ' H' Hs' R' (e1.trans x) (rd d ed) q
theorem sim_callNw {K : PySem.W.Frag} {dsp : DSp} (hs : SimCl K us tc) : SimN K (tCall (spOf K dsp) [] E0 us) (dCallNw dsp tc) := by
  intro B H0 σ δ H Hs Q Q' R h k
  refine hs R h fun vs es δ1 H1 Hs1 R1 e1 r1 ⟨nd, hlt, hd⟩ => ?_
  show spOf K dsp (vs ++ []) H1 Q' E0
  rw [List.append_nil]
  refine call_core (Qr := fun r δ' => ∃ d, r = .new d ∧ Q d δ') R1 r1 nd hlt (fun Q2 h2 => hd Q2 fun d as' hl q => h2 _ _ hl ⟨d, rfl, q⟩) fun v r δ' H' Hs' R' x _ rn _ ⟨d, ed, q⟩ => ?_
  obtain ⟨p, ws, ev, R2, hB, h0, ha⟩ := rn d ed
  subst ev
  exact k p ws d δ' H' Hs' R2 hB h0 (e1.trans x) ha q
section
variable {x : Str} {p : Pos} {f : Addr} {fd : FuncData} {ps : List Str} {n : Nat} {dsp : DSp}
theorem je_call {K' : PySem.W.Frag} (F : FnOk X.prog X.w X.K X.mg X.base CX0 n f fd ps (spOf K' dsp)) (hr : Room n X.A) (hm : X.mg x = some (.ref f)) (hk : PySem.W.keepIn X.K (.ref f) = true) (hb : Binds X.K fd ps []) (ha : JC X (e :: es) us tc) (hK : X.K = K' := by rfl) (hg : Gl X x := by rfl) (hdb : (x == ("__debug__" : Str)) = false := by decide)
    (he : starEach (e :: es) X.env = (false, eval e X.env) :: starEach es X.env := by rfl) (hpl : (backTo pos (starEach es X.env)).any (·.1) = false := by rfl) :
    JE X (.Call (.Name x p) (e :: es) [] pos) (tCall (spOf K' dsp) [] E0 us) (dCallF dsp tc) := by
  subst hK
  exact ⟨pe_call F hr hg hm hk hb .nil pass0 ha.p hdb he hpl, sim_callF ha.s⟩
theorem jn_call {K' : PySem.W.Frag} (F : FnOk X.prog X.w X.K X.mg X.base CX0 n f fd ps (spOf K' dsp)) (hr : Room n X.A) (hm : X.mg x = some (.ref f)) (hk : PySem.W.keepIn X.K (.ref f) = true) (hb : Binds X.K fd ps []) (ha : JC X (e :: es) us tc) (hK : X.K = K' := by rfl) (hg : Gl X x := by rfl) (hdb : (x == ("__debug__" : Str)) = false := by decide)
    (he : starEach (e :: es) X.env = (false, eval e X.env) :: starEach es X.env := by rfl) (hpl : (backTo pos (starEach es X.env)).any (·.1) = false := by rfl) :
    JN X (.Call (.Name x p) (e :: es) [] pos) (tCall (spOf K' dsp) [] E0 us) (dCallNw dsp tc) := by
  subst hK
  exact ⟨pe_call F hr hg hm hk hb .nil pass0 ha.p hdb he hpl, sim_callNw ha.s⟩
end
end
end DL
namespace DL
open PySem PySem.Spec PyProof.Rows L2
theorem huD {k : Nat} {A : Around} (hr : Room k A) : A.units + 200 < cLine := by
  have := hr.un
  omega
section
variable {δ : Dl} {d d1 d2 : D} {Q : D → Dl → Prop} {Qd : D → Prop} {Qb : Bool → Dl → Prop} {Ql : List D → Dl → Prop} {t ta tb : TDE} {tl : TDL} {c c' : TDB} {s s1 s2 : TDS} {De : DEnds} {i : Nat} {rd : D → D → (D → Prop) → Prop}
theorem st_var (h : δ[i]? = some (.dt d)) (q : Q d δ) : dVar i δ Q := ⟨d, h, q⟩
theorem st_frz {p : Addr} {xs : List D} (h : δ[i]? = some (.ow p (.lst xs))) (q : Q (.list xs) (δ.set i (.dt (.list xs)))) : dFrz i δ Q := ⟨p, xs, h, q⟩
theorem st_c (q : Q d δ) : dC d δ Q := q
theorem st_nil (q : Ql [] δ) : dNil δ Ql := q
theorem st_cons (q : t δ fun d δ1 => tl δ1 fun ds δ2 => Ql (d :: ds) δ2) : dCons t tl δ Ql := q
theorem st_tup (q : tl δ fun ds δ' => ds.length ≤ 10000 ∧ Q (.tuple ds) δ') : dTup tl δ Q := q
theorem st_new (q : tl δ fun xs δ' => Q (.list xs) δ') : dN tl δ Q := q
theorem st_lst (q : tl δ fun ds δ' => ds.length ≤ 10000 ∧ Ql ds δ') : dLst tl δ Ql := q
theorem st_op (q : ta δ fun x δ1 => tb δ1 fun y δ2 => rd x y fun d => Q d δ2) : dOp rd ta tb δ Q := q
theorem st_test (q : t δ fun d δ' => ∃ c, d = .bool c ∧ Qb c δ') : dTest t δ Qb := q
theorem st_tru (q : t δ fun d δ' => truD d fun c => Qb c δ') : dTru t δ Qb := q
theorem st_isN (q : t δ fun d δ' => Q (.bool (isNoneD d)) δ') : dIsN t δ Q := q
theorem st_notN (q : t δ fun d δ' => Q (.bool (!isNoneD d)) δ') : dNotN t δ Q := q
theorem st_and (q : c δ fun b δ1 => if b = true then c' δ1 Qb else Qb false δ1) : dAnd c c' δ Qb := q
theorem st_or (q : c δ fun b δ1 => if b = true then Qb true δ1 else c' δ1 Qb) : dOr c c' δ Qb := q
theorem st_not (q : c δ fun b δ1 => Qb (!b) δ1) : dNot c δ Qb := q
theorem st_andV (q : ta δ fun d δ1 => ∃ c, d = .bool c ∧ if c = true then tb δ1 Q else Q (.bool false) δ1) : dAndV ta tb δ Q := q
theorem st_orV (q : ta δ fun d δ1 => ∃ c, d = .bool c ∧ if c = true then Q (.bool true) δ1 else tb δ1 Q) : dOrV ta tb δ Q := q
theorem st_notV (q : t δ fun d δ1 => ∃ c, d = .bool c ∧ Q (.bool (!c)) δ1) : dNotV t δ Q := q
theorem st_ifE (q : c δ fun b δ1 => if b = true then ta δ1 Q else tb δ1 Q) : dIf c ta tb δ Q := q
theorem st_chain {rd' : D → D → (D → Prop) → Prop} {tc : TDE} (q : ta δ fun x δ1 => tb δ1 fun y δ2 => rd x y fun z => ∃ k, z = .bool k ∧ (if k = true then tc δ2 fun w δ3 => rd' y w fun d => Q d δ3 else Q (.bool false) δ2)) : dChain rd rd' ta tb tc δ Q := q
theorem st_call {rc : List D → (D → Prop) → Prop} (q : tl δ fun ds δ' => rc ds fun d => Q d δ') : dCall rc tl δ Q := q
theorem st_callN {rc : List D → (List D → Prop) → Prop} (q : tl δ fun ds δ' => rc ds fun xs => Ql xs δ') : dCallN rc tl δ Ql := q
theorem st_isi {T : String} (q : t δ fun d δ' => Q (.bool (isT T d)) δ') : dIsi T t δ Q := q
theorem st_isi2 {T T' : String} (q : t δ fun d δ' => Q (.bool (isT T d || isT T' d)) δ') : dIsi2 T T' t δ Q := q
theorem st_slN {lo hi : TDO} (q : t δ fun d δ1 => lo δ1 fun l δ2 => hi δ2 fun u δ3 => ∃ xs, d = .list xs ∧ Ql (cutA xs l u) δ3) : dSlN t lo hi δ Ql := q
theorem st_sl {lo hi : TDO} (q : t δ fun d δ1 => lo δ1 fun l δ2 => hi δ2 fun u δ3 => slD d l u fun d' => Q d' δ3) : dSl t lo hi δ Q := q
theorem st_nopart {Qo : Option Int → Dl → Prop} (q : Qo none δ) : dNoPart δ Qo := q
theorem st_part {Qo : Option Int → Dl → Prop} (q : t δ fun d δ' => ∃ i, d = .int i ∧ Qo (some i) δ') : dPart t δ Qo := q
theorem st_rev (q : t δ fun d δ1 => ∃ xs, d = .list xs ∧ Ql xs.reverse δ1) : dRev t δ Ql := q
theorem st_lenO {p : Addr} {xs : List D} (h : δ[i]? = some (.ow p (.lst xs))) (q : Q (.int xs.length) δ) : dLenO i δ Q := ⟨p, xs, h, q⟩
theorem st_seq (q : s1 { De with nx := s2 De } δ) : sSeq s1 s2 De δ := q
theorem st_next (q : De.nx δ) : sNext De δ := q
theorem st_brk (q : De.bk δ) : sBreak De δ := q
theorem st_cont (q : De.ct δ) : sCont De δ := q
theorem st_drop (q : t δ fun _ δ' => De.nx δ') : sDrop t De δ := q
theorem st_ret (q : t δ fun d δ' => De.rt (.dt d) δ') : sRet t De δ := q
theorem st_retNew (q : tl δ fun xs δ' => De.rt (.new xs) δ') : sRetNew tl De δ := q
theorem st_retOwn {p : Addr} {xs : List D} (h : δ[i]? = some (.ow p (.lst xs))) (q : De.rt (.new xs) (δ.set i .un)) : sRetOwn i De δ := ⟨p, xs, h, q⟩
theorem st_retN (q : De.rt (.dt .none) δ) : sRetN De δ := q
theorem st_if (q : c δ fun b δ' => if b = true then s1 De δ' else s2 De δ') : sIf c s1 s2 De δ := q
theorem st_asg {g : TDG} (q : t δ fun d δ' => g d δ' De.nx) : sAsg t g De δ := q
theorem st_name {Qx : Dl → Prop} (q : Qx (δ.set i (.dt d))) : dgName i d δ Qx := q
theorem st_own (q : tl δ fun xs δ' => i < δ'.length ∧ ∀ p, De.nx (δ'.set i (.ow p (.lst xs)))) : sOwn tl i De δ := q
theorem st_sfrz {p : Addr} {xs : List D} (h : δ[i]? = some (.ow p (.lst xs))) (q : s De (δ.set i (.dt (.list xs)))) : sFrz i s De δ := ⟨p, xs, h, q⟩
theorem st_aug {a : Int} {f : Int → Int → Int} (h : δ[i]? = some (.dt (.int a))) (q : t δ fun d δ' => ∃ b, d = .int b ∧ De.nx (δ'.set i (.dt (.int (f a b))))) : sAug i t f De δ := ⟨a, h, q⟩
theorem st_app {p : Addr} {xs : List D} (h : δ[i]? = some (.ow p (.lst xs))) (q : t δ fun d δ' => ∃ p xs, δ'[i]? = some (.ow p (.lst xs)) ∧ xs.length ≤ 100000 ∧ De.nx (δ'.set i (.ow p (.lst (xs ++ [d]))))) : sApp i t De δ := ⟨⟨p, xs, h⟩, q⟩
theorem st_for {ti : TDI} {g : TDG} (q : ti δ fun xs δ' => sForGo g s De xs δ') : sFor ti g s De δ := q
theorem st_iLst (q : t δ fun d δ' => ∃ xs, d = .list xs ∧ Ql xs δ') : iLst t δ Ql := q
theorem st_iTup (q : t δ fun d δ' => ∃ xs, d = .tuple xs ∧ Ql xs δ') : iTupD t δ Ql := q
theorem st_iRg1 (q : tl δ fun ds δ' => ∃ n : Int, ds = [.int n] ∧ n ≤ 1000000 ∧ -1000000 ≤ n ∧ Ql (rngD 0 n.toNat) δ') : iRg1 tl δ Ql := q
theorem st_iRg2 (q : tl δ fun ds δ' => ∃ m n : Int, ds = [.int m, .int n] ∧ (n ≤ 1000000 ∧ -1000000 ≤ n ∧ m ≤ 1000000 ∧ -1000000 ≤ m) ∧ Ql (rngD m (n - m).toNat) δ') : iRg2 tl δ Ql := q
theorem st_yes (q : Qb true δ) : dYes δ Qb := q
theorem st_gTup {n : Nat} {gs : TDGs} {xs : List D} {Qx : Dl → Prop} (h : xs.length = n) (q : gs xs δ Qx) : dgTup n gs (.tuple xs) δ Qx := ⟨xs, rfl, h, q⟩
theorem st_gCons {g : TDG} {gs : TDGs} {ds : List D} {Qx : Dl → Prop} (q : g d δ fun δ' => gs ds δ' Qx) : dgCons g gs (d :: ds) δ Qx := ⟨d, ds, rfl, q⟩
theorem st_gNil {Qx : Dl → Prop} (q : Qx δ) : dgNil [] δ Qx := ⟨rfl, q⟩
theorem st_cNil {Qe : List Ent → Dl → Prop} (q : Qe [] δ) : cNil δ Qe := q
theorem st_cCons {u : TDC} {Qe : List Ent → Dl → Prop} (q : t δ fun d δ1 => u δ1 fun es δ2 => Qe (.inr d :: es) δ2) : cCons t u δ Qe := q
theorem st_cLend {u : TDC} {Qe : List Ent → Dl → Prop} {p : Addr} {o : OD} (h : δ[i]? = some (.ow p o)) (q : u δ fun es δ2 => Qe (.inl i :: es) δ2) : cLendT i u δ Qe := ⟨⟨p, o, h⟩, q⟩
theorem st_callF {dsp : DSp} {u : TDC} (q : u δ fun es δ' => (bors es).Nodup ∧ (∀ i ∈ bors es, i < δ'.length) ∧ ∀ Q2 : RS → List SD → Prop, (∀ d as', as'.length = es.length → Q d (back es as' δ') → Q2 (.dt d) as') → dsp (es.map (resD δ')) Q2) : dCallF dsp u δ Q := q
theorem st_callNw {dsp : DSp} {u : TDC} (q : u δ fun es δ' => (bors es).Nodup ∧ (∀ i ∈ bors es, i < δ'.length) ∧ ∀ Q2 : RS → List SD → Prop, (∀ xs as', as'.length = es.length → Ql xs (back es as' δ') → Q2 (.new xs) as') → dsp (es.map (resD δ')) Q2) : dCallNw dsp u δ Ql := q
theorem st_add {a b : Int} (q : Qd (.int (a + b))) : addD (.int a) (.int b) Qd := q
theorem st_sub {a b : Int} (q : Qd (.int (a - b))) : subD (.int a) (.int b) Qd := q
theorem smallI {i : Int} (h : -(18446744073709551616) < i ∧ i < 18446744073709551616) : SmallI i := h
theorem st_mulR {a b : Int} (h : -(18446744073709551616) < b ∧ b < 18446744073709551616) (q : Qd (.int (a * b))) : mulD (.int a) (.int b) Qd := ⟨.inr h, q⟩
theorem st_mulL {a b : Int} (h : -(18446744073709551616) < a ∧ a < 18446744073709551616) (q : Qd (.int (a * b))) : mulD (.int a) (.int b) Qd := ⟨.inl h, q⟩
theorem st_mod {a b : Int} (h : 0 < b) (q : Qd (.int (a % b))) : modD (.int a) (.int b) Qd := ⟨h, q⟩
theorem st_fdiv {a b : Int} (h : 0 < b ∧ b < 1073741824) (q : Qd (.int (a / b))) : fdivD (.int a) (.int b) Qd := ⟨h, q⟩
theorem st_pow {a b : Int} (h : (0 ≤ b ∧ b ≤ 1000) ∧ -(18446744073709551616) < a ∧ a < 18446744073709551616) (q : Qd (.int (a ^ b.toNat))) : powD (.int a) (.int b) Qd := ⟨h, q⟩
theorem d0 (b : D) : min (PyData.depth (.int 0)) b.depth ≤ 150 := by simp [PyData.depth]
theorem st_eqI {a b : Int} (q : Qd (.bool (decide (a = b)))) : eqD (.int a) (.int b) Qd := ⟨by simp [PyData.depth], by
  have e : PyData.eqv (.int a) (.int b) = decide (a = b) := by
    simp only [PyData.eqv]
    by_cases h : a = b
    · subst h
      simp
    · rw [decide_eq_false h]
      exact beq_eq_false_iff_ne.mpr h
  rw [e]
  exact q⟩
theorem st_neI {a b : Int} (q : Qd (.bool (!decide (a = b)))) : neD (.int a) (.int b) Qd := ⟨by simp [PyData.depth], by
  have e : PyData.eqv (.int a) (.int b) = decide (a = b) := by
    simp only [PyData.eqv]
    by_cases h : a = b
    · subst h
      simp
    · rw [decide_eq_false h]
      exact beq_eq_false_iff_ne.mpr h
  rw [e]
  exact q⟩
theorem st_eqS {a b : Str} (q : Qd (.bool (decide (a = b)))) : eqD (.str a) (.str b) Qd := ⟨by simp [PyData.depth], by
  have e : PyData.eqv (.str a) (.str b) = decide (a = b) := by
    simp only [PyData.eqv]
    by_cases h : a = b
    · subst h
      simp
    · rw [decide_eq_false h]
      exact beq_eq_false_iff_ne.mpr h
  rw [e]
  exact q⟩
theorem st_eqB {a b : Bool} (q : Qd (.bool (a == b))) : eqD (.bool a) (.bool b) Qd := ⟨by simp [PyData.depth], by
  simp only [PyData.eqv]
  exact q⟩
theorem st_neB {a b : Bool} (q : Qd (.bool (!(a == b)))) : neD (.bool a) (.bool b) Qd := ⟨by simp [PyData.depth], by
  simp only [PyData.eqv]
  exact q⟩
theorem st_ordI {g : D → D → Bool} {a b : Int} (q : Qd (.bool (g (.int a) (.int b)))) : ordD g (.int a) (.int b) Qd := ⟨by simp [PySem.W.alike], rfl, by simp [PyData.depth], q⟩
theorem st_ltI {a b : Int} (q : Qd (.bool (decide (a < b)))) : ltD (.int a) (.int b) Qd := st_ordI (by rw [PySem.W.dataLt_int]; exact q)
theorem st_gtI {a b : Int} (q : Qd (.bool (decide (b < a)))) : gtD (.int a) (.int b) Qd := st_ordI (by rw [PySem.W.dataLt_int]; exact q)
theorem st_leI {a b : Int} (q : Qd (.bool (decide (a ≤ b)))) : leD (.int a) (.int b) Qd := st_ordI (by
  rw [PySem.W.dataLt_int]
  have e : (!decide (b < a)) = decide (a ≤ b) := by
    by_cases h : b < a
    · simp [h]
    · simp [h]; omega
  rw [e]
  exact q)
theorem st_geI {a b : Int} (q : Qd (.bool (decide (b ≤ a)))) : geD (.int a) (.int b) Qd := st_ordI (by
  rw [PySem.W.dataLt_int]
  have e : (!decide (a < b)) = decide (b ≤ a) := by
    by_cases h : a < b
    · simp [h]
    · simp [h]; omega
  rw [e]
  exact q)
theorem st_ixL {xs : List D} {j : Int} (h : atI xs j = some d) (q : Qd d) : ixD (.list xs) (.int j) Qd := ⟨d, h, q⟩
theorem st_ixT {xs : List D} {j : Int} (h : atI xs j = some d) (q : Qd d) : ixD (.tuple xs) (.int j) Qd := ⟨d, h, q⟩
theorem st_lenL {xs : List D} (q : Qd (.int xs.length)) : lenD [.list xs] Qd := q
theorem st_lenT {xs : List D} (q : Qd (.int xs.length)) : lenD [.tuple xs] Qd := q
theorem st_int {a : Int} (q : Qd (.int a)) : toIntD [.int a] Qd := q
theorem st_intB {a : Bool} (q : Qd (.int (if a then 1 else 0))) : toIntD [.bool a] Qd := q
theorem ite_dec {p A B : Prop} [Decidable p] (h1 : p → A) (h2 : ¬ p → B) : if decide p = true then A else B := by
  by_cases h : p
  · rw [if_pos (by simp [h])]
    exact h1 h
  · rw [if_neg (by simp [h])]
    exact h2 h
theorem ite_b {b : Bool} {A B : Prop} (h1 : b = true → A) (h2 : b = false → B) : if b = true then A else B := by
  cases b with
  | true => exact h1 rfl
  | false => exact h2 rfl
theorem ite_T {A B : Prop} (h : A) : if true = true then A else B := h
theorem ite_F {A B : Prop} (h : B) : if false = true then A else B := by
  rw [if_neg Bool.false_ne_true]
  exact h
end
theorem for_inv {g : TDG} {s : TDS} {De : DEnds} {xs : List D} {δ : Dl} (I : Nat → Dl → Prop) (h0 : I 0 δ)
    (step : ∀ (i : Nat) (x : D) (δ' : Dl) (N : Dl → Prop), xs[i]? = some x → I i δ' → (∀ δ'', I (i + 1) δ'' → N δ'') → g x δ' fun δ1 => s { De with nx := N, ct := N, bk := De.nx } δ1)
    (done : ∀ δ', I xs.length δ' → De.nx δ') : sForGo g s De xs δ := by
  have key : ∀ (n i : Nat) (δ' : Dl), n + i = xs.length → I i δ' → sForGo g s De (xs.drop i) δ' := by
    intro n
    induction n with
    | zero =>
      intro i δ' hn hi
      have e : i = xs.length := by omega
      subst e
      rw [List.drop_length]
      exact done δ' hi
    | succ n ih =>
      intro i δ' hn hi
      have hl : i < xs.length := by omega
      rw [List.drop_eq_getElem_cons hl]
      exact step i xs[i] δ' _ (List.getElem?_eq_getElem hl) hi fun δ'' h => ih (i + 1) δ'' (by omega) h
  have := key xs.length 0 δ (by omega) h0
  rw [List.drop_zero] at this
  exact this
theorem rngD_len (lo : Int) (n : Nat) : (rngD lo n).length = n := by
  unfold rngD
  rw [List.length_map, List.length_range]
theorem rngD_get {lo : Int} {n i : Nat} {x : D} (h : (rngD lo n)[i]? = some x) : i < n ∧ x = .int (lo + (i : Int)) := by
  have hl := lt_of_get h
  rw [rngD_len] at hl
  unfold rngD at h
  rw [List.getElem?_map, List.getElem?_range hl] at h
  cases h
  exact ⟨hl, rfl⟩
theorem for_rng {g : TDG} {s : TDS} {De : DEnds} {lo : Int} {n : Nat} {δ : Dl} (I : Nat → Dl → Prop) (h0 : I 0 δ)
    (step : ∀ (i : Nat) (δ' : Dl) (N : Dl → Prop), i < n → I i δ' → (∀ δ'', I (i + 1) δ'' → N δ'') → g (.int (lo + (i : Int))) δ' fun δ1 => s { De with nx := N, ct := N, bk := De.nx } δ1)
    (done : ∀ δ', I n δ' → De.nx δ') : sForGo g s De (rngD lo n) δ :=
  for_inv I h0 (fun i x δ' N hx hi hN => by
    obtain ⟨h1, rfl⟩ := rngD_get hx
    exact step i δ' N h1 hi hN) fun δ' h => done δ' (by rw [rngD_len] at h; exact h)
theorem lc_inv {g : TDG} {tt : TDB} {te : TDE} {vs : List Nat} {Q : List D → Dl → Prop} {xs : List D} {δ : Dl} (I : Nat → List D → Dl → Prop) (h0 : I 0 [] δ)
    (step : ∀ (i : Nat) (x : D) (acc : List D) (δ' : Dl) (N : List D → Dl → Prop), xs[i]? = some x → I i acc δ' → (∀ acc' δ'', I (i + 1) acc' δ'' → N acc' δ'') →
      g x (wipeD δ' vs) fun δ1 => tt δ1 fun b δ2 => if b = true then te δ2 fun y δ3 => acc.length ≤ 100000 ∧ N (acc ++ [y]) (mixD δ3 δ' vs) else N acc (mixD δ2 δ' vs))
    (done : ∀ acc δ', I xs.length acc δ' → Q acc δ') : dLcGo g tt te vs Q xs [] δ := by
  have key : ∀ (n i : Nat) (acc : List D) (δ' : Dl), n + i = xs.length → I i acc δ' → dLcGo g tt te vs Q (xs.drop i) acc δ' := by
    intro n
    induction n with
    | zero =>
      intro i acc δ' hn hi
      have e : i = xs.length := by omega
      subst e
      rw [List.drop_length]
      exact done acc δ' hi
    | succ n ih =>
      intro i acc δ' hn hi
      have hl : i < xs.length := by omega
      rw [List.drop_eq_getElem_cons hl]
      exact step i xs[i] acc δ' _ (List.getElem?_eq_getElem hl) hi fun acc' δ'' h => ih (i + 1) acc' δ'' (by omega) h
  have := key xs.length 0 [] δ (by omega) h0
  rw [List.drop_zero] at this
  exact this
theorem while_inv {c : TDB} {s : TDS} {De : DEnds} {δ : Dl} (W : Nat → Dl → Prop) (m : Nat) (h0 : W m δ)
    (step : ∀ m δ', W m δ' → c δ' fun b δ1 => if b = true then s { De with nx := fun δ' => ∃ m', m' < m ∧ W m' δ', ct := fun δ' => ∃ m', m' < m ∧ W m' δ', bk := De.nx } δ1 else De.nx δ1) : sWhile c s De δ := ⟨W, ⟨m, h0⟩, step⟩
theorem fn_never {P : Program} {w : World} {K : PySem.W.Frag} {mg : Str → Option Value} {base : Heap} {k : Nat} {f : Addr} {fd : FuncData} {ps : List Str} {dsp : DSp} (no : ∀ as Q, ¬ dsp as Q) : FnOk P w K mg base CX0 k f fd ps (spOf K dsp) :=
  ⟨fun vs H Q E ⟨_, _, _, _, _, _, h⟩ => absurd h (no _ _), fun A outer s H args us vs Q E _ _ _ _ ⟨_, _, _, _, _, _, h⟩ => absurd h (no _ _)⟩
def spLaw : DSp := fun as Q => ∃ ns : List Int, as = [.dt (.list (ns.map .int))] ∧ ns.length ≤ 63 ∧ Q (.dt (.bool true)) [.un]
theorem law_ask {K : PySem.W.Frag} {H : Hp} {a : Addr} {ns : List Int} (hl : ns.length ≤ 63) (hS : SqL K H a (ns.map V.int)) : spOf K spLaw [.ref a] H (fun v _ => v = .bl true) fun _ _ _ => False := by
  refine ⟨H, [.dt (.list (ns.map .int))], fun _ _ => False, rfl, Ex.refl _, ⟨fun i s hs => ?_, fun _ _ _ h => h, fun _ _ _ h => h.elim⟩, ns, rfl, hl, fun v H' Hs' fps' _ _ _ _ _ _ r => ?_⟩
  · cases i with
    | zero =>
      cases (show some _ = some s from hs)
      refine ⟨some (.ref a), rfl, .lst hS ?_, fun b h => h⟩
      have : ∀ l : List Int, DpAll K H (l.map V.int) (l.map PyData.int) := by
        intro l
        induction l with
        | nil => exact .nil
        | cons x l ih => exact .cons (.int x) ih
      exact this ns
    | succ i => simp at hs
  · cases r
    rfl
end DL
namespace DL
open PySem PySem.Spec PyProof.Rows L2
section
variable {X : Cx} {e a b : Expr} {es : List Expr} {pos : Pos} {t ta tb : TDE} {ue ua ub : TE} {us : TA} {pins : List (Addr × Obj)} {σ : L2.St} {H : Hp} {s : Shared}
def dIxO (i : Nat) (t : TDE) : TDE := fun δ Q => (∃ p xs, δ[i]? = some (.ow p (.lst xs))) ∧ t δ fun d δ' => ∃ p xs j z, δ'[i]? = some (.ow p (.lst xs)) ∧ d = .int j ∧ atI xs j = some z ∧ Q z δ'
theorem je_ixO {x : Str} {p1 : Pos} (i : Nat) (hb : JE X b ub tb) (hN : X.N[i]? = some x := by rfl) (hv : Vis X.env.scope x := by first | exact Or.inl rfl | exact Or.inr (Or.inl rfl) | exact Or.inr (Or.inr rfl)) (hd : (x == ("__debug__" : Str)) = false := by decide)
    (hcd : (x == ("__classdict__" : Str)) = false := by decide) (hs : PlainIx b := by exact fun _ _ => rfl) : JE X (.Subscript (.Name x p1) b pos) (tOp (rIxU X.K) (tVar i) ub) (dIxO i tb) := by
  refine ⟨pe_ix ix_seq (pe_var hN hv hd hcd) hb.p hs, fun R ⟨⟨p, xs, ex⟩, q⟩ k => ?_⟩
  obtain ⟨vs, e1, hp, ha⟩ := own_at R ex
  refine ⟨_, e1, hb.s R q fun v d δ' H' Hs' R1 x r ⟨p', ys, j, z, ey, ed, hz, q1⟩ => ?_⟩
  subst ed
  cases r
  obtain ⟨ws, e2, hp2, ha2⟩ := own_at R1 ey
  rw [e1] at e2
  cases e2
  obtain ⟨w, hw, rw'⟩ := dpAll_at ha2 hz
  exact .inl ⟨p, ws, j, w, rfl, rfl, .inl (.inl hp2), hw, k _ _ _ _ _ R1 x rw' q1⟩
theorem st_ixO {δ : Dl} {i : Nat} {Q : D → Dl → Prop} {p : Addr} {xs : List D} (h : δ[i]? = some (.ow p (.lst xs))) (q : t δ fun d δ' => ∃ p xs j z, δ'[i]? = some (.ow p (.lst xs)) ∧ d = .int j ∧ atI xs j = some z ∧ Q z δ') : dIxO i t δ Q := ⟨⟨p, xs, h⟩, q⟩
def dNeg (t : TDE) : TDE := fun δ Q => t δ fun d δ' => ∃ i, d = .int i ∧ Q (.int (-i)) δ'
theorem je_neg (h : JE X e ue t) : JE X (.UnaryOp .USub e pos) (tUn (rU fun i => .int (-i)) ue) (dNeg t) := ⟨pe_un un_neg h.p, fun R q k => h.s R q fun v d δ' H' Hs' R1 x r ⟨i, ed, q1⟩ => by
  subst ed
  cases r
  exact ⟨i, rfl, k _ _ _ _ _ R1 x (.int _) q1⟩⟩
theorem st_neg {δ : Dl} {Q : D → Dl → Prop} (q : t δ fun d δ' => ∃ i, d = .int i ∧ Q (.int (-i)) δ') : dNeg t δ Q := q
def rSortK (K : PySem.W.Frag) : List V → List V → Hp → VK → Prop := fun vs zs H Q => zs = [.bl true] ∧ rSortD K vs H Q
theorem cr_sortK (hu : X.A.units + 200 < cLine) : CallRK X (.builtin "sorted") [Str.ofString "reverse"] (rSortK X.K) := by
  intro pins s σ H vs zs us ws Q I r rz h
  obtain ⟨rfl, a, xs, ds, rfl, hs, ha, h1, h2, h3, q⟩ := h
  obtain ⟨w1, rfl, e1⟩ := vals1 rz
  obtain rfl : w1 = Value.bool true := e1
  obtain ⟨its, rv, hl, hz⟩ := I.list hs
  rw [Vals.ref1 r]
  obtain ⟨as, hr⟩ := Dp.readsAll I _ _ its ha rv
  obtain ⟨e1, e2⟩ := each_zip rv hr
  have hm : (xs.zip ds).map Prod.snd = ds := List.map_snd_zip (by rw [dpAll_len ha]; exact Nat.le_refl _)
  refine PySem.W.sorted_rev_data (enc := Prod.snd) hl.isList e1 e2 (by rw [hm]; exact h1) (by rw [hm]; exact h2) (by rw [List.length_zip]; omega) (fun b hb => ?_) fun out ho he => sort_rule I hz (dpAll_len ha) q he
  have := h3 b.2 (List.of_mem_zip (a := b.1) (b := b.2) hb).2
  omega
theorem jn_sortRev {p pk : Pos} {j : Nat} {pc : Pos} {u : TDL} (hu : X.A.units + 200 < cLine) (hg : Gl X "sorted") (hm : X.mg "sorted" = none) (ha : JA X (e :: es) us u)
    (he : backTo pos (starEach (e :: es) X.env) = (false, eval e X.env) :: backTo pos (starEach es X.env) := by rfl) (hpl : (backTo pos (starEach (e :: es) X.env)).any (·.1) = false := by rfl)
    (hall : (backToKw pos (keywordEach [⟨some "reverse", .Constant (.bool true) j pc, pk⟩] X.env)).all (·.1.isSome) = true := by rfl) (hnone : (backToKw pos (keywordEach [⟨some "reverse", .Constant (.bool true) j pc, pk⟩] X.env)).any (·.1.isNone) = false := by rfl) (hks : (backToKw pos (keywordEach [⟨some "reverse", .Constant (.bool true) j pc, pk⟩] X.env)).filterMap (·.1) = [Str.ofString "reverse"] := by rfl) :
    JN X (.Call (.Name "sorted" p) (e :: es) [⟨some "reverse", .Constant (.bool true) j pc, pk⟩] pos) (tCKw (rSortK X.K) us (tCons (tC (.bl true)) tNil)) (dCallN sortD u) := ⟨pe_callBK (cr_sortK hu) hg hm (by decide +kernel) ha.p (pk_cons pe_bl pk_nil) (by decide) (by decide) he hpl hall hnone hks, fun R q k => ha.s R q fun vs ds δ1 H1 Hs1 R1 e1 r1 h1 => by
    refine ⟨rfl, ?_⟩
    exact sim_sort (Q' := _) R1.ex r1 h1 fun p ws xs hp r q => k _ _ _ _ _ _ (R1.hide hp) (R1.base.none hp) (R1.frz.none (R1.ex.none hp)) e1 r q⟩
end
end DL
namespace DL
open PySem PySem.Spec PyProof.Rows L2
theorem ex_bool {b : Bool} {Q : Bool → Prop} (q : Q b) : ∃ c, PyData.bool b = .bool c ∧ Q c := ⟨b, rfl, q⟩
theorem ex_int {b : Int} {Q : Int → Prop} (q : Q b) : ∃ c, PyData.int b = .int c ∧ Q c := ⟨b, rfl, q⟩
theorem ex_list {b : List D} {Q : List D → Prop} (q : Q b) : ∃ c, PyData.list b = .list c ∧ Q c := ⟨b, rfl, q⟩
theorem ex_tuple {b : List D} {Q : List D → Prop} (q : Q b) : ∃ c, PyData.tuple b = .tuple c ∧ Q c := ⟨b, rfl, q⟩
theorem and_ok {ds : List D} {Q : Prop} (h : Nat.ble ds.length 10000 = true) (q : Q) : ds.length ≤ 10000 ∧ Q := ⟨Nat.le_of_ble_eq_true h, q⟩
theorem own_ok {i : Nat} {δ : Dl} {Q : Addr → Prop} (h : Nat.ble (i + 1) δ.length = true) (q : ∀ p, Q p) : i < δ.length ∧ ∀ p, Q p := ⟨Nat.le_of_ble_eq_true h, q⟩
theorem call_ok {es : List Ent} {n : Nat} {P : Prop} (h1 : (bors es).Nodup) (h2 : ∀ i ∈ bors es, i < n) (q : P) : (bors es).Nodup ∧ (∀ i ∈ bors es, i < n) ∧ P := ⟨h1, h2, q⟩
theorem boolsD_ok {g : List Bool → Bool} {xs : List D} {Q : D → Prop} (bs : List Bool) (h : xs = bs.map .bool) (q : Q (.bool (g bs))) : boolsD g [.list xs] Q := ⟨bs, by rw [h], q⟩
theorem st_listL {xs : List D} {Q : List D → Prop} (q : Q xs) : listD [.list xs] Q := q
theorem st_listT {xs : List D} {Q : List D → Prop} (q : Q xs) : listD [.tuple xs] Q := q
theorem st_tupleL {xs : List D} {Q : D → Prop} (q : Q (.tuple xs)) : tupleD [.list xs] Q := q
theorem st_int2 {g : Int → Int → Int} {i j : Int} {Q : D → Prop} (q : Q (.int (g i j))) : int2D g [.int i, .int j] Q := q
theorem st_slL {xs : List D} {l u : Option Int} {Q : D → Prop} (q : Q (.list (cutA xs l u))) : slD (.list xs) l u Q := q
theorem st_slT {xs : List D} {l u : Option Int} {Q : D → Prop} (q : Q (.tuple (cutA xs l u))) : slD (.tuple xs) l u Q := q
theorem st_slS {z : Str} {l u : Option Int} {Q : D → Prop} (h : z.length ≤ 100000) (q : Q (.str (cutS z l u))) : slD (.str z) l u Q := ⟨h, q⟩
theorem st_addL {xs ys : List D} {Q : D → Prop} (h : xs.length + ys.length ≤ 100000) (q : Q (.list (xs ++ ys))) : addD (.list xs) (.list ys) Q := ⟨h, q⟩
theorem st_iRgOk {n : Int} {Q : List D → Prop} (h1 : n ≤ 1000000) (h2 : -1000000 ≤ n) (q : Q (rngD 0 n.toNat)) : ∃ m : Int, [PyData.int n] = [.int m] ∧ m ≤ 1000000 ∧ -1000000 ≤ m ∧ Q (rngD 0 m.toNat) := ⟨n, rfl, h1, h2, q⟩
theorem cut_take {α : Type} (xs : List α) (k : Nat) : cutA xs none (some (k : Int)) = xs.take k := by
  unfold cutA
  rw [HT.sIx_none, HT.sIx_nat, List.drop_zero, Nat.sub_zero]
  by_cases h : k ≤ xs.length
  · rw [Nat.min_eq_left h]
  · rw [Nat.min_eq_right (by omega), List.take_length, List.take_of_length_le (by omega)]
theorem cut_drop {α : Type} (xs : List α) (k : Nat) : cutA xs (some (k : Int)) none = xs.drop k := by
  unfold cutA
  rw [HT.sIx_none, HT.sIx_nat]
  by_cases h : k ≤ xs.length
  · rw [Nat.min_eq_left h, List.take_of_length_le (by rw [List.length_drop]; exact Nat.le_refl _)]
  · rw [Nat.min_eq_right (by omega), List.drop_length, List.drop_eq_nil_of_le (by omega), List.take_nil]
theorem cut_takeI {α : Type} (xs : List α) {k : Int} (h : 0 ≤ k) : cutA xs none (some k) = xs.take k.toNat := by
  have e : k = ((k.toNat : Nat) : Int) := by omega
  rw [e, cut_take]
  rfl
theorem cut_dropI {α : Type} (xs : List α) {k : Int} (h : 0 ≤ k) : cutA xs (some k) none = xs.drop k.toNat := by
  have e : k = ((k.toNat : Nat) : Int) := by omega
  rw [e, cut_drop]
  rfl
theorem lc_pure {i : Nat} {te : TDE} {Q : List D → Dl → Prop} {xs : List D} {δ : Dl} (f : D → D) (s : SD) (hs : δ[i]? = some s) (hl : xs.length ≤ 100000)
    (step : ∀ x ∈ xs, ∀ N : D → Dl → Prop, N (f x) (δ.set i (.dt x)) → te (δ.set i (.dt x)) N) (done : Q (xs.map f) δ) : dLcGo (dgName i) dYes te [i] Q xs [] δ := by
  refine lc_inv (fun k acc δ' => δ' = δ ∧ acc = (xs.take k).map f) ⟨rfl, rfl⟩ (fun k x acc δ' N hx ⟨e1, e2⟩ hN => ?_) fun acc δ' ⟨e1, e2⟩ => ?_
  · subst e1 e2
    have hm : x ∈ xs := List.mem_of_getElem? hx
    have hk := lt_of_get hx
    show te ((δ'.set i .un).set i (.dt x)) _
    rw [List.set_set]
    refine step x hm _ ⟨?_, hN _ _ ⟨?_, ?_⟩⟩
    · rw [List.length_map, List.length_take]
      omega
    · show ((δ'.set i (.dt x)).set i (δ'[i]?.getD .un)) = δ'
      rw [List.set_set, hs]
      exact set_self hs
    · rw [List.take_add_one, hx, List.map_append]
      rfl
  · subst e1 e2
    rw [List.take_length]
    exact done
theorem lc_filter {i : Nat} {tt : TDB} {te : TDE} {Q : List D → Dl → Prop} {xs : List D} {δ : Dl} (p : D → Bool) (f : D → D) (s : SD) (hs : δ[i]? = some s) (hl : xs.length ≤ 100000)
    (test : ∀ x ∈ xs, ∀ N : Bool → Dl → Prop, N (p x) (δ.set i (.dt x)) → tt (δ.set i (.dt x)) N)
    (step : ∀ x ∈ xs, p x = true → ∀ N : D → Dl → Prop, N (f x) (δ.set i (.dt x)) → te (δ.set i (.dt x)) N) (done : Q ((xs.filter p).map f) δ) : dLcGo (dgName i) tt te [i] Q xs [] δ := by
  refine lc_inv (fun k acc δ' => δ' = δ ∧ acc = ((xs.take k).filter p).map f) ⟨rfl, rfl⟩ (fun k x acc δ' N hx ⟨e1, e2⟩ hN => ?_) fun acc δ' ⟨e1, e2⟩ => ?_
  · subst e1 e2
    have hm : x ∈ xs := List.mem_of_getElem? hx
    have hk := lt_of_get hx
    show tt ((δ'.set i .un).set i (.dt x)) _
    rw [List.set_set]
    have back1 : ((δ'.set i (.dt x)).set i (δ'[i]?.getD .un)) = δ' := by
      rw [List.set_set, hs]
      exact set_self hs
    refine test x hm _ ?_
    cases hp : p x with
    | true =>
      rw [if_pos rfl]
      refine step x hm hp _ ⟨?_, hN _ _ ⟨back1, ?_⟩⟩
      · rw [List.length_map]
        have := List.length_filter_le p (xs.take k)
        rw [List.length_take] at this
        omega
      · rw [List.take_add_one, hx, List.filter_append, List.map_append]
        show _ = _ ++ (List.filter p [x]).map f
        rw [List.filter_cons, if_pos hp]
        rfl
    | false =>
      rw [if_neg Bool.false_ne_true]
      refine hN _ _ ⟨back1, ?_⟩
      rw [List.take_add_one, hx, List.filter_append, List.map_append]
      show _ = _ ++ (List.filter p [x]).map f
      rw [List.filter_cons, if_neg (by rw [hp]; exact Bool.false_ne_true)]
      show _ = _ ++ []
      rw [List.append_nil]
  · subst e1 e2
    rw [List.take_length]
    exact done
theorem st_lc {ti : TDI} {g : TDG} {tt : TDB} {te : TDE} {vs : List Nat} {δ : Dl} {Q : List D → Dl → Prop} (h : ∀ v ∈ vs, ∃ s, δ[v]? = some s ∧ isOw s = false) (q : ti δ fun xs δ' => (∀ v ∈ vs, ∃ s, δ'[v]? = some s ∧ isOw s = false) ∧ dLcGo g tt te vs Q xs [] δ') : dLc ti g tt te vs δ Q := ⟨h, q⟩
theorem st_popInts {δ : Dl} {i : Nat} {p : Addr} {ns : List Int} {z : Int} {Q : D → Dl → Prop} (h : δ[i]? = some (.ow p (.lst ((ns ++ [z]).map PyData.int)))) (q : Q (.int z) (δ.set i (.ow p (.lst (ns.map PyData.int))))) : dPop i δ Q :=
  ⟨p, ns.map .int, .int z, by rw [h, List.map_append]; rfl, q⟩
theorem snoc_of {α : Type} {l : List α} (h : ¬ ((l.length : Int) = 0)) : ∃ l' z, l = l' ++ [z] := by
  have h0 : l ≠ [] := fun z => h (by rw [z]; rfl)
  exact ⟨l.dropLast, l.getLast h0, (List.dropLast_concat_getLast h0).symm⟩
theorem own1 {δ : Dl} {i : Nat} {s : SD} (h : δ[i]? = some s) (o : isOw s = false) : ∀ v ∈ [i], ∃ s, δ[v]? = some s ∧ isOw s = false := fun v hv => by
  rcases List.mem_cons.mp hv with rfl | hv
  · exact ⟨s, h, o⟩
  · simp at hv
theorem st_setO {δ : Dl} {De : DEnds} {i : Nat} {tj t : TDE} (q : t δ fun d δ1 => (∃ p xs, δ1[i]? = some (.ow p (.lst xs))) ∧ tj δ1 fun dj δ2 => ∃ p xs j k, δ2[i]? = some (.ow p (.lst xs)) ∧ dj = .int j ∧ ixN xs.length j = some k ∧ De.nx (δ2.set i (.ow p (.lst (xs.set k d))))) : sSetO i tj t De δ := q
theorem ixN_nat {n k : Nat} (h : k < n) : ixN n (k : Int) = some k := by
  unfold ixN
  simp [h]
theorem st_ifJ {c : TDB} {s1 s2 : TDS} {De : DEnds} {δ : Dl} (I : Dl → Prop) (h : ∀ N : Dl → Prop, (∀ δ', I δ' → N δ') → sIf c s1 s2 { De with nx := N } δ) (k : ∀ δ', I δ' → De.nx δ') : sIf c s1 s2 De δ := h De.nx k
theorem sort_ok {xs : List D} {Q : List D → Prop} (h1 : PySem.W.AllAlike xs) (h2 : PySem.W.Sortable xs) (h3 : ∀ d ∈ xs, d.depth ≤ 150) (q : ∀ ys, ys.Perm xs → Q ys) : sortD [.list xs] Q := ⟨xs, rfl, h1, h2, h3, q⟩
end DL
namespace DL
open PySem PySem.Spec PyProof.Rows L2
section
variable {X : Cx} {e a b : Expr} {es : List Expr} {pos : Pos} {t ta tb : TDE} {ue ua ub : TE} {us : TA}
def seqOf : D → Option (List D)
  | .list xs => some xs
  | .tuple xs => some xs
  | _ => none
def inG (neg : Bool) (x y : D) (Q : D → Prop) : Prop := ∃ xs, seqOf y = some xs ∧ x.depth ≤ 150 ∧ Q (.bool (neg ^^ xs.any fun z => PyData.eqv z x))
abbrev inD : D → D → (D → Prop) → Prop := inG false
abbrev notInD : D → D → (D → Prop) → Prop := inG true
def rInP (K : PySem.W.Frag) (neg : Bool) : R2 := fun x y H Q => ∃ d e xs, Dp K H x d ∧ Dp K H y e ∧ seqOf e = some xs ∧ d.depth ≤ 150 ∧ Q (.bl (neg ^^ xs.any fun z => PyData.eqv z d)) H
theorem op_inP (hu : X.A.units + 200 < cLine) : OpR X (compareOp .In) (rInP X.K false) := by
  intro pins s σ H x y v u Q I rx ry h
  obtain ⟨d, e, xs, hd, he, hs, hm, q⟩ := h
  obtain ⟨as, r1⟩ := Dp.reads I d x v hd rx
  obtain ⟨bs, r2⟩ := Dp.reads I e y u he ry
  have pe := dp_plain he
  cases e with
  | list ys =>
    cases hs
    simp only [PyData.plain] at pe
    exact SeqAt.in_list_data r2 r1 pe (dp_plain hd) (by omega) ⟨.bl _, H, I, rfl, by rw [Bool.false_xor] at q; exact q⟩
  | tuple ys =>
    cases hs
    simp only [PyData.plain] at pe
    exact SeqAt.in_tuple_data r2 r1 pe (dp_plain hd) (by omega) ⟨.bl _, H, I, rfl, by rw [Bool.false_xor] at q; exact q⟩
  | _ => cases hs
theorem op_notInP (hu : X.A.units + 200 < cLine) : OpR X (compareOp .NotIn) (rInP X.K true) := by
  intro pins s σ H x y v u Q I rx ry h
  obtain ⟨d, e, xs, hd, he, hs, hm, q⟩ := h
  obtain ⟨as, r1⟩ := Dp.reads I d x v hd rx
  obtain ⟨bs, r2⟩ := Dp.reads I e y u he ry
  have pe := dp_plain he
  cases e with
  | list ys =>
    cases hs
    simp only [PyData.plain] at pe
    exact SeqAt.notIn_list_data r2 r1 pe (dp_plain hd) (by omega) ⟨.bl _, H, I, rfl, by rw [Bool.true_xor] at q; exact q⟩
  | tuple ys =>
    cases hs
    simp only [PyData.plain] at pe
    exact SeqAt.notIn_tuple_data r2 r1 pe (dp_plain hd) (by omega) ⟨.bl _, H, I, rfl, by rw [Bool.true_xor] at q; exact q⟩
  | _ => cases hs
theorem do_in (hu : X.A.units + 200 < cLine) : OpD X (compareOp .In) (rInP X.K false) inD := ⟨op_inP hu, fun e rx ry ⟨xs, h1, h2, q⟩ k => ⟨_, _, xs, dp_mono e rx, dp_mono e ry, h1, h2, k _ _ _ _ (PExt.refl e) (.bl _) q⟩⟩
theorem do_notIn (hu : X.A.units + 200 < cLine) : OpD X (compareOp .NotIn) (rInP X.K true) notInD := ⟨op_notInP hu, fun e rx ry ⟨xs, h1, h2, q⟩ k => ⟨_, _, xs, dp_mono e rx, dp_mono e ry, h1, h2, k _ _ _ _ (PExt.refl e) (.bl _) q⟩⟩
def dInO (neg : Bool) (i : Nat) (t : TDE) : TDE := fun δ Q => t δ fun d δ' => ∃ p xs, δ'[i]? = some (.ow p (.lst xs)) ∧ d.depth ≤ 150 ∧ Q (.bool (neg ^^ xs.any fun z => PyData.eqv z d)) δ'
theorem sim_inO {K : PySem.W.Frag} {neg : Bool} {i : Nat} (ha : SimE K ua ta) : SimE K (tOp (rInP K neg) ua (tVar i)) (dInO neg i ta) := fun R q k => ha R q fun v d δ' H' Hs' R1 x r ⟨p, xs, ex, hd, q1⟩ => by
  obtain ⟨vs, e1, hp, hx⟩ := own_at R1 ex
  exact ⟨_, e1, d, .list xs, xs, dp_mono R1.ex r, .lst (.inl (.inl hp)) (dpAll_mono R1.ex hx), rfl, hd, k _ _ _ _ _ R1 x (.bl _) q1⟩
theorem jt_inO {x : Str} {p1 : Pos} (hu : X.A.units + 200 < cLine) (i : Nat) (ha : JE X a ua ta) (hN : X.N[i]? = some x := by rfl) (hv : Vis X.env.scope x := by first | exact Or.inl rfl | exact Or.inr (Or.inl rfl) | exact Or.inr (Or.inr rfl)) (hd : (x == ("__debug__" : Str)) = false := by decide)
    (hcd : (x == ("__classdict__" : Str)) = false := by decide) (hm : behindInMarks .In (.Name x p1) = false := by with_unfolding_all rfl) : JT X (.Compare a [.In] [.Name x p1] pos) (tTest (tOp (rInP X.K false) ua (tVar i))) (dTest (dInO false i ta)) := ⟨pt_cmpR (op_inP hu) ha.p (pe_var hN hv hd hcd) hm, sim_test (sim_inO ha.s)⟩
theorem jt_notInO {x : Str} {p1 : Pos} (hu : X.A.units + 200 < cLine) (i : Nat) (ha : JE X a ua ta) (hN : X.N[i]? = some x := by rfl) (hv : Vis X.env.scope x := by first | exact Or.inl rfl | exact Or.inr (Or.inl rfl) | exact Or.inr (Or.inr rfl)) (hd : (x == ("__debug__" : Str)) = false := by decide)
    (hcd : (x == ("__classdict__" : Str)) = false := by decide) (hm : behindInMarks .NotIn (.Name x p1) = false := by with_unfolding_all rfl) : JT X (.Compare a [.NotIn] [.Name x p1] pos) (tTest (tOp (rInP X.K true) ua (tVar i))) (dTest (dInO true i ta)) := ⟨pt_cmpR (op_notInP hu) ha.p (pe_var hN hv hd hcd) hm, sim_test (sim_inO ha.s)⟩
def dTruO (i : Nat) : TDB := fun δ Q => ∃ p xs, δ[i]? = some (.ow p (.lst xs)) ∧ Q (!xs.isEmpty) δ
theorem jt_truO {x : Str} {p1 : Pos} (i : Nat) (hN : X.N[i]? = some x := by rfl) (hv : Vis X.env.scope x := by first | exact Or.inl rfl | exact Or.inr (Or.inl rfl) | exact Or.inr (Or.inr rfl)) (hd : (x == ("__debug__" : Str)) = false := by decide)
    (hcd : (x == ("__classdict__" : Str)) = false := by decide) (he : ∀ whole, isTrue (.Name x p1) X.env whole = (do let v ← whole; standAt p1; holding [v] (truthy v)) := by intro _; rfl) : JT X (.Name x p1) (fun σ H Q => tVar i σ H fun x H' => ∃ k, TruV X.K x H' k ∧ Q k H') (dTruO i) := by
  refine ⟨pt_truth (pe_var hN hv hd hcd) he, fun R ⟨p, xs, ex, q⟩ k => ?_⟩
  obtain ⟨vs, e1, hp, hx⟩ := own_at R ex
  refine ⟨_, e1, _, .inl ⟨vs, .inl (.inl hp), rfl⟩, ?_⟩
  have e : (!vs.isEmpty) = !xs.isEmpty := by
    have := dpAll_len hx
    cases vs <;> cases xs <;> simp at this <;> rfl
  rw [e]
  exact k _ _ _ _ R (Ex.refl _) q
def sRevO (i : Nat) : TDS := fun De δ => ∃ p xs, δ[i]? = some (.ow p (.lst xs)) ∧ De.nx (δ.set i (.ow p (.lst xs.reverse)))
theorem js_revO {x : Str} {p1 p2 p3 : Pos} (i : Nat) (hN : X.N[i]? = some x := by rfl) (hv : Vis X.env.scope x := by first | exact Or.inl rfl | exact Or.inr (Or.inl rfl) | exact Or.inr (Or.inr rfl)) (hd : (x == ("__debug__" : Str)) = false := by decide)
    (hcd : (x == ("__classdict__" : Str)) = false := by decide) (h1 : PE X (.Call (.Attribute (.Name x p1) "reverse" p2) [] [] p3) (tBM0 X.K "list" rReverse (tVar i)) → PS X (.Expr (.Call (.Attribute (.Name x p1) "reverse" p2) [] [] p3) pos) (tDrop (tBM0 X.K "list" rReverse (tVar i))) := by exact fun z => ps_expr z)
    (h2 : PE X (.Name x p1) (tVar i) → PE X (.Call (.Attribute (.Name x p1) "reverse" p2) [] [] p3) (tBM0 X.K "list" rReverse (tVar i)) := by exact fun z => pe_bm0 PySem.F.plainAttrs_list PySem.F.slot_list_reverse PySem.F.type_list_reverse mt_reverse z) :
    JS X (.Expr (.Call (.Attribute (.Name x p1) "reverse" p2) [] [] p3) pos) (tDrop (tBM0 X.K "list" rReverse (tVar i))) (sRevO i) := by
  refine ⟨h1 (h2 (pe_var hN hv hd hcd)), fun R ⟨p, xs, ex, q⟩ k => ?_⟩
  obtain ⟨vs, e1, hp, ha⟩ := own_at R ex
  exact ⟨_, e1, .inl ⟨rfl, vs, .inl (.inl hp)⟩, p, vs, rfl, rfl, hp, k.nx _ _ _ _ (R.change ex (dpAll_rev ha)) (Ex.refl _) q⟩
def dSlO (i : Nat) (lo hi : TDO) : TDL := fun δ Q => (∃ p xs, δ[i]? = some (.ow p (.lst xs))) ∧ lo δ fun l δ2 => hi δ2 fun u δ3 => ∃ p xs, δ3[i]? = some (.ow p (.lst xs)) ∧ Q (cutA xs l u) δ3
theorem jn_sliceO {x : Str} {p1 : Pos} {lo hi : Option Expr} {ul uh : TO} {tl th : TDO} {p2 : Pos} (i : Nat) (hl : JO X lo ul tl) (hh : JO X hi uh th) (hN : X.N[i]? = some x := by rfl) (hv : Vis X.env.scope x := by first | exact Or.inl rfl | exact Or.inr (Or.inl rfl) | exact Or.inr (Or.inr rfl)) (hd : (x == ("__debug__" : Str)) = false := by decide)
    (hcd : (x == ("__classdict__" : Str)) = false := by decide) : JN X (.Subscript (.Name x p1) (.Slice lo hi none p2) pos) (tSl (rSlL X.K) (tVar i) ul uh) (dSlO i tl th) := by
  obtain ⟨pl, sl⟩ := hl
  obtain ⟨ph, sh⟩ := hh
  refine ⟨pe_slice sl_list (pe_var hN hv hd hcd) pl ph, fun R ⟨⟨p, xs, ex⟩, h1⟩ k => ?_⟩
  obtain ⟨vs, e1, hp, ha⟩ := own_at R ex
  refine ⟨_, e1, sl R h1 fun o δ2 H2 Hs2 R2 e2 h2 => sh R2 h2 fun o' δ3 H3 Hs3 R3 e3 ⟨p', ys, ey, q⟩ => ?_⟩
  obtain ⟨ws, e4, hp4, ha4⟩ := own_at R3 ey
  rw [e1] at e4
  cases e4
  refine ⟨_, ws, rfl, .inl (.inl hp4), fun z hz => ?_⟩
  exact k _ _ _ _ _ _ (R3.hide hz) (R3.base.none hz) (R3.frz.none (R3.ex.none hz)) (e2.trans e3) (dpAll_cut ha4 o o') q
def dAddN (ta tb : TDE) : TDL := fun δ Q => ta δ fun x δ1 => tb δ1 fun y δ2 => ∃ xs ys, x = .list xs ∧ y = .list ys ∧ xs.length + ys.length ≤ 100000 ∧ Q (xs ++ ys) δ2
theorem jn_add (ha : JE X a ua ta) (hb : JE X b ub tb) : JN X (.BinOp a .Add b pos) (tOp (rCatS X.K) ua ub) (dAddN ta tb) := by
  refine ⟨pe_op op_catS ha.p hb.p, fun R q k => ha.s R q fun v d δ1 H1 Hs1 R1 x1 r1 q1 => hb.s R1 q1 fun u f δ2 H2 Hs2 R2 x2 r2 ⟨xs, ys, e1, e2, hl, q2⟩ => ?_⟩
  subst e1 e2
  cases r1 with
  | @lst l vs _ h1 a1 =>
    cases r2 with
    | @lst m ws _ h2 a2 =>
      refine ⟨l, m, vs, ws, rfl, rfl, R2.ex.sl (x2.sl h1), R2.ex.sl h2, by rw [dpAll_len a1, dpAll_len a2]; exact sz5 hl, fun p hp => ?_⟩
      exact k _ _ _ _ _ _ (R2.hide hp) (R2.base.none hp) (R2.frz.none (R2.ex.none hp)) (x1.trans x2) (dpAll_app (dpAll_mono x2 a1) a2) q2
def absD : List D → (D → Prop) → Prop
  | [.int i], Q => Q (.int (if i < 0 then -i else i))
  | _, _ => False
theorem cd_abs : CallD X (.builtin "abs") (fun xs H Q => ∃ i, xs = [.int i] ∧ Q (.int (if i < 0 then -i else i)) H) absD := ⟨call_abs, fun {Hs H vs ds Q Q'} e r h k => by
  match ds, h with
  | [.int i], h =>
    cases r with
    | cons r1 r2 =>
      cases r1
      cases r2
      exact ⟨i, rfl, k _ _ _ _ (PExt.refl e) (.int _) h⟩⟩
theorem st_abs {i : Int} {Q : D → Prop} (q : Q (.int (if i < 0 then -i else i))) : absD [.int i] Q := q
theorem st_truO {δ : Dl} {i : Nat} {Q : Bool → Dl → Prop} {p : Addr} {xs : List D} (h : δ[i]? = some (.ow p (.lst xs))) (q : Q (!xs.isEmpty) δ) : dTruO i δ Q := ⟨p, xs, h, q⟩
theorem st_inO {δ : Dl} {i : Nat} {neg : Bool} {Q : D → Dl → Prop} (q : t δ fun d δ' => ∃ p xs, δ'[i]? = some (.ow p (.lst xs)) ∧ d.depth ≤ 150 ∧ Q (.bool (neg ^^ xs.any fun z => PyData.eqv z d)) δ') : dInO neg i t δ Q := q
theorem st_in {neg : Bool} {x y : D} {xs : List D} {Q : D → Prop} (h1 : seqOf y = some xs) (h2 : x.depth ≤ 150) (q : Q (.bool (neg ^^ xs.any fun z => PyData.eqv z x))) : inG neg x y Q := ⟨xs, h1, h2, q⟩
theorem st_slO {δ : Dl} {i : Nat} {lo hi : TDO} {Q : List D → Dl → Prop} {p : Addr} {xs : List D} (h : δ[i]? = some (.ow p (.lst xs))) (q : lo δ fun l δ2 => hi δ2 fun u δ3 => ∃ p xs, δ3[i]? = some (.ow p (.lst xs)) ∧ Q (cutA xs l u) δ3) : dSlO i lo hi δ Q := ⟨⟨p, xs, h⟩, q⟩
theorem st_revO {De : DEnds} {δ : Dl} {i : Nat} {p : Addr} {xs : List D} (h : δ[i]? = some (.ow p (.lst xs))) (q : De.nx (δ.set i (.ow p (.lst xs.reverse)))) : sRevO i De δ := ⟨p, xs, h, q⟩
theorem st_addN {δ : Dl} {Q : List D → Dl → Prop} (q : ta δ fun x δ1 => tb δ1 fun y δ2 => ∃ xs ys, x = .list xs ∧ y = .list ys ∧ xs.length + ys.length ≤ 100000 ∧ Q (xs ++ ys) δ2) : dAddN ta tb δ Q := q
end
end DL
namespace DL
open PySem PySem.Spec PyProof.Rows L2
theorem wipe_get {σ : L2.St} {j : Nat} : ∀ {us : List Nat}, (L2.wipe σ us)[j]? = if j ∈ us ∧ j < σ.length then some none else σ[j]?
  | [] => by rw [if_neg (by simp)]; rfl
  | u :: us => by
    show ((L2.wipe σ us).set u none)[j]? = _
    by_cases hu : u = j
    · subst hu
      by_cases hl : u < σ.length
      · rw [List.getElem?_set_self (by rw [wipe_length]; exact hl), if_pos ⟨List.mem_cons_self, hl⟩]
      · rw [List.getElem?_eq_none (by rw [List.length_set, wipe_length]; omega), if_neg (fun z => hl z.2), List.getElem?_eq_none (by omega)]
    · rw [List.getElem?_set_ne hu, wipe_get]
      by_cases hm : j ∈ us ∧ j < σ.length
      · rw [if_pos hm, if_pos ⟨List.mem_cons_of_mem _ hm.1, hm.2⟩]
      · rw [if_neg hm, if_neg (fun z => by
          rcases List.mem_cons.mp z.1 with h | h
          · exact hu h.symm
          · exact hm ⟨h, z.2⟩)]
theorem wipe_set {σ : L2.St} {i : Nat} {x : Option V} {us : List Nat} (hi : i ∈ us) : L2.wipe (σ.set i x) us = L2.wipe σ us := by
  refine List.ext_getElem? fun j => ?_
  rw [wipe_get, wipe_get, List.length_set]
  by_cases hj : j ∈ us ∧ j < σ.length
  · rw [if_pos hj, if_pos hj]
  · rw [if_neg hj, if_neg hj]
    by_cases hij : i = j
    · subst hij
      have : ¬ i < σ.length := fun z => hj ⟨hi, z⟩
      rw [List.getElem?_eq_none (by rw [List.length_set]; omega), List.getElem?_eq_none (by omega)]
    · rw [List.getElem?_set_ne hij]
theorem wipe_wipe {σ : L2.St} {us : List Nat} : L2.wipe (L2.wipe σ us) us = L2.wipe σ us := by
  refine List.ext_getElem? fun j => ?_
  rw [wipe_get, wipe_length]
  by_cases hj : j ∈ us ∧ j < σ.length
  · rw [if_pos hj, wipe_get, if_pos hj]
  · rw [if_neg hj]
def SimGw (K : PySem.W.Frag) (g : TG) (t : TDG) (vs : List Nat) : Prop := ∀ {B H0 : Hp} {σ : L2.St} {δ : Dl} {H Hs : Hp} {v : V} {d : D} {Q : Dl → Prop} {Q' : L2.St → Hp → Prop}, Rep K B H0 σ δ H Hs → Dp K Hs v d → t d δ Q →
  (∀ σ' δ', Rep K B H0 σ' δ' H Hs → L2.wipe σ' vs = L2.wipe σ vs → Q δ' → Q' σ' H) → g v σ H Q'
theorem gw_name {K : PySem.W.Frag} {i : Nat} {vs : List Nat} (hi : i ∈ vs) : SimGw K (gName i) (dgName i) vs := fun R r q k => k _ _ (R.set r i) (wipe_set hi) q
theorem gw_two {K : PySem.W.Frag} {i j : Nat} {vs : List Nat} (hi : i ∈ vs) (hj : j ∈ vs) : SimGw K (gTup K 2 (gCons (gName i) (gCons (gName j) gNil))) (dgTup 2 (dgCons (dgName i) (dgCons (dgName j) dgNil))) vs := fun R r ⟨xs, e, hl, q⟩ k => by
  subst e
  cases r with
  | @tup a ws _ hs ha =>
    obtain ⟨d1, r1, e1, q1⟩ := q
    subst e1
    obtain ⟨d2, r2, e2, q2⟩ := q1
    subst e2
    obtain ⟨e3, q3⟩ := q2
    subst e3
    cases ha with
    | cons p1 ha =>
      cases ha with
      | cons p2 ha =>
        cases ha
        exact ⟨a, _, rfl, R.ex.st hs, rfl, _, _, rfl, _, _, rfl, rfl, k _ _ ((R.set p1 i).set p2 j) (by rw [wipe_set hj, wipe_set hi]) q3⟩
def OkSl (δ : Dl) (vs : List Nat) : Prop := ∀ v ∈ vs, ∃ s, δ[v]? = some s ∧ isOw s = false
theorem mixD_len (δx δ : Dl) : ∀ us, (mixD δx δ us).length = δx.length
  | [] => rfl
  | v :: us => by
    show ((mixD δx δ us).set v _).length = _
    rw [List.length_set, mixD_len δx δ us]
theorem ok_mix {δx δ : Dl} (hl : δx.length = δ.length) : ∀ {us : List Nat}, OkSl δ us → OkSl (mixD δx δ us) us
  | [], _ => fun v hv => by simp at hv
  | u :: us, h => fun v hv => by
    show ∃ s, ((mixD δx δ us).set u (δ[u]?.getD .un))[v]? = some s ∧ isOw s = false
    obtain ⟨s, hs, hso⟩ := h u List.mem_cons_self
    have hul : u < δ.length := lt_of_get hs
    by_cases huv : u = v
    · subst huv
      rw [List.getElem?_set_self (by rw [mixD_len, hl]; exact hul), hs]
      exact ⟨s, rfl, hso⟩
    · rw [List.getElem?_set_ne huv]
      rcases List.mem_cons.mp hv with z | z
      · exact absurd z.symm huv
      · exact ok_mix hl (fun w hw => h w (List.mem_cons_of_mem _ hw)) v z
section
variable {X : Cx} {wi wi1 : TI} {ti ti1 : TDI}
theorem lc_loop {K : PySem.W.Frag} {B H0 : Hp} {p : Addr} {g : TG} {dg : TDG} {vt : TT} {ue : TE} {tt : TDB} {te : TDE} {vs : List Nat} (hg : SimGw K g dg vs) (ht : SimT K vt tt) (he : SimE K ue te) (hH0 : H0 p = none) {σ : L2.St} {J : It} {xs : List D} {Q : List D → Dl → Prop} {Z : Hp → Prop} {δ : Dl} {H Hs : Hp} {acc : List D} {vacc : List V}
    (R : Rep K (upd B p (.lst vacc)) H0 σ δ H Hs) (it : ItOk K J xs Hs) (ha : DpAll K Hs vacc acc) (ho : OkSl δ vs) (q : dLcGo dg tt te vs Q xs acc δ)
    (fin : ∀ δ' H' Hs' acc' vacc', Rep K (upd B p (.lst vacc')) H0 σ δ' H' Hs' → Ex Hs Hs' → DpAll K Hs' vacc' acc' → OkSl δ' vs → Q acc' δ' → Z H') :
    ∃ W : Nat → Nat → Hp → Prop, (∃ m, W 0 m H) ∧ ∀ i m H, W i m H → (J.stop i H ∧ Z H) ∨ (J.go i H ∧ ∃ Nx : Hp → Prop, (∀ H', Nx H' → ∃ m', m' < m ∧ W (i + 1) m' H') ∧ ∀ x H', J.yld i H x H' → g x (L2.wipe σ vs) H' fun σ2 H2 => L2.wipe σ2 vs = L2.wipe σ vs ∧ vt σ2 H2 fun b H3 =>
      if b = true then ue σ2 H3 fun y H4 => ∃ acc, H4 p = some (.lst acc) ∧ acc.length < sizeLine ∧ Nx (upd H4 p (.lst (acc ++ [y]))) else Nx H3) := by
  refine ⟨fun j m H' => m + j = xs.length ∧ ∃ δ' Hs' acc vacc, Rep K (upd B p (.lst vacc)) H0 σ δ' H' Hs' ∧ Ex Hs Hs' ∧ DpAll K Hs' vacc acc ∧ OkSl δ' vs ∧ dLcGo dg tt te vs Q (xs.drop j) acc δ', ⟨xs.length, by omega, δ, Hs, acc, vacc, R, Ex.refl _, ha, ho, by rw [List.drop_zero]; exact q⟩, ?_⟩
  rintro j m H' ⟨hm, δ', Hs', acc, vacc, R', e', ha, ho', q'⟩
  obtain ⟨h1, h2⟩ := it j H' Hs' e' R'.ex
  by_cases hj : j < xs.length
  · obtain ⟨go, yl⟩ := h2 xs[j] (List.getElem?_eq_getElem hj)
    rw [List.drop_eq_getElem_cons hj] at q'
    refine .inr ⟨go, fun H2 => ∃ δ2 Hs2 acc vacc, Rep K (upd B p (.lst vacc)) H0 σ δ2 H2 Hs2 ∧ Ex Hs Hs2 ∧ DpAll K Hs2 vacc acc ∧ OkSl δ2 vs ∧ dLcGo dg tt te vs Q (xs.drop (j + 1)) acc δ2,
      fun H2 ⟨δ2, Hs2, acc2, vacc2, R2, e2, a2, o2, q2⟩ => ⟨m - 1, by omega, by omega, δ2, Hs2, acc2, vacc2, R2, e2, a2, o2, q2⟩, fun x H2 y => ?_⟩
    obtain ⟨Hs2, x2, r2⟩ := yl x H2 y
    have R2 := R'.ext x2
    refine hg (R2.wipe vs) r2 q' fun σ3 δ3 R3 hw q3 => ?_
    rw [wipe_wipe] at hw
    refine ⟨hw, ht R3 q3 fun c δ4 H4 Hs4 R4 e4 q4 => ?_⟩
    cases c with
    | true =>
      rw [if_pos rfl] at q4 ⊢
      refine he R4 q4 fun z d δ5 H5 Hs5 R5 e5 r5 ⟨hlen, q5⟩ => ?_
      refine ⟨vacc, R5.at_p, by rw [dpAll_len ha]; exact lt_line hlen, ?_⟩
      have R6 := R2.mix R5 (e4.trans e5) vs ho'
      rw [mixS_eq hw] at R6
      have hl5 : δ5.length = δ'.length := by
        have a1 := R5.len
        have a2 := R2.len
        have a3 := congrArg List.length hw
        rw [wipe_length, wipe_length] at a3
        omega
      have e6 := (x2.s.trans e4).trans e5
      exact ⟨mixD δ5 δ' vs, Hs5, acc ++ [d], vacc ++ [z], R6.hset hH0, e'.trans e6, dpAll_app (dpAll_mono e6 ha) (.cons r5 .nil), ok_mix hl5 ho', q5⟩
    | false =>
      rw [if_neg Bool.false_ne_true] at q4 ⊢
      have R6 := R2.mix R4 e4 vs ho'
      rw [mixS_eq hw] at R6
      have hl5 : δ4.length = δ'.length := by
        have a1 := R4.len
        have a2 := R2.len
        have a3 := congrArg List.length hw
        rw [wipe_length, wipe_length] at a3
        omega
      have e6 := x2.s.trans e4
      exact ⟨mixD δ4 δ' vs, Hs4, acc, vacc, R6, e'.trans e6, dpAll_mono e6 ha, ok_mix hl5 ho', q4⟩
  · have ed : xs.drop j = [] := List.drop_eq_nil_of_le (by omega)
    rw [ed] at q'
    exact .inl ⟨h1 (by omega), fin _ _ _ _ _ R' e' ha ho' q'⟩
theorem sim_lcG {K : PySem.W.Frag} {g : TG} {dg : TDG} {vt : TT} {ue : TE} {tt : TDB} {te : TDE} {vs : List Nat} (hi : SimI K wi ti) (hg : SimGw K g dg vs) (ht : SimT K vt tt) (he : SimE K ue te) : SimN K (tLc wi g vt ue vs) (dLc ti dg tt te vs) := by
  intro B H0 σ δ H Hs Q Q' R q k
  obtain ⟨_, q⟩ := q
  refine hi R q fun J xs δ1 H1 Hs1 R1 e1 it ⟨ho, q1⟩ => ?_
  intro p hp
  have hB : B p = none := R1.base.none hp
  have hH0 : H0 p = none := R1.frz.none (R1.ex.none hp)
  exact lc_loop (Z := fun H' => Q' (.ref p) H') hg ht he hH0 (R1.hide hp) it .nil ho q1 fun δ' H' Hs' acc' vacc' R' e' ha _ q' => k _ _ _ _ _ _ R' hB hH0 (e1.trans e') ha q'
def dLc2Go (dg : TDG) (tt : TDB) (ti1 : TDI) (dg1 : TDG) (tt1 : TDB) (te : TDE) (vs vs1 : List Nat) (Q : List D → Dl → Prop) : List D → List D → Dl → Prop
  | [], acc, δ => Q acc δ
  | x :: xs, acc, δ => dg x (wipeD δ vs) fun δ1 => tt δ1 fun b δ2 => if b = true then ti1 δ2 fun ys δ3 => OkSl δ3 vs1 ∧ dLcGo dg1 tt1 te vs1 (fun acc' δ4 => dLc2Go dg tt ti1 dg1 tt1 te vs vs1 Q xs acc' (mixD δ4 δ vs)) ys acc δ3 else dLc2Go dg tt ti1 dg1 tt1 te vs vs1 Q xs acc (mixD δ2 δ vs)
def dLc2 (ti : TDI) (dg : TDG) (tt : TDB) (ti1 : TDI) (dg1 : TDG) (tt1 : TDB) (te : TDE) (vs vs1 : List Nat) : TDL := fun δ Q => ti δ fun xs δ' => OkSl δ' vs ∧ dLc2Go dg tt ti1 dg1 tt1 te vs vs1 Q xs [] δ'
theorem sim_lc2 {K : PySem.W.Frag} {g g1 : TG} {dg dg1 : TDG} {vt vt1 : TT} {ue : TE} {tt tt1 : TDB} {te : TDE} {vs vs1 : List Nat} (hi : SimI K wi ti) (hg : SimGw K g dg vs) (ht : SimT K vt tt) (hi1 : SimI K wi1 ti1) (hg1 : SimGw K g1 dg1 vs1) (ht1 : SimT K vt1 tt1) (he : SimE K ue te) :
    SimN K (tLc2 wi g vt wi1 g1 vt1 ue vs vs1) (dLc2 ti dg tt ti1 dg1 tt1 te vs vs1) := by
  intro B H0 σ δ H Hs Q Q' R q k
  refine hi R q fun J xs δ1 H1 Hs1 R1 e1 it ⟨ho, q1⟩ => ?_
  intro p hp
  have hB : B p = none := R1.base.none hp
  have hH0 : H0 p = none := R1.frz.none (R1.ex.none hp)
  refine ⟨fun j m H' => m + j = xs.length ∧ ∃ δ' Hs' acc vacc, Rep K (upd B p (.lst vacc)) H0 σ δ' H' Hs' ∧ Ex Hs1 Hs' ∧ DpAll K Hs' vacc acc ∧ OkSl δ' vs ∧ dLc2Go dg tt ti1 dg1 tt1 te vs vs1 Q (xs.drop j) acc δ',
    ⟨xs.length, by omega, δ1, Hs1, [], [], R1.hide hp, Ex.refl _, .nil, ho, q1⟩, ?_⟩
  rintro j m H' ⟨hm, δ', Hs', acc, vacc, R', e', ha, ho', q'⟩
  obtain ⟨h1, h2⟩ := it j H' Hs' e' R'.ex
  by_cases hj : j < xs.length
  · obtain ⟨go, yl⟩ := h2 xs[j] (List.getElem?_eq_getElem hj)
    rw [List.drop_eq_getElem_cons hj] at q'
    refine .inr ⟨go, fun H2 => ∃ δ2 Hs2 acc vacc, Rep K (upd B p (.lst vacc)) H0 σ δ2 H2 Hs2 ∧ Ex Hs1 Hs2 ∧ DpAll K Hs2 vacc acc ∧ OkSl δ2 vs ∧ dLc2Go dg tt ti1 dg1 tt1 te vs vs1 Q (xs.drop (j + 1)) acc δ2,
      fun H2 ⟨δ2, Hs2, acc2, vacc2, R2, e2, a2, o2, q2⟩ => ⟨m - 1, by omega, by omega, δ2, Hs2, acc2, vacc2, R2, e2, a2, o2, q2⟩, fun x H2 y => ?_⟩
    obtain ⟨Hs2, x2, r2⟩ := yl x H2 y
    have R2 := R'.ext x2
    refine hg (R2.wipe vs) r2 q' fun σ3 δ3 R3 hw q3 => ?_
    rw [wipe_wipe] at hw
    have len3 : ∀ {δx : Dl} {Hx Hsx : Hp} {vx : List V}, Rep K (upd B p (.lst vx)) H0 σ3 δx Hx Hsx → δx.length = δ'.length := fun Rx => by
      have a1 := Rx.len
      have a2 := R2.len
      have a3 := congrArg List.length hw
      rw [wipe_length, wipe_length] at a3
      omega
    refine ⟨hw, ht R3 q3 fun c δ4 H4 Hs4 R4 e4 q4 => ?_⟩
    cases c with
    | true =>
      rw [if_pos rfl] at q4 ⊢
      refine hi1 R4 q4 fun J1 ys δ5 H5 Hs5 R5 e5 it5 ⟨o5, q5⟩ => ?_
      have e6 := (x2.s.trans e4).trans e5
      refine lc_loop hg1 ht1 he hH0 R5 it5 (dpAll_mono e6 ha) o5 q5 fun δ6 H6 Hs6 acc6 vacc6 R6 e7 a6 _ q6 => ?_
      have R7 := (show Rep K (upd B p (.lst vacc)) H0 σ δ' H2 Hs2 from R2)
      have e8 := (e4.trans e5).trans e7
      have key : Rep K (upd B p (.lst vacc6)) H0 (mixS σ3 σ vs) (mixD δ6 δ' vs) H6 Hs6 := by
        have : ∀ us : List Nat, (∀ v ∈ us, v ∈ vs) → Rep K (upd B p (.lst vacc6)) H0 (mixS σ3 σ us) (mixD δ6 δ' us) H6 Hs6 := by
          intro us
          induction us with
          | nil => intro _; exact R6
          | cons v us ih =>
            intro hsub
            have ih := ih fun w hw => hsub w (List.mem_cons_of_mem _ hw)
            obtain ⟨s, hs, hso⟩ := ho' v (hsub v List.mem_cons_self)
            obtain ⟨fps, F⟩ := R2.sl
            obtain ⟨x, ex, r⟩ := F.sl v s hs
            show Rep K _ H0 ((mixS σ3 σ us).set v (σ[v]?.getD none)) ((mixD δ6 δ' us).set v (δ'[v]?.getD .un)) H6 Hs6
            rw [hs, ex]
            cases s with
            | un => exact ih.setUn v x
            | dt d =>
              cases x with
              | none => exact r.elim
              | some y => exact ih.set (dp_mono e8 r.1) v
            | ow p o => cases hso
        exact this vs fun _ h => h
      rw [mixS_eq hw] at key
      exact ⟨mixD δ6 δ' vs, Hs6, acc6, vacc6, key, e'.trans (e6.trans e7), a6, ok_mix (len3 R6) ho', q6⟩
    | false =>
      rw [if_neg Bool.false_ne_true] at q4 ⊢
      have R6 := R2.mix R4 e4 vs ho'
      rw [mixS_eq hw] at R6
      have e6 := x2.s.trans e4
      exact ⟨mixD δ4 δ' vs, Hs4, acc, vacc, R6, e'.trans e6, dpAll_mono e6 ha, ok_mix (len3 R4) ho', q4⟩
  · have ed : xs.drop j = [] := List.drop_eq_nil_of_le (by omega)
    rw [ed] at q'
    exact .inl ⟨h1 (by omega), k _ _ _ _ _ _ R' hB hH0 (e1.trans e') ha q'⟩
end
end DL
namespace DL
open PySem PySem.Spec PyProof.Rows L2
abbrev BkT (α : Type) : Type := Shared → Hp → Addr → List (Str × Addr) → List Addr → α
section
variable {X : Cx} {e a b elt tg iter tg1 iter1 : Expr} {es : List Expr} {pos : Pos} {t ta tb : TDE} {us : TA} {wi : TI} {ti ti1 : TDI} {scope : Scope} {own : List (Str × Nat)} {g g1 : TG} {dg dg1 : TDG} {tt tt1 : TDB} {te : TDE} {uf : BkT TE} {vf vf1 : BkT TT} {wf : BkT TI} {vs1 : List Nat}
theorem jn_lcG (hc : X.calm = true) (hN : X.N.Nodup) (hi : JI X tg iter wi ti) (ok : BlkOk X.N X.env.scope scope own)
    (hg : ∀ (s : Shared) (H : Hp) (C : Addr) (cl : List (Str × Addr)) (fp : List Addr), PG (Bk X s H scope C cl fp) tg g) (hgw : SimGw X.K g dg (own.map (·.2)))
    (he : ∀ (s : Shared) (H : Hp) (C : Addr) (cl : List (Str × Addr)) (fp : List Addr), JE (Bk X s H scope C cl fp) elt (uf s H C cl fp) te)
    (hu : ∀ (s : Shared) (H : Hp) (C : Addr) (cl : List (Str × Addr)) (fp : List Addr), uf s H C cl fp = uf X.s_0 X.H_0 0 [] [] := by intros; rfl) (hs : ∀ x, foldedSetIterable iter X.env x = pure x := by intro _; rfl) :
    JN X (.ListComp elt [⟨tg, iter, [], 0⟩] scope pos) (tLc wi g tYes (uf X.s_0 X.H_0 0 [] []) (own.map (·.2))) (dLc ti dg dYes te (own.map (·.2))) :=
  ⟨pe_lc (own := own) hc hN hi.p ok hg (fun _ _ _ _ _ => pts_nil) (fun s H C cl fp => hu s H C cl fp ▸ (he s H C cl fp).p) hs, sim_lcG hi.s hgw sim_yes (he X.s_0 X.H_0 0 [] []).s⟩
theorem jn_lcGIf {c : Expr} (hc : X.calm = true) (hN : X.N.Nodup) (hi : JI X tg iter wi ti) (ok : BlkOk X.N X.env.scope scope own)
    (hg : ∀ (s : Shared) (H : Hp) (C : Addr) (cl : List (Str × Addr)) (fp : List Addr), PG (Bk X s H scope C cl fp) tg g) (hgw : SimGw X.K g dg (own.map (·.2)))
    (ht : ∀ (s : Shared) (H : Hp) (C : Addr) (cl : List (Str × Addr)) (fp : List Addr), JT (Bk X s H scope C cl fp) c (vf s H C cl fp) tt)
    (he : ∀ (s : Shared) (H : Hp) (C : Addr) (cl : List (Str × Addr)) (fp : List Addr), JE (Bk X s H scope C cl fp) elt (uf s H C cl fp) te)
    (hv : ∀ (s : Shared) (H : Hp) (C : Addr) (cl : List (Str × Addr)) (fp : List Addr), vf s H C cl fp = vf X.s_0 X.H_0 0 [] [] := by intros; rfl)
    (hu : ∀ (s : Shared) (H : Hp) (C : Addr) (cl : List (Str × Addr)) (fp : List Addr), uf s H C cl fp = uf X.s_0 X.H_0 0 [] [] := by intros; rfl) (hs : ∀ x, foldedSetIterable iter X.env x = pure x := by intro _; rfl) :
    JN X (.ListComp elt [⟨tg, iter, [c], 0⟩] scope pos) (tLc wi g (vf X.s_0 X.H_0 0 [] []) (uf X.s_0 X.H_0 0 [] []) (own.map (·.2))) (dLc ti dg tt te (own.map (·.2))) :=
  ⟨pe_lc (own := own) hc hN hi.p ok hg (fun s H C cl fp => pts_one (hv s H C cl fp ▸ (ht s H C cl fp).p)) (fun s H C cl fp => hu s H C cl fp ▸ (he s H C cl fp).p) hs, sim_lcG hi.s hgw (ht X.s_0 X.H_0 0 [] []).s (he X.s_0 X.H_0 0 [] []).s⟩
theorem jn_lc2 (hc : X.calm = true) (hN : X.N.Nodup) (hi : JI X tg iter wi ti) (ok : BlkOk X.N X.env.scope scope own)
    (hg : ∀ (s : Shared) (H : Hp) (C : Addr) (cl : List (Str × Addr)) (fp : List Addr), PG (Bk X s H scope C cl fp) tg g) (hgw : SimGw X.K g dg (own.map (·.2)))
    (hi1 : ∀ (s : Shared) (H : Hp) (C : Addr) (cl : List (Str × Addr)) (fp : List Addr), JI (Bk X s H scope C cl fp) tg1 iter1 (wf s H C cl fp) ti1)
    (hg1 : ∀ (s : Shared) (H : Hp) (C : Addr) (cl : List (Str × Addr)) (fp : List Addr), PG (Bk X s H scope C cl fp) tg1 g1) (hgw1 : SimGw X.K g1 dg1 vs1)
    (he : ∀ (s : Shared) (H : Hp) (C : Addr) (cl : List (Str × Addr)) (fp : List Addr), JE (Bk X s H scope C cl fp) elt (uf s H C cl fp) te)
    (hvs : ∀ i ∈ vs1, i ∈ own.map (·.2) := by decide)
    (hw : ∀ (s : Shared) (H : Hp) (C : Addr) (cl : List (Str × Addr)) (fp : List Addr), wf s H C cl fp = wf X.s_0 X.H_0 0 [] [] := by intros; rfl)
    (hu : ∀ (s : Shared) (H : Hp) (C : Addr) (cl : List (Str × Addr)) (fp : List Addr), uf s H C cl fp = uf X.s_0 X.H_0 0 [] [] := by intros; rfl)
    (hs : ∀ x, foldedSetIterable iter X.env x = pure x := by intro _; rfl) (hs1 : ∀ env x, foldedSetIterable iter1 env x = pure x := by intro _ _; rfl) :
    JN X (.ListComp elt [⟨tg, iter, [], 0⟩, ⟨tg1, iter1, [], 0⟩] scope pos) (tLc2 wi g tYes (wf X.s_0 X.H_0 0 [] []) g1 tYes (uf X.s_0 X.H_0 0 [] []) (own.map (·.2)) vs1) (dLc2 ti dg dYes ti1 dg1 dYes te (own.map (·.2)) vs1) :=
  ⟨pe_lc2 (own := own) hc hN hi.p ok hvs hg (fun _ _ _ _ _ => pts_nil) (fun s H C cl fp => hw s H C cl fp ▸ (hi1 s H C cl fp).p) hg1 (fun _ _ _ _ _ => pts_nil) (fun s H C cl fp => hu s H C cl fp ▸ (he s H C cl fp).p) hs hs1,
    sim_lc2 hi.s hgw sim_yes (hi1 X.s_0 X.H_0 0 [] []).s hgw1 sim_yes (he X.s_0 X.H_0 0 [] []).s⟩
def pairD (xs ys : List D) : List D := (xs.zip ys).map fun p => .tuple [p.1, p.2]
theorem pairD_len (xs ys : List D) : (pairD xs ys).length = min xs.length ys.length := by
  unfold pairD
  rw [List.length_map, List.length_zip]
theorem pairD_get {xs ys : List D} {i : Nat} {d : D} (h : (pairD xs ys)[i]? = some d) : ∃ x y, xs[i]? = some x ∧ ys[i]? = some y ∧ d = .tuple [x, y] := by
  have hl := lt_of_get h
  rw [pairD_len] at hl
  unfold pairD at h
  rw [List.getElem?_map, List.getElem?_eq_getElem (by rw [List.length_zip]; exact hl), List.getElem_zip] at h
  cases h
  exact ⟨_, _, List.getElem?_eq_getElem (by omega), List.getElem?_eq_getElem (by omega), rfl⟩
theorem it_zipT {K : PySem.W.Frag} {Hs : Hp} {a b : Addr} {vs ws : List V} {xs ys : List D} (h : SqT K Hs a vs) (ha : DpAll K Hs vs xs) (h2 : SqT K Hs b ws) (hb : DpAll K Hs ws ys) : ItOk K (RZ.ItzT K a b) (pairD xs ys) Hs := fun i H Hs1 e1 e2 =>
  ⟨fun hi => ⟨vs, ws, (e1.trans e2).st h, (e1.trans e2).st h2, by rw [pairD_len] at hi; rw [dpAll_len ha, dpAll_len hb]; omega⟩, fun d hd => by
    obtain ⟨x, y, hx, hy, rfl⟩ := pairD_get hd
    obtain ⟨v, hv, rv⟩ := dpAll_get ha hx
    obtain ⟨u, hu, ru⟩ := dpAll_get hb hy
    refine ⟨⟨vs, ws, v, u, (e1.trans e2).st h, (e1.trans e2).st h2, hv, hu⟩, fun z H' ⟨T, v', u', e, hT, eH, q1, q2⟩ => ?_⟩
    subst e eH
    have z1 := q1 vs ((e1.trans e2).st h)
    have z2 := q2 ws ((e1.trans e2).st h2)
    rw [hv] at z1
    rw [hu] at z2
    cases z1
    cases z2
    have x1 := PExt.new e2 (.tup [v, u]) hT
    exact ⟨_, x1, .tup (.inl (.inl upd_same)) (.cons (dp_mono (e1.trans x1.s) rv) (.cons (dp_mono (e1.trans x1.s) ru) .nil))⟩⟩
theorem it_zipL {K : PySem.W.Frag} {Hs : Hp} {a b : Addr} {vs ws : List V} {xs ys : List D} (h : SqL K Hs a vs) (ha : DpAll K Hs vs xs) (h2 : SqL K Hs b ws) (hb : DpAll K Hs ws ys) : ItOk K (Itz K a b) (pairD xs ys) Hs := fun i H Hs1 e1 e2 =>
  ⟨fun hi => ⟨vs, ws, (e1.trans e2).sl h, (e1.trans e2).sl h2, by rw [pairD_len] at hi; rw [dpAll_len ha, dpAll_len hb]; omega⟩, fun d hd => by
    obtain ⟨x, y, hx, hy, rfl⟩ := pairD_get hd
    obtain ⟨v, hv, rv⟩ := dpAll_get ha hx
    obtain ⟨u, hu, ru⟩ := dpAll_get hb hy
    refine ⟨⟨vs, ws, v, u, (e1.trans e2).sl h, (e1.trans e2).sl h2, hv, hu⟩, fun z H' ⟨T, v', u', e, hT, eH, q1, q2⟩ => ?_⟩
    subst e eH
    have z1 := q1 vs ((e1.trans e2).sl h)
    have z2 := q2 ws ((e1.trans e2).sl h2)
    rw [hv] at z1
    rw [hu] at z2
    cases z1
    cases z2
    have x1 := PExt.new e2 (.tup [v, u]) hT
    exact ⟨_, x1, .tup (.inl (.inl upd_same)) (.cons (dp_mono (e1.trans x1.s) rv) (.cons (dp_mono (e1.trans x1.s) ru) .nil))⟩⟩
def iZipD (t : TDL) : TDI := fun δ Q => t δ fun ds δ' => ∃ xs ys, ((ds = [.list xs, .list ys]) ∨ ds = [.tuple xs, .tuple ys]) ∧ Q (pairD xs ys) δ'
theorem ji_zip {p tpos : Pos} {elts : List Expr} {kk : Nat} {u : TDL} (hg : Gl X "zip") (hm : X.mg "zip" = none) (ha : JA X [a, b] us u) (hs : starEach [a, b] X.env = (false, eval a X.env) :: starEach [b] X.env := by rfl) (hpl : (backTo pos (starEach [b] X.env)).any (·.1) = false := by rfl) :
    JI X (.Tuple elts kk tpos) (.Call (.Name "zip" p) [a, b] [] pos) (RZ.iZipA X.K us) (iZipD u) :=
  ⟨RZ.pi_zipA hg hm ha.p hs hpl, fun R q k => ha.s R q fun vs ds δ1 H1 Hs1 R1 e1 r1 ⟨xs, ys, hd, q1⟩ => by
    rcases hd with rfl | rfl
    · cases r1 with
      | cons r1 r2 =>
        cases r2 with
        | cons r2 r3 =>
          cases r3
          cases r1 with
          | @lst a ws _ h1 a1 =>
            cases r2 with
            | @lst b zs _ h2 a2 => exact ⟨a, b, ws, zs, rfl, .inl ⟨R1.ex.sl h1, R1.ex.sl h2, k _ _ _ _ _ R1 e1 (it_zipL h1 a1 h2 a2) q1⟩⟩
    · cases r1 with
      | cons r1 r2 =>
        cases r2 with
        | cons r2 r3 =>
          cases r3
          cases r1 with
          | @tup a ws _ h1 a1 =>
            cases r2 with
            | @tup b zs _ h2 a2 => exact ⟨a, b, ws, zs, rfl, .inr ⟨R1.ex.st h1, R1.ex.st h2, k _ _ _ _ _ R1 e1 (it_zipT h1 a1 h2 a2) q1⟩⟩⟩
theorem st_iZip {δ : Dl} {u : TDL} {Q : List D → Dl → Prop} (q : u δ fun ds δ' => ∃ xs ys, ((ds = [.list xs, .list ys]) ∨ ds = [.tuple xs, .tuple ys]) ∧ Q (pairD xs ys) δ') : iZipD u δ Q := q
end
end DL
namespace DL
open PySem PySem.Spec PyProof.Rows L2
inductive KVs (K : PySem.W.Frag) (Hs : Hp) {κ : Type} : List (κ × V) → List (κ × D) → Prop
  | nil : KVs K Hs [] []
  | cons {k : κ} {v : V} {d : D} {r : List (κ × V)} {s : List (κ × D)} : Dp K Hs v d → KVs K Hs r s → KVs K Hs ((k, v) :: r) ((k, d) :: s)
section
variable {K : PySem.W.Frag} {Hs Hs' : Hp} {κ : Type} [DecidableEq κ]
theorem KVs.mono (e : Ex Hs Hs') : ∀ {r : List (κ × V)} {s : List (κ × D)}, KVs K Hs r s → KVs K Hs' r s
  | _, _, .nil => .nil
  | _, _, .cons h t => .cons (dp_mono e h) (t.mono e)
theorem KVs.len : ∀ {r : List (κ × V)} {s : List (κ × D)}, KVs K Hs r s → r.length = s.length
  | _, _, .nil => rfl
  | _, _, .cons _ t => congrArg (· + 1) t.len
def getK (kvs : List (κ × D)) (k : κ) : Option D := (kvs.find? fun kv => decide (kv.1 = k)).map (·.2)
def putD (kvs : List (κ × D)) (k : κ) (d : D) : List (κ × D) := if (kvs.any fun kv => decide (kv.1 = k)) = true then kvs.map (fun kv => if kv.1 = k then (kv.1, d) else kv) else kvs ++ [(k, d)]
theorem KVs.get {k : κ} {d : D} : ∀ {r : List (κ × V)} {s : List (κ × D)}, KVs K Hs r s → getK s k = some d → ∃ v, valV r k = some v ∧ Dp K Hs v d
  | _, _, .nil, h => by cases h
  | _, _, .cons (k := k') (v := v) (d := d') (r := r) (s := s) q t, h => by
    by_cases e : k' = k
    · have : getK ((k', d') :: s) k = some d' := by simp [getK, List.find?_cons, e]
      rw [this] at h
      cases h
      exact ⟨v, valV_pos e, q⟩
    · have : getK ((k', d') :: s) k = getK s k := by simp [getK, List.find?_cons, e]
      rw [this] at h
      obtain ⟨v', h1, h2⟩ := t.get h
      exact ⟨v', by rw [valV_neg e]; exact h1, h2⟩
theorem KVs.any_eq {k : κ} : ∀ {r : List (κ × V)} {s : List (κ × D)}, KVs K Hs r s → (r.any fun kv => decide (kv.1 = k)) = s.any fun kv => decide (kv.1 = k)
  | _, _, .nil => rfl
  | _, _, .cons q t => by
    rw [List.any_cons, List.any_cons, t.any_eq]
theorem KVs.map_put {k : κ} {v : V} {d : D} (q : Dp K Hs v d) : ∀ {r : List (κ × V)} {s : List (κ × D)}, KVs K Hs r s → KVs K Hs (r.map fun kv => if kv.1 = k then (kv.1, v) else kv) (s.map fun kv => if kv.1 = k then (kv.1, d) else kv)
  | _, _, .nil => .nil
  | _, _, .cons (k := k') q' t => by
    rw [List.map_cons, List.map_cons]
    by_cases e : k' = k
    · simp only [e, if_true]
      exact .cons q (t.map_put q)
    · simp only [e, if_false]
      exact .cons q' (t.map_put q)
theorem KVs.app : ∀ {r r' : List (κ × V)} {s s' : List (κ × D)}, KVs K Hs r s → KVs K Hs r' s' → KVs K Hs (r ++ r') (s ++ s')
  | _, _, _, _, .nil, h => h
  | _, _, _, _, .cons q t, h => .cons q (t.app h)
theorem KVs.put {k : κ} {v : V} {d : D} {r : List (κ × V)} {s : List (κ × D)} (h : KVs K Hs r s) (q : Dp K Hs v d) : KVs K Hs (putK r k v) (putD s k d) := by
  unfold putK putD
  rw [h.any_eq]
  split
  · exact h.map_put q
  · exact h.app (.cons q .nil)
end
def apK (kvs : List (Key × D)) : AP := ⟨fun K Hs o => ∃ r, o = .dK r ∧ KVs K Hs r kvs, fun ⟨r, e, _⟩ xs z => (by rw [e] at z; cases z), fun ⟨r, e, h⟩ x => ⟨r, e, h.mono x⟩⟩
def apT (kvs : List (List Key × D)) : AP := ⟨fun K Hs o => ∃ r, o = .dT r ∧ KVs K Hs r kvs, fun ⟨r, e, _⟩ xs z => (by rw [e] at z; cases z), fun ⟨r, e, h⟩ x => ⟨r, e, h.mono x⟩⟩
abbrev OD.dk (kvs : List (Key × D)) : OD := OD.one (apK kvs)
abbrev OD.dt (kvs : List (List Key × D)) : OD := OD.one (apT kvs)
def keyOf : D → Option Key
  | .int i => some (.inl i)
  | .str x => some (.inr x)
  | _ => none
theorem key_dp {K : PySem.W.Frag} {H : Hp} {v : V} {d : D} {k : Key} (r : Dp K H v d) (h : keyOf d = some k) : v = kV k := by
  cases r <;> cases h <;> rfl
def keysOf : List D → Option (List Key)
  | [] => some []
  | d :: ds => (keyOf d).bind fun k => (keysOf ds).bind fun ks => some (k :: ks)
theorem keys_dp {K : PySem.W.Frag} {H : Hp} : ∀ {vs : List V} {ds : List D} {ks : List Key}, DpAll K H vs ds → keysOf ds = some ks → vs = ks.map kV
  | _, _, _, .nil, h => by cases h; rfl
  | _, _, _, .cons (d := d) (ds := ds) r t, h => by
    unfold keysOf at h
    cases e1 : keyOf d with
    | none => rw [e1] at h; cases h
    | some k =>
      cases e2 : keysOf ds with
      | none => rw [e1, e2] at h; cases h
      | some ks' =>
        rw [e1, e2] at h
        cases h
        rw [key_dp r e1, keys_dp t e2]
        rfl
section
variable {X : Cx} {e j : Expr} {es : List Expr} {pos pos' : Pos} {t tj : TDE} {ue uj : TE} {us : TA} {u : TDL}
def sDictK (i : Nat) : TDS := fun De δ => i < δ.length ∧ ∀ p, De.nx (δ.set i (.ow p (OD.dk [])))
def sDictT (i : Nat) : TDS := fun De δ => i < δ.length ∧ ∀ p, De.nx (δ.set i (.ow p (OD.dt [])))
theorem js_dictK {i : Nat} {x : Str} {p' dp : Pos} (hN : X.N.Nodup) (hi : X.N[i]? = some x := by rfl) (hx : Loc X.env.scope x := by first | exact .inl rfl | exact .inr rfl) (hs : swapsWith (.Dict [] [] dp) (some (.Name x p')) pos.line X.env = pure false := by rfl)
    (hf : X.fn x = true ∨ X.env.scope.names.lookup x = some .local := by first | exact .inl rfl | exact .inr rfl | assumption) : JS X (.Assign [.Name x p'] (.Dict [] [] dp) pos) (tAsg tDNewK (gName i)) (sDictK i) := ⟨ps_set hN hi hx pe_dnewK hs hf, fun R ⟨hl, q⟩ k p hp =>
  k.nx _ _ _ _ ((R.hide hp).ownA (a := apK []) (R.base.none hp) (R.frz.none (R.ex.none hp)) ⟨[], rfl, .nil⟩ hl) (Ex.refl _) (q p)⟩
theorem js_dictT {i : Nat} {x : Str} {p' dp : Pos} (hN : X.N.Nodup) (hi : X.N[i]? = some x := by rfl) (hx : Loc X.env.scope x := by first | exact .inl rfl | exact .inr rfl) (hs : swapsWith (.Dict [] [] dp) (some (.Name x p')) pos.line X.env = pure false := by rfl)
    (hf : X.fn x = true ∨ X.env.scope.names.lookup x = some .local := by first | exact .inl rfl | exact .inr rfl | assumption) : JS X (.Assign [.Name x p'] (.Dict [] [] dp) pos) (tAsg tDNewT (gName i)) (sDictT i) := ⟨ps_set hN hi hx pe_dnewT hs hf, fun R ⟨hl, q⟩ k p hp =>
  k.nx _ _ _ _ ((R.hide hp).ownA (a := apT []) (R.base.none hp) (R.frz.none (R.ex.none hp)) ⟨[], rfl, .nil⟩ hl) (Ex.refl _) (q p)⟩
def dDGet (i : Nat) (tj : TDE) : TDE := fun δ Q => (∃ p a, δ[i]? = some (.ow p (OD.one a))) ∧ tj δ fun d δ' => ∃ p kvs k z, δ'[i]? = some (.ow p (OD.dk kvs)) ∧ keyOf d = some k ∧ getK kvs k = some z ∧ Q z δ'
theorem je_dgetK {x : Str} {p1 : Pos} (hu : X.A.units + 200 < cLine) (i : Nat) (hj : JE X j uj tj) (hN : X.N[i]? = some x := by rfl) (hv : Vis X.env.scope x := by first | exact Or.inl rfl | exact Or.inr (Or.inl rfl) | exact Or.inr (Or.inr rfl)) (hd : (x == ("__debug__" : Str)) = false := by decide)
    (hcd : (x == ("__classdict__" : Str)) = false := by decide) (hs : NoSl j := by first | exact nosl _ | exact fun _ => rfl | with_unfolding_all rfl) : JE X (.Subscript (.Name x p1) j pos) (tDGet (tVar i) uj) (dDGet i tj) := by
  refine ⟨pe_dget (by omega) (pe_var hN hv hd hcd) hj.p hs, fun R ⟨⟨p, a, ex⟩, q⟩ k => ?_⟩
  obtain ⟨o, e1, hp, ha⟩ := own_atA R ex
  refine ⟨_, e1, hj.s R q fun v d δ' H' Hs' R1 x1 r ⟨p', kvs, key, z, ey, ek, hz, q1⟩ => ?_⟩
  obtain ⟨o', e2, hp', kv, eo, hkv⟩ := own_atA R1 ey
  subst eo
  rw [e1] at e2
  cases e2
  obtain ⟨w, hw, rw'⟩ := hkv.get hz
  rw [key_dp r ek]
  refine ⟨_, w, rfl, ?_, k _ _ _ _ _ R1 x1 rw' q1⟩
  rw [← hw]
  exact .k hp'
def sDPutK (i : Nat) (tj t : TDE) : TDS := fun De δ => t δ fun d δ1 => (∃ p a, δ1[i]? = some (.ow p (OD.one a))) ∧ tj δ1 fun dj δ2 => ∃ p kvs k, δ2[i]? = some (.ow p (OD.dk kvs)) ∧ keyOf dj = some k ∧ kvs.length ≤ 100000 ∧ De.nx (δ2.set i (.ow p (OD.dk (putD kvs k d))))
theorem js_dputK {x : Str} {p1 : Pos} (hu : X.A.units + 200 < cLine) (i : Nat) (hj : JE X j uj tj) (he : JE X e ue t) (hN : X.N[i]? = some x := by rfl) (hv : Vis X.env.scope x := by first | exact Or.inl rfl | exact Or.inr (Or.inl rfl) | exact Or.inr (Or.inr rfl)) (hd : (x == ("__debug__" : Str)) = false := by decide)
    (hcd : (x == ("__classdict__" : Str)) = false := by decide) (hs : swapsWith e (some (.Subscript (.Name x p1) j pos')) pos.line X.env = pure false := by rfl) : JS X (.Assign [.Subscript (.Name x p1) j pos'] e pos) (sDPut (tVar i) uj ue) (sDPutK i tj t) := by
  refine ⟨ps_dput (by omega) (pe_var hN hv hd hcd) hj.p he.p hs, fun R q k => he.s R q fun v d δ1 H1 Hs1 R1 x1 r ⟨⟨p, a, ex⟩, q1⟩ => ?_⟩
  obtain ⟨o, e1, hp, ha⟩ := own_atA R1 ex
  refine ⟨_, e1, hj.s R1 q1 fun y dj δ2 H2 Hs2 R2 x2 r2 ⟨p', kvs, key, ey, ek, hl, q2⟩ => ?_⟩
  obtain ⟨o', e2, hp', kv, eo, hkv⟩ := own_atA R2 ey
  subst eo
  rw [e1] at e2
  cases e2
  rw [key_dp r2 ek]
  refine ⟨_, _, rfl, .k hp' (by rw [hkv.len]; exact lt_line hl), ?_⟩
  exact k.nx _ _ _ _ (R2.changeA (a' := apK (putD kvs key d)) ey ⟨_, rfl, hkv.put (dp_mono x2 r)⟩) (x1.trans x2) q2
def dDGetT (i : Nat) (u : TDL) : TDE := fun δ Q => (∃ p a, δ[i]? = some (.ow p (OD.one a))) ∧ u δ fun ds δ' => ds.length ≤ 10000 ∧ ∃ p kvs ks z, δ'[i]? = some (.ow p (OD.dt kvs)) ∧ keysOf ds = some ks ∧ getK kvs ks = some z ∧ Q z δ'
theorem je_dgetT {x : Str} {p1 tp : Pos} {c : Nat} (hu : X.A.units + 200 < cLine) (i : Nat) (hj : JA X es us u) (hN : X.N[i]? = some x := by rfl) (hv : Vis X.env.scope x := by first | exact Or.inl rfl | exact Or.inr (Or.inl rfl) | exact Or.inr (Or.inr rfl)) (hd : (x == ("__debug__" : Str)) = false := by decide)
    (hcd : (x == ("__classdict__" : Str)) = false := by decide) (hs : NoSl (.Tuple es c tp) := by exact fun _ _ => rfl) : JE X (.Subscript (.Name x p1) (.Tuple es c tp) pos) (tDGet (tVar i) (tTup us)) (dDGetT i u) := by
  refine ⟨pe_dget (by omega) (pe_var hN hv hd hcd) (pe_tup hj.p) hs, fun R ⟨⟨p, a, ex⟩, q⟩ k => ?_⟩
  obtain ⟨o, e1, hp, ha⟩ := own_atA R ex
  refine ⟨_, e1, hj.s R q fun vs ds δ' H' Hs' R1 x1 r ⟨hl, p', kvs, ks, z, ey, ek, hz, q1⟩ => ⟨by rw [dpAll_len r]; exact Nat.le_of_lt (lt_line (by omega)), fun b hb => ?_⟩⟩
  have X1 := PExt.new R1.ex (.tup vs) hb
  have R2 := R1.ext X1
  obtain ⟨o', e2, hp', kv, eo, hkv⟩ := own_atA R2 ey
  subst eo
  rw [e1] at e2
  cases e2
  obtain ⟨w, hw, rw'⟩ := hkv.get hz
  refine ⟨_, w, rfl, ?_, k _ _ _ _ _ R2 (x1.trans X1.s) rw' q1⟩
  rw [← hw]
  exact .t hp' (by rw [upd_same, keys_dp r ek])
def sDPutT (i : Nat) (u : TDL) (t : TDE) : TDS := fun De δ => t δ fun d δ1 => (∃ p a, δ1[i]? = some (.ow p (OD.one a))) ∧ u δ1 fun ds δ2 => ds.length ≤ 10000 ∧ ∃ p kvs ks, δ2[i]? = some (.ow p (OD.dt kvs)) ∧ keysOf ds = some ks ∧ kvs.length ≤ 100000 ∧ De.nx (δ2.set i (.ow p (OD.dt (putD kvs ks d))))
theorem js_dputT {x : Str} {p1 tp : Pos} {c : Nat} (hu : X.A.units + 200 < cLine) (i : Nat) (hj : JA X es us u) (he : JE X e ue t) (hN : X.N[i]? = some x := by rfl) (hv : Vis X.env.scope x := by first | exact Or.inl rfl | exact Or.inr (Or.inl rfl) | exact Or.inr (Or.inr rfl)) (hd : (x == ("__debug__" : Str)) = false := by decide)
    (hcd : (x == ("__classdict__" : Str)) = false := by decide) (hs : swapsWith e (some (.Subscript (.Name x p1) (.Tuple es c tp) pos')) pos.line X.env = pure false := by rfl) : JS X (.Assign [.Subscript (.Name x p1) (.Tuple es c tp) pos'] e pos) (sDPut (tVar i) (tTup us) ue) (sDPutT i u t) := by
  refine ⟨ps_dput (by omega) (pe_var hN hv hd hcd) (pe_tup hj.p) he.p hs, fun R q k => he.s R q fun v d δ1 H1 Hs1 R1 x1 r ⟨⟨p, a, ex⟩, q1⟩ => ?_⟩
  obtain ⟨o, e1, hp, ha⟩ := own_atA R1 ex
  refine ⟨_, e1, hj.s R1 q1 fun vs ds δ2 H2 Hs2 R2 x2 r2 ⟨hl, p', kvs, ks, ey, ek, hl2, q2⟩ => ⟨by rw [dpAll_len r2]; exact Nat.le_of_lt (lt_line (by omega)), fun b hb => ?_⟩⟩
  have X1 := PExt.new R2.ex (.tup vs) hb
  have R3 := R2.ext X1
  obtain ⟨o', e2, hp', kv, eo, hkv⟩ := own_atA R3 ey
  subst eo
  rw [e1] at e2
  cases e2
  refine ⟨_, _, rfl, .t hp' (by rw [upd_same, keys_dp r2 ek]) (by rw [hkv.len]; exact lt_line hl2), ?_⟩
  exact k.nx _ _ _ _ (R3.changeA (a' := apT (putD kvs ks d)) ey ⟨_, rfl, hkv.put (dp_mono (x2.trans X1.s) r)⟩) (x1.trans (x2.trans X1.s)) q2
end
end DL
namespace DL
open PySem PySem.Spec PyProof.Rows L2
theorem PExt.adopt {Hs H : Hp} (e : Ex Hs H) {q : Addr} {vs : List V} (hq : H q = some (.tup vs)) : ∃ Hs', PExt Hs H Hs' H ∧ Hs' q = some (.tup vs) := by
  cases h : Hs q with
  | some o =>
    have := e q o h
    rw [hq] at this
    cases this
    exact ⟨Hs, PExt.refl e, h⟩
  | none =>
    refine ⟨upd Hs q (.tup vs), ⟨Ex.new h, Ex.refl _, fun a u z => ?_, fun b h1 h2 => ?_⟩, upd_same⟩
    · by_cases ha : a = q
      · subst ha
        rw [upd_same] at z
        cases z
        exact hq
      · rw [upd_ne ha] at z
        exact e a u z
    · by_cases hb : b = q
      · subst hb
        exact .inr ⟨vs, hq⟩
      · rw [upd_ne hb] at h1
        exact absurd h2 h1
def keyD : Key → D
  | .inl i => .int i
  | .inr x => .str x
theorem dp_key {K : PySem.W.Frag} {H : Hp} : ∀ k : Key, Dp K H (kV k) (keyD k)
  | .inl i => .int i
  | .inr x => .str x
theorem dp_keys {K : PySem.W.Frag} {H : Hp} : ∀ ks : List Key, DpAll K H (ks.map kV) (ks.map keyD)
  | [] => .nil
  | k :: ks => .cons (dp_key k) (dp_keys ks)
theorem KVs.key_at {K : PySem.W.Frag} {Hs : Hp} {κ : Type} : ∀ {r : List (κ × V)} {s : List (κ × D)} {j : Nat} {k : κ} {v : V}, KVs K Hs r s → r[j]? = some (k, v) → ∃ d, s[j]? = some (k, d)
  | _, _, _, _, _, .nil, h => by simp at h
  | _, _, 0, _, _, .cons q t, h => by cases h; exact ⟨_, rfl⟩
  | _, _, j + 1, _, _, .cons q t, h => t.key_at (j := j) h
def apLT (od : Obj) (r : List (List Key × V)) (kvs : List (List Key × D)) : AP := ⟨fun K Hs o => o = .frz od (.dT r) ∧ KVs K Hs r kvs, fun ⟨e, _⟩ xs z => (by rw [e] at z; cases z), fun ⟨e, h⟩ x => ⟨e, h.mono x⟩⟩
def apLK (od : Obj) (r : List (Key × V)) (kvs : List (Key × D)) : AP := ⟨fun K Hs o => o = .frz od (.dK r) ∧ KVs K Hs r kvs, fun ⟨e, _⟩ xs z => (by rw [e] at z; cases z), fun ⟨e, h⟩ x => ⟨e, h.mono x⟩⟩
def sForGoL (i : Nat) (lk : SD) (dg : TDG) (s : TDS) (N : Dl → Prop) : List D → Dl → Prop
  | [], δ => N δ
  | x :: xs, δ => dg x δ fun δ1 => s { nx := fun δ2 => δ2[i]? = some lk ∧ sForGoL i lk dg s N xs δ2, rt := fun _ _ => False, bk := fun _ => False, ct := fun δ2 => δ2[i]? = some lk ∧ sForGoL i lk dg s N xs δ2 } δ1
def sForT (i : Nat) (dg : TDG) (s : TDS) : TDS := fun De δ => ∃ p kvs, δ[i]? = some (.ow p (OD.dt kvs)) ∧ ∀ od r, sForGoL i (.ow p (OD.one (apLT od r kvs))) dg s (fun δ' => De.nx (δ'.set i (.ow p (OD.dt kvs)))) (kvs.map fun kv => PyData.tuple (kv.1.map keyD)) (δ.set i (.ow p (OD.one (apLT od r kvs))))
section
variable {X : Cx} {tg : Expr} {sts : List Stmt} {pos : Pos} {g : TG} {dg : TDG} {w : TS} {s : TDS}
theorem js_forT {x : Str} {p1 : Pos} (hc : X.calm = true) (i : Nat) (hg : JG X tg g dg) (hb : JSs X sts w s) (hN : X.N[i]? = some x := by rfl) (hv : Vis X.env.scope x := by first | exact Or.inl rfl | exact Or.inr (Or.inl rfl) | exact Or.inr (Or.inr rfl)) (hd : (x == ("__debug__" : Str)) = false := by decide)
    (hcd : (x == ("__classdict__" : Str)) = false := by decide) (hs : ∀ z, foldedSetIterable (.Name x p1) X.env z = pure z := by intro _; rfl) (hp : PassesOwn (model X.prog X.w) X.A X.env X.xe := by exact PassesOwn.never) :
    JS X (.For tg (.Name x p1) sts [] pos) (tLock (tFor (iKeys (tVar i)) g w)) (sForT i dg s) := by
  refine ⟨ps_lock (ps_for hp hc (pi_keys (pe_var hN hv hd hcd)) hg.p hb.p hs), ?_⟩
  intro B H0 σ δ H Hs D0 D' R ⟨p, kvs, ex, q⟩ k
  obtain ⟨o, e1, hp', r, eo, hkv⟩ := own_atA R ex
  subst eo
  refine ⟨p, .dT r, hp', trivial, fun od => ?_⟩
  have R1 := R.changeA (a' := apLT od r kvs) ex ⟨rfl, hkv⟩
  have q1 := q od r
  refine ⟨.ref p, e1, p, od, rfl, .inr ⟨r, upd_same, ?_⟩⟩
  refine ⟨fun j m σ' H' => m + j = kvs.length ∧ ∃ δ' Hs', Rep X.K B H0 σ' δ' H' Hs' ∧ Ex Hs Hs' ∧ δ'[i]? = some (.ow p (OD.one (apLT od r kvs))) ∧ sForGoL i (.ow p (OD.one (apLT od r kvs))) dg s (fun δ' => D0.nx (δ'.set i (.ow p (OD.dt kvs)))) ((kvs.map fun kv => PyData.tuple (kv.1.map keyD)).drop j) δ',
    ⟨kvs.length, by omega, _, Hs, R1, Ex.refl _, List.getElem?_set_self (lt_of_get ex), by rw [List.drop_zero]; exact q1⟩, ?_⟩
  rintro j m σ' H' ⟨hm, δ', Hs', R', e', hl, q'⟩
  obtain ⟨o', e2, hp2, eo, hkv2⟩ := own_atA R' hl
  subst eo
  have hlen := hkv2.len
  by_cases hj : j < kvs.length
  · rw [List.drop_eq_getElem_cons (by rw [List.length_map]; exact hj)] at q'
    refine .inr ⟨⟨hp2, by omega⟩, fun σ2 H2 => ∃ δ2 Hs2, Rep X.K B H0 σ2 δ2 H2 Hs2 ∧ Ex Hs Hs2 ∧ δ2[i]? = some (.ow p (OD.one (apLT od r kvs))) ∧ sForGoL i (.ow p (OD.one (apLT od r kvs))) dg s (fun δ' => D0.nx (δ'.set i (.ow p (OD.dt kvs)))) ((kvs.map fun kv => PyData.tuple (kv.1.map keyD)).drop (j + 1)) δ2,
      fun σ2 H2 ⟨δ2, Hs2, R2, e2, l2, q2⟩ => ⟨m - 1, by omega, by omega, δ2, Hs2, R2, e2, l2, q2⟩, fun z H2 ⟨eH, key, v, qa, hr, ez, hq⟩ => ?_⟩
    subst eH ez
    obtain ⟨Hs2, x2, hq2⟩ := PExt.adopt R'.ex hq
    obtain ⟨d, hd'⟩ := hkv2.key_at hr
    have hkey : (kvs.map fun kv => PyData.tuple (kv.1.map keyD))[j]'(by rw [List.length_map]; exact hj) = .tuple (key.map keyD) := by
      rw [List.getElem_map]
      rw [List.getElem?_eq_getElem hj] at hd'
      rw [Option.some.inj hd']
    rw [hkey] at q'
    refine hg.s (R'.ext x2) (.tup (.inl (.inl hq2)) (dp_keys key)) q' fun σ3 δ3 R3 q3 => ?_
    have e3 := e'.trans x2.s
    exact hb.s R3 q3 ⟨fun σ4 δ4 H4 Hs4 R4 e4 q4 => ⟨δ4, Hs4, R4, e3.trans e4, q4⟩, fun _ _ _ _ _ _ _ _ _ z => z.elim, fun _ _ _ _ _ _ _ _ _ _ _ _ z => z.elim, fun _ _ _ _ _ _ _ _ _ _ _ _ z => z.elim, fun _ _ _ _ _ _ z => z.elim, fun σ4 δ4 H4 Hs4 R4 e4 q4 => ⟨δ4, Hs4, R4, e3.trans e4, q4⟩⟩
  · rw [List.drop_eq_nil_of_le (by rw [List.length_map]; omega)] at q'
    exact .inl ⟨⟨hp2, by omega⟩, hp2, k.nx _ _ _ _ (R'.changeA (a' := apT kvs) hl ⟨r, rfl, hkv2⟩) e' q'⟩
end
end DL
namespace DL
open PySem PySem.Spec PyProof.Rows L2
section
variable {X : Cx} {o i : Expr} {pos : Pos} {td ty : TE}
def tDGetP (K : PySem.W.Frag) (td ty : TE) : TE := fun σ H Q => td σ H fun x H1 => ty σ H1 fun y H2 => ∃ a v, x = .ref a ∧ ((∃ kvs k, Rd H2 a (.dK kvs) ∧ y = kV k ∧ valV kvs k = some v) ∨ ∃ kvs ks b, Rd H2 a (.dT kvs) ∧ y = .ref b ∧ SqT K H2 b (ks.map kV) ∧ valV kvs ks = some v) ∧ Q v H2
theorem pe_dgetP (hu : X.A.units + 1 < cLine) (ho : PE X o td) (hi : PE X i ty) (hs : NoSl i) : PE X (.Subscript o i pos) (tDGetP X.K td ty) := by
  refine ⟨fun pins s σ H Q I h => ?_⟩
  refine subD_of PySem.F.slot_dict_getitem.lookup hs (thn (ho.run pins s σ H _ I h) fun u s1 ⟨x, H1, I1, rx, q1⟩ => thn (hi.run pins s1 σ H1 _ I1 q1) fun iv s2 ⟨y, H2, I2, ry, a, v, ex, g, q2⟩ => ?_)
  subst ex
  obtain rfl : u = Value.ref a := rx
  rcases g with ⟨kvs, k, e, ey, l⟩ | ⟨kvs, ks, b, e, ey, hb, l⟩
  · have g : DGet H2 a y (some v) := .inl ⟨kvs, k, e, ey, l.symm⟩
    exact ⟨dict_typeIs I2 g, d_getItem hu I2 g ry fun w' s3 I3 rw' => ⟨v, H2, I3, rw', q2⟩⟩
  · subst ey
    obtain rfl : iv = Value.ref b := ry
    obtain ⟨z, hd, xs, rel, dd⟩ := dt_rd I2.hok e
    obtain ⟨w', hw, rw'⟩ := RelO.some_of (v := v) (o := (atKey xs ks).map (·.2)) (by rw [← l]; exact rel.val ks)
    obtain ⟨p, hp, hp2⟩ := Option.map_eq_some_iff.mp hw
    obtain ⟨its, rv, p1, _⟩ := I2.tuple hb
    obtain ⟨o1, h1, h2, n, h3⟩ := (show s2.heap.IsTuple b its.toArray from p1)
    refine ⟨dd.typeIs, wpAny_getItem_heap (tupleKind_room_in1 hu) (a := b) ⟨o1, its.toArray, n, h1, h2, h3, by simpa using items_are rv⟩ dd hp ?_⟩
    rw [hp2]
    exact ⟨v, H2, I2.tok _, rw', q2⟩
end
def LkK (s : SD) (p : Addr) (kvs : List (Key × D)) : Prop := s = .ow p (OD.dk kvs) ∨ ∃ od r, s = .ow p (OD.one (apLK od r kvs))
def LkT (s : SD) (p : Addr) (kvs : List (List Key × D)) : Prop := s = .ow p (OD.dt kvs) ∨ ∃ od r, s = .ow p (OD.one (apLT od r kvs))
theorem lkK_at {K : PySem.W.Frag} {B H0 H Hs : Hp} {σ : L2.St} {δ : Dl} {i : Nat} {s : SD} {p : Addr} {kvs : List (Key × D)} (R : Rep K B H0 σ δ H Hs) (h : δ[i]? = some s) (l : LkK s p kvs) : ∃ r, σ[i]? = some (some (.ref p)) ∧ Rd H p (.dK r) ∧ KVs K Hs r kvs := by
  rcases l with rfl | ⟨od, r, rfl⟩
  · obtain ⟨o, e, hp, r, eo, hk⟩ := own_atA R h
    subst eo
    exact ⟨r, e, .inl hp, hk⟩
  · obtain ⟨o, e, hp, eo, hk⟩ := own_atA R h
    subst eo
    exact ⟨r, e, .inr ⟨od, hp⟩, hk⟩
theorem lkT_at {K : PySem.W.Frag} {B H0 H Hs : Hp} {σ : L2.St} {δ : Dl} {i : Nat} {s : SD} {p : Addr} {kvs : List (List Key × D)} (R : Rep K B H0 σ δ H Hs) (h : δ[i]? = some s) (l : LkT s p kvs) : ∃ r, σ[i]? = some (some (.ref p)) ∧ Rd H p (.dT r) ∧ KVs K Hs r kvs := by
  rcases l with rfl | ⟨od, r, rfl⟩
  · obtain ⟨o, e, hp, r, eo, hk⟩ := own_atA R h
    subst eo
    exact ⟨r, e, .inl hp, hk⟩
  · obtain ⟨o, e, hp, eo, hk⟩ := own_atA R h
    subst eo
    exact ⟨r, e, .inr ⟨od, hp⟩, hk⟩
def dLook (i : Nat) (tj : TDE) : TDE := fun δ Q => (∃ p a, δ[i]? = some (.ow p (OD.one a))) ∧ tj δ fun d δ' => ∃ p s z, δ'[i]? = some s ∧ ((∃ kvs k, LkK s p kvs ∧ keyOf d = some k ∧ getK kvs k = some z) ∨ ∃ kvs ks ds, LkT s p kvs ∧ d = .tuple ds ∧ keysOf ds = some ks ∧ getK kvs ks = some z) ∧ Q z δ'
section
variable {X : Cx} {j elt : Expr} {pos : Pos} {uj : TE} {tj te : TDE} {scope : Scope} {uf : BkT TE}
theorem je_look {x : Str} {p1 : Pos} (hu : X.A.units + 200 < cLine) (i : Nat) (hj : JE X j uj tj) (hN : X.N[i]? = some x := by rfl) (hv : Vis X.env.scope x := by first | exact Or.inl rfl | exact Or.inr (Or.inl rfl) | exact Or.inr (Or.inr rfl)) (hd : (x == ("__debug__" : Str)) = false := by decide)
    (hcd : (x == ("__classdict__" : Str)) = false := by decide) (hs : NoSl j := by first | exact nosl _ | exact fun _ _ => rfl) : JE X (.Subscript (.Name x p1) j pos) (tDGetP X.K (tVar i) uj) (dLook i tj) := by
  refine ⟨pe_dgetP (by omega) (pe_var hN hv hd hcd) hj.p hs, fun R ⟨⟨p, a, ex⟩, q⟩ k => ?_⟩
  obtain ⟨o, e1, hp, ha⟩ := own_atA R ex
  refine ⟨_, e1, hj.s R q fun v d δ' H' Hs' R1 x1 r ⟨p', s, z, ey, hz, q1⟩ => ?_⟩
  rcases hz with ⟨kvs, key, l, ek, hz⟩ | ⟨kvs, ks, ds, l, ed, ek, hz⟩
  · obtain ⟨rr, e2, hr, hkv⟩ := lkK_at R1 ey l
    rw [e1] at e2
    cases e2
    obtain ⟨w, hw, rw'⟩ := hkv.get hz
    exact ⟨_, w, rfl, .inl ⟨rr, key, hr, key_dp r ek, hw⟩, k _ _ _ _ _ R1 x1 rw' q1⟩
  · subst ed
    obtain ⟨rr, e2, hr, hkv⟩ := lkT_at R1 ey l
    rw [e1] at e2
    cases e2
    obtain ⟨w, hw, rw'⟩ := hkv.get hz
    cases r with
    | @tup b vs _ h1 a1 =>
      have := keys_dp a1 ek
      subst this
      exact ⟨_, w, rfl, .inr ⟨rr, ks, b, hr, rfl, R1.ex.st h1, hw⟩, k _ _ _ _ _ R1 x1 rw' q1⟩
def dLcK (i j : Nat) (te : TDE) : TDL := fun δ Q => (∃ s, δ[j]? = some s ∧ isOw s = false) ∧ ∃ p kvs, δ[i]? = some (.ow p (OD.dk kvs)) ∧ kvs.length ≤ 100000 ∧ ∃ f : Key → D,
  (∀ od r, ∀ k ∈ kvs.map (·.1), ∀ N : D → Dl → Prop, N (f k) ((δ.set i (.ow p (OD.one (apLK od r kvs)))).set j (.dt (keyD k))) → te ((δ.set i (.ow p (OD.one (apLK od r kvs)))).set j (.dt (keyD k))) N) ∧ Q (kvs.map fun kv => f kv.1) δ
theorem sim_lcK {K : PySem.W.Frag} {i j : Nat} {ue : TE} (he : SimE K ue te) : SimN K (tLockE (tLc (iKeys (tVar i)) (gName j) tYes ue [j])) (dLcK i j te) := by
  intro B H0 σ δ H Hs Q Q' R ⟨⟨s, hs, hso⟩, p, kvs, ex, hlen, f, step, q⟩ k
  obtain ⟨o, e1, hp', r, eo, hkv⟩ := own_atA R ex
  subst eo
  refine ⟨p, .dK r, hp', trivial, fun od => ?_⟩
  have R1 := R.changeA (a' := apLK od r kvs) ex ⟨rfl, hkv⟩
  have hij : i ≠ j := fun z => by
    subst z
    rw [ex] at hs
    cases hs
    cases hso
  have hok : OkSl (δ.set i (.ow p (OD.one (apLK od r kvs)))) [j] := fun v hv => by
    rcases List.mem_cons.mp hv with rfl | hv
    · exact ⟨s, by rw [List.getElem?_set_ne hij]; exact hs, hso⟩
    · simp at hv
  have hl : (δ.set i (.ow p (OD.one (apLK od r kvs))))[i]? = some (.ow p (OD.one (apLK od r kvs))) := List.getElem?_set_self (lt_of_get ex)
  refine ⟨.ref p, e1, p, od, rfl, .inl ⟨r, upd_same, fun D hD => ?_⟩⟩
  have hB : B D = none := R1.base.none hD
  have hH0 : H0 D = none := R1.frz.none (R1.ex.none hD)
  refine ⟨fun n m H' => m + n = kvs.length ∧ ∃ Hs' vacc, Rep K (upd B D (.lst vacc)) H0 σ (δ.set i (.ow p (OD.one (apLK od r kvs)))) H' Hs' ∧ Ex Hs Hs' ∧ DpAll K Hs' vacc ((kvs.take n).map fun kv => f kv.1), ⟨kvs.length, by omega, Hs, [], R1.hide hD, Ex.refl _, .nil⟩, ?_⟩
  rintro n m H' ⟨hm, Hs', vacc, R', e', ha⟩
  obtain ⟨o', e2, hp2, eo, hkv2⟩ := own_atA R' hl
  subst eo
  have hlr := hkv2.len
  by_cases hn : n < kvs.length
  · refine .inr ⟨⟨hp2, by omega⟩, fun H2 => ∃ Hs2 vacc, Rep K (upd B D (.lst vacc)) H0 σ (δ.set i (.ow p (OD.one (apLK od r kvs)))) H2 Hs2 ∧ Ex Hs Hs2 ∧ DpAll K Hs2 vacc ((kvs.take (n + 1)).map fun kv => f kv.1), fun H2 ⟨Hs2, vacc2, R2, e2, a2⟩ => ⟨m - 1, by omega, by omega, Hs2, vacc2, R2, e2, a2⟩, fun z H2 ⟨eH, key, v, hr, ez⟩ => ?_⟩
    subst eH ez
    obtain ⟨d, hd'⟩ := hkv2.key_at hr
    have R3 := (R'.wipe [j]).set (dp_key key) j
    have hw : L2.wipe ((L2.wipe σ [j]).set j (some (kV key))) [j] = L2.wipe σ [j] := wipe_own (by simp)
    refine ⟨hw, ?_⟩
    show ue _ _ _
    have ed : (wipeD (δ.set i (.ow p (OD.one (apLK od r kvs)))) [j]).set j (.dt (keyD key)) = (δ.set i (.ow p (OD.one (apLK od r kvs)))).set j (.dt (keyD key)) := by
      show (((δ.set i _).set j .un).set j _) = _
      rw [List.set_set]
    rw [ed] at R3
    refine he R3 (step od r key (List.mem_map.mpr ⟨(key, d), List.mem_of_getElem? hd', rfl⟩) (fun d' δ' => d' = f key ∧ δ' = (δ.set i (.ow p (OD.one (apLK od r kvs)))).set j (.dt (keyD key))) ⟨rfl, rfl⟩) fun w d' δ5 H5 Hs5 R5 e5 r5 ⟨h1, h2⟩ => ?_
    subst h1 h2
    have R6 := R'.mix R5 e5 [j] hok
    rw [mixS_eq hw] at R6
    have em : mixD ((δ.set i (.ow p (OD.one (apLK od r kvs)))).set j (.dt (keyD key))) (δ.set i (.ow p (OD.one (apLK od r kvs)))) [j] = δ.set i (.ow p (OD.one (apLK od r kvs))) := by
      show ((δ.set i _).set j _).set j (((δ.set i _)[j]?).getD .un) = _
      obtain ⟨s', hs', _⟩ := hok j List.mem_cons_self
      rw [List.set_set, hs']
      exact set_self hs'
    rw [em] at R6
    refine ⟨vacc, R5.at_p, ?_, Hs5, vacc ++ [w], R6.hset hH0, e'.trans e5, ?_⟩
    · rw [dpAll_len ha, List.length_map, List.length_take]
      exact lt_line (by omega)
    · rw [List.take_add_one, hd', List.map_append]
      exact dpAll_app (dpAll_mono e5 ha) (.cons r5 .nil)
  · rw [List.take_of_length_le (by omega)] at ha
    have R7 := R'.changeA (a' := apK kvs) hl ⟨r, rfl, hkv2⟩
    rw [List.set_set, set_self ex] at R7
    exact .inl ⟨⟨hp2, by omega⟩, hp2, k _ _ _ _ _ _ R7 hB hH0 e' ha q⟩
end
end DL
namespace DL
open PySem PySem.Spec PyProof.Rows L2
def permL {α : Type} (ix : List Nat) (l : List α) : List α := ix.filterMap fun j => l[j]?
def gK {α : Type} (n : Nat) (ix : List Nat) (us ws : List α) : List α := if us.length = 0 ∧ ws.length = n then permL ix ws else []
theorem permL_rel {α β : Type} {R : α → β → Prop} : ∀ (ix : List Nat) {l : List α} {m : List β}, l.length = m.length → (∀ (j : Nat) (a : α) (b : β), l[j]? = some a → m[j]? = some b → R a b) → (permL ix l).length = (permL ix m).length ∧ ∀ (k : Nat) (a : α) (b : β), (permL ix l)[k]? = some a → (permL ix m)[k]? = some b → R a b
  | [], l, m, hl, h => ⟨rfl, fun k a b h1 => by simp [permL] at h1⟩
  | j :: ix, l, m, hl, h => by
    obtain ⟨h1, h2⟩ := permL_rel ix hl h
    unfold permL at h1 h2 ⊢
    by_cases hj : j < l.length
    · rw [List.filterMap_cons, List.getElem?_eq_getElem hj, List.filterMap_cons, List.getElem?_eq_getElem (show j < m.length by omega)]
      refine ⟨by simp only [List.length_cons]; omega, fun k a b ha hb => ?_⟩
      cases k with
      | zero =>
        cases ha
        cases hb
        exact h j _ _ (List.getElem?_eq_getElem hj) (List.getElem?_eq_getElem (by omega))
      | succ k => exact h2 k a b ha hb
    · rw [List.filterMap_cons, List.getElem?_eq_none (by omega), List.filterMap_cons, List.getElem?_eq_none (by omega)]
      exact ⟨h1, h2⟩
theorem vals_of_get : ∀ {vs : List V} {us : List Value}, vs.length = us.length → (∀ (k : Nat) (a : V) (b : Value), vs[k]? = some a → us[k]? = some b → RelV a b) → Vals vs us
  | [], [], _, _ => .nil
  | [], _ :: _, h, _ => by simp at h
  | _ :: _, [], h, _ => by simp at h
  | v :: vs, u :: us, h, q => .cons (q 0 v u rfl rfl) (vals_of_get (by simpa using h) fun k a b h1 h2 => q (k + 1) a b h1 h2)
theorem ents_of_get {K : PySem.W.Frag} {Hs : Hp} {σ : L2.St} : ∀ {vs : List V} {es : List Ent}, vs.length = es.length → (∀ (k : Nat) (a : V) (b : Ent), vs[k]? = some a → es[k]? = some b → EntOk K Hs σ a b) → Ents K Hs σ vs es
  | [], [], _, _ => .nil
  | [], _ :: _, h, _ => by simp at h
  | _ :: _, [], h, _ => by simp at h
  | v :: vs, u :: us, h, q => .cons (q 0 v u rfl rfl) (ents_of_get (by simpa using h) fun k a b h1 h2 => q (k + 1) a b h1 h2)
theorem Ents.perm {K : PySem.W.Frag} {Hs : Hp} {σ : L2.St} {vs : List V} {es : List Ent} (ix : List Nat) (h : Ents K Hs σ vs es) : Ents K Hs σ (permL ix vs) (permL ix es) := by
  obtain ⟨h1, h2⟩ := permL_rel (R := fun a b => EntOk K Hs σ a b) ix h.len fun j a b ha hb => by
    obtain ⟨v, hv, r⟩ := h.get hb
    rw [ha] at hv
    cases hv
    exact r
  exact ents_of_get h1 h2
theorem vals_perm {vs : List V} {us : List Value} (ix : List Nat) (h : Vals vs us) : Vals (permL ix vs) (permL ix us) := by
  obtain ⟨h1, h2⟩ := permL_rel (R := RelV) ix h.length fun j a b ha hb => by
    obtain ⟨x, hx, r⟩ := vals_get h hb
    rw [ha] at hx
    cases hx
    exact r
  exact vals_of_get h1 h2
theorem Fun_kb {K : PySem.W.Frag} {x qual : Str} {st : Stmt} {f : Addr} {fd : FuncData} {ps ks : List Str} {ix : List Nat} (F : Fun K x qual st f fd) (h0 : ps.length ≠ 0)
    (h : ∀ (kV doc pm : Value) (an : Option Addr) (cdv ct : Value) (ws : List Value), ws.length = ks.length → bindArgs (PySem.W.fnOf x qual (defArgs st) (defBody st) (defScope st) .none kV doc pm an cdv ct) ⟨[], ks.zip ws⟩ = pure (ps.zip (permL ix ws))) : KBinds K fd ps ks (gK ks.length ix) (gK ks.length ix) where
  to := fun s us ws _ hl => by
    obtain ⟨oc, od, kV, doc, pm, an, cdv, ct, osl, rfl, lk, hcd⟩ := F.ex
    unfold gK at hl ⊢
    by_cases hc : us.length = 0 ∧ ws.length = ks.length
    · rw [if_pos hc] at hl ⊢
      obtain rfl : us = [] := List.length_eq_zero_iff.mp hc.1
      exact .of_eq (h _ _ _ _ _ _ _ hc.2)
    · rw [if_neg hc] at hl
      exact absurd hl.symm h0
  rel := fun {vs us zs ws} r rz => by
    unfold gK
    rw [r.length, rz.length]
    split
    · exact vals_perm ix rz
    · exact .nil
theorem pe_callK0 {X : Cx} {CX : CXT} {k : Nat} {f : Addr} {fd : FuncData} {ps ks : List Str} {sp : Sp} {E : XK} {x : Str} {p pos : Pos} {kws : List Keyword} {tk : TA} {g : List Value → List Value → List Value} {gV : List V → List V → List V}
    (F : FnOk X.prog X.w X.K X.mg X.base CX k f fd ps sp) (hr : Room k X.A) (hg : Gl X x) (hm : X.mg x = some (.ref f)) (hk : PySem.W.keepIn X.K (.ref f) = true) (hb : KBinds X.K fd ps ks g gV) (hx : Passes CX X E) (hkw : PK X kws tk)
    (hall : (backToKw pos (keywordEach kws X.env)).all (·.1.isSome) = true := by rfl) (hks : (backToKw pos (keywordEach kws X.env)).filterMap (·.1) = ks := by rfl) (hdb : (x == ("__debug__" : Str)) = false := by decide)
    (hpl : ((backTo pos (starEach [] X.env)).any (·.1) || (backToKw pos (keywordEach kws X.env)).any (·.1.isNone)) = false := by rfl) : PE X (.Call (.Name x p) [] kws pos) (tCallK sp gV E tNil tk) := by
  refine ⟨fun pins s σ H Q I h => ?_⟩
  refine wpAny_Call_Name_kw (ld_glob I hg hm ?_ hdb)
  refine PySem.W.callWith_KW0 (h₀ := X.base) I.ok.mod.kin hk hall (thn (hkw.run pos pins s σ H _ I h) fun ws s2 ⟨zs, H2, I2, rz, q2⟩ => ⟨I2.kIn, ?_⟩) hpl
  rw [hks]
  exact run_fnk F hr hb hx I2 .nil rz q2
structure JK (X : Cx) (kws : List Keyword) (u : TA) (t : TDC) : Prop where
  p : PK X kws u
  s : SimCl X.K u t
section
variable {X : Cx} {e elt : Expr} {pos kpos : Pos} {kws : List Keyword} {t te : TDE} {ue : TE} {us ur : TA} {tc : TDC} {nm : Option Str} {scope : Scope} {uf : BkT TE}
theorem jk_nil : JK X [] tNil cNil := ⟨pk_nil, fun R h k => k _ _ _ _ _ R (Ex.refl _) .nil h⟩
theorem jk_cons (ha : JE X e ue t) (hr : JK X kws ur tc) : JK X (⟨nm, e, kpos⟩ :: kws) (tCons ue ur) (cCons t tc) :=
  ⟨pk_cons ha.p hr.p, fun R h k => ha.s R h fun v d δ1 H1 Hs1 R1 e1 r1 h1 => hr.s R1 h1 fun vs es δ2 H2 Hs2 R2 e2 r2 h2 => k _ _ _ _ _ R2 (e1.trans e2) (Ents.cons (e := .inr d) (dp_mono e2 r1) r2) h2⟩
theorem jk_own (i : Nat) {x : Str} {p : Pos} (hr : JK X kws ur tc) (hN : X.N[i]? = some x := by rfl) (hv : Vis X.env.scope x := by first | exact Or.inl rfl | exact Or.inr (Or.inl rfl) | exact Or.inr (Or.inr rfl)) (hd : (x == ("__debug__" : Str)) = false := by decide)
    (hcd : (x == ("__classdict__" : Str)) = false := by decide) : JK X (⟨nm, .Name x p, kpos⟩ :: kws) (tCons (tVar i) ur) (cLendT i tc) :=
  ⟨pk_cons (pe_var hN hv hd hcd) hr.p, fun {B H0 σ δ H Hs Q Q'} R ⟨⟨q, o, ho⟩, h⟩ k => by
    obtain ⟨fps, F⟩ := R.sl
    obtain ⟨y, ey, r⟩ := F.sl i _ ho
    cases y with
    | none => exact r.elim
    | some v => exact ⟨v, ey, hr.s R h fun vs es δ2 H2 Hs2 R2 e2 r2 h2 => k _ _ _ _ _ R2 e2 (Ents.cons (e := .inl i) ey r2) h2⟩⟩
def cPerm (n : Nat) (ix : List Nat) (u : TDC) : TDC := fun δ Q => u δ fun es δ' => es.length = n ∧ Q (permL ix es) δ'
def tPerm (n : Nat) (ix : List Nat) (u : TA) : TA := fun σ H Q => u σ H fun vs H' => Q (gK n ix [] vs) H'
theorem je_callKw {x : Str} {p : Pos} {f : Addr} {fd : FuncData} {ps ks : List Str} {n : Nat} {ix : List Nat} {dsp : DSp} {K' : PySem.W.Frag} (F : FnOk X.prog X.w X.K X.mg X.base CX0 n f fd ps (spOf K' dsp)) (hr : Room n X.A) (hm : X.mg x = some (.ref f)) (hk : PySem.W.keepIn X.K (.ref f) = true) (hb : KBinds X.K fd ps ks (gK ks.length ix) (gK ks.length ix)) (ha : JK X kws us tc)
    (hK : X.K = K' := by rfl) (hg : Gl X x := by rfl) (hdb : (x == ("__debug__" : Str)) = false := by decide)
    (hall : (backToKw pos (keywordEach kws X.env)).all (·.1.isSome) = true := by rfl) (hks : (backToKw pos (keywordEach kws X.env)).filterMap (·.1) = ks := by rfl)
    (hpl : ((backTo pos (starEach [] X.env)).any (·.1) || (backToKw pos (keywordEach kws X.env)).any (·.1.isNone)) = false := by rfl) :
    JE X (.Call (.Name x p) [] kws pos) (tCallK (spOf K' dsp) (gK ks.length ix) E0 tNil us) (dCallF dsp (cPerm ks.length ix tc)) := by
  subst hK
  refine ⟨pe_callK0 F hr hg hm hk hb pass0 ha.p hall hks hdb hpl, ?_⟩
  have e : tCallK (spOf X.K dsp) (gK ks.length ix) E0 tNil us = tCall (spOf X.K dsp) [] E0 (tPerm ks.length ix us) := by
    funext σ H Q
    show us σ H (fun zs H2 => spOf X.K dsp (gK ks.length ix [] zs) H2 Q E0) = us σ H (fun zs H2 => spOf X.K dsp (gK ks.length ix [] zs ++ []) H2 Q E0)
    simp only [List.append_nil]
  rw [e]
  have hs : SimCl X.K (tPerm ks.length ix us) (cPerm ks.length ix tc) := fun R h k => ha.s R h fun vs es δ' H' Hs' R' x r ⟨hl, q⟩ => by
    have eg : gK ks.length ix [] vs = permL ix vs := by
      unfold gK
      rw [if_pos ⟨rfl, by rw [r.len]; exact hl⟩]
    show _
    rw [eg]
    exact k _ _ _ _ _ R' x (r.perm ix) q
  intro B H0 σ δ H Hs Q Q' R h k
  exact sim_callF hs R h k
theorem jn_lcK {x y : Str} {p1 p2 : Pos} (hc : X.calm = true) (hN : X.N.Nodup) (i j : Nat) (ok : BlkOk X.N X.env.scope scope [(y, j)])
    (hg : ∀ (s : Shared) (H : Hp) (C : Addr) (cl : List (Str × Addr)) (fp : List Addr), PG (Bk X s H scope C cl fp) (.Name y p2) (gName j))
    (he : ∀ (s : Shared) (H : Hp) (C : Addr) (cl : List (Str × Addr)) (fp : List Addr), JE (Bk X s H scope C cl fp) elt (uf s H C cl fp) te)
    (hu : ∀ (s : Shared) (H : Hp) (C : Addr) (cl : List (Str × Addr)) (fp : List Addr), uf s H C cl fp = uf X.s_0 X.H_0 0 [] [] := by intros; rfl)
    (hi : X.N[i]? = some x := by rfl) (hv : Vis X.env.scope x := by first | exact Or.inl rfl | exact Or.inr (Or.inl rfl) | exact Or.inr (Or.inr rfl)) (hd : (x == ("__debug__" : Str)) = false := by decide)
    (hcd : (x == ("__classdict__" : Str)) = false := by decide) (hs : ∀ z, foldedSetIterable (.Name x p1) X.env z = pure z := by intro _; rfl) :
    JN X (.ListComp elt [⟨.Name y p2, .Name x p1, [], 0⟩] scope pos) (tLockE (tLc (iKeys (tVar i)) (gName j) tYes (uf X.s_0 X.H_0 0 [] []) [j])) (dLcK i j te) :=
  ⟨pe_lock (pe_lc (own := [(y, j)]) hc hN (pi_keys (pe_var hi hv hd hcd)) ok hg (fun _ _ _ _ _ => pts_nil) (fun s H C cl fp => hu s H C cl fp ▸ (he s H C cl fp).p) hs), sim_lcK (he X.s_0 X.H_0 0 [] []).s⟩
end
def sOwnC (dsp : DSp) (i : Nat) (tc : TDC) : TDS := fun De δ => tc δ fun es δ' => (bors es).Nodup ∧ (∀ i ∈ bors es, i < δ'.length) ∧ i < δ'.length ∧ ∀ Q2 : RS → List SD → Prop, (∀ a as', as'.length = es.length → (∀ p, De.nx ((back es as' δ').set i (.ow p (OD.one a)))) → Q2 (.obj a) as') → dsp (es.map (resD δ')) Q2
section
variable {X : Cx} {e : Expr} {es : List Expr} {pos spos : Pos} {us : TA} {tc : TDC}
theorem js_ownC {i : Nat} {y : Str} {p' : Pos} {x : Str} {p : Pos} {f : Addr} {fd : FuncData} {ps : List Str} {n : Nat} {dsp : DSp} {K' : PySem.W.Frag} (F : FnOk X.prog X.w X.K X.mg X.base CX0 n f fd ps (spOf K' dsp)) (hr : Room n X.A) (hm : X.mg x = some (.ref f)) (hk : PySem.W.keepIn X.K (.ref f) = true) (hb : Binds X.K fd ps []) (ha : JC X (e :: es) us tc)
    (hN : X.N.Nodup) (hK : X.K = K' := by rfl) (hg : Gl X x := by rfl) (hdb : (x == ("__debug__" : Str)) = false := by decide)
    (he : starEach (e :: es) X.env = (false, eval e X.env) :: starEach es X.env := by rfl) (hpl : (backTo pos (starEach es X.env)).any (·.1) = false := by rfl)
    (hi : X.N[i]? = some y := by rfl) (hy : Loc X.env.scope y := by first | exact .inl rfl | exact .inr rfl) (hs : swapsWith (.Call (.Name x p) (e :: es) [] pos) (some (.Name y p')) spos.line X.env = pure false := by rfl)
    (hf : X.fn y = true ∨ X.env.scope.names.lookup y = some .local := by first | exact .inl rfl | exact .inr rfl | assumption) :
    JS X (.Assign [.Name y p'] (.Call (.Name x p) (e :: es) [] pos) spos) (tAsg (tCall (spOf K' dsp) [] E0 us) (gName i)) (sOwnC dsp i tc) := by
  subst hK
  refine ⟨ps_set hN hi hy (pe_call F hr hg hm hk hb .nil pass0 ha.p hdb he hpl) hs hf, fun {B H0 σ δ H Hs D0 D'} R q k => ?_⟩
  refine ha.s R q fun vs es δ1 H1 Hs1 R1 e1 r1 ⟨nd, hlt, hil, hd⟩ => ?_
  show spOf X.K dsp (vs ++ []) H1 _ E0
  rw [List.append_nil]
  refine call_core (Qr := fun r δ' => i < δ'.length ∧ ∃ a, r = .obj a ∧ ∀ p, D0.nx (δ'.set i (.ow p (OD.one a)))) R1 r1 nd hlt (fun Q2 h2 => hd Q2 fun a as' hl q => h2 _ _ hl ⟨by rw [back_len]; exact hil, a, rfl, q⟩) fun v r δ' H' Hs' R' x _ _ ro ⟨hl, a, ed, q⟩ => ?_
  obtain ⟨p, o, ev, R2, hB, h0, ha⟩ := ro a ed
  subst ev
  exact k.nx _ _ _ _ (R2.ownA hB h0 ha hl) (e1.trans x) (q p)
end
end DL
namespace DL
open PySem PySem.Spec PyProof.Rows L2
section
variable {X : Cx} {c : Expr} {es : List Expr} {vt : TT} {tt : TDB} {ur : TA} {tc : TDC}
def cAny (i : Nat) (u : TDC) : TDC := fun δ Q => (∃ p o, δ[i]? = some (.ow p o) ∧ u δ fun es δ2 => Q (.inl i :: es) δ2) ∨ ∃ d, δ[i]? = some (.dt d) ∧ u δ fun es δ2 => Q (.inr d :: es) δ2
theorem jc_any (i : Nat) {x : Str} {p : Pos} (hr : JC X es ur tc) (hN : X.N[i]? = some x := by rfl) (hv : Vis X.env.scope x := by first | exact Or.inl rfl | exact Or.inr (Or.inl rfl) | exact Or.inr (Or.inr rfl)) (hd : (x == ("__debug__" : Str)) = false := by decide)
    (hcd : (x == ("__classdict__" : Str)) = false := by decide) (hs : starEach (.Name x p :: es) X.env = (false, eval (.Name x p) X.env) :: starEach es X.env := by rfl) : JC X (.Name x p :: es) (tCons (tVar i) ur) (cAny i tc) :=
  ⟨pa_cons (pe_var hN hv hd hcd) hr.p hs, fun {B H0 σ δ H Hs Q Q'} R h k => by
    rcases h with ⟨q, o, ho, h⟩ | ⟨d, hd, h⟩
    · obtain ⟨fps, F⟩ := R.sl
      obtain ⟨y, ey, r⟩ := F.sl i _ ho
      cases y with
      | none => exact r.elim
      | some v => exact ⟨v, ey, hr.s R h fun vs es δ2 H2 Hs2 R2 e2 r2 h2 => k _ _ _ _ _ R2 e2 (Ents.cons (e := .inl i) ey r2) h2⟩
    · obtain ⟨v, ev, r⟩ := R.get hd
      exact ⟨v, ev, hr.s R h fun vs es δ2 H2 Hs2 R2 e2 r2 h2 => k _ _ _ _ _ R2 e2 (Ents.cons (e := .inr d) (dp_mono e2 r) r2) h2⟩⟩
def cIfOwn (tt : TDB) (i : Nat) (u : TDC) : TDC := fun δ Q => tt δ fun b δ1 => if b = true then ∃ p o, δ1[i]? = some (.ow p o) ∧ u δ1 fun es δ2 => Q (.inl i :: es) δ2 else u δ1 fun es δ2 => Q (.inr (.list []) :: es) δ2
theorem jc_ifOwn (i : Nat) {x : Str} {p p2 p3 : Pos} (hc : JT X c vt tt) (hr : JC X es ur tc) (hN : X.N[i]? = some x := by rfl) (hv : Vis X.env.scope x := by first | exact Or.inl rfl | exact Or.inr (Or.inl rfl) | exact Or.inr (Or.inr rfl)) (hd : (x == ("__debug__" : Str)) = false := by decide)
    (hcd : (x == ("__classdict__" : Str)) = false := by decide) (hs : starEach (.IfExp c (.Name x p) (.List [] p2) p3 :: es) X.env = (false, eval (.IfExp c (.Name x p) (.List [] p2) p3) X.env) :: starEach es X.env := by rfl) :
    JC X (.IfExp c (.Name x p) (.List [] p2) p3 :: es) (tCons (tIf vt (tVar i) (tLst tNil)) ur) (cIfOwn tt i tc) :=
  ⟨pa_cons (pe_ifExp hc.p (pe_var hN hv hd hcd) (je_new (jn_lst ja_nil)).p) hr.p hs, fun {B H0 σ δ H Hs Q Q'} R h k => by
    refine hc.s R h fun b δ1 H1 Hs1 R1 e1 q1 => ?_
    cases b with
    | true =>
      rw [if_pos rfl] at q1 ⊢
      obtain ⟨q, o, ho, h⟩ := q1
      obtain ⟨fps, F⟩ := R1.sl
      obtain ⟨y, ey, r⟩ := F.sl i _ ho
      cases y with
      | none => exact r.elim
      | some v => exact ⟨v, ey, hr.s R1 h fun vs es δ2 H2 Hs2 R2 e2 r2 h2 => k _ _ _ _ _ R2 (e1.trans e2) (Ents.cons (e := .inl i) ey r2) h2⟩
    | false =>
      rw [if_neg Bool.false_ne_true] at q1 ⊢
      refine ⟨Nat.zero_le _, fun a ha => ?_⟩
      have X1 := PExt.new R1.ex (.lst []) ha
      have R2 := R1.ext X1
      exact hr.s R2 q1 fun vs es δ2 H2 Hs2 R3 e2 r2 h2 => k _ _ _ _ _ R3 ((e1.trans X1.s).trans e2) (Ents.cons (e := .inr (.list [])) (dp_mono e2 (.lst (.inl (.inl upd_same)) .nil)) r2) h2⟩
end
def Cst (K : PySem.W.Frag) (mg : Str → Option Value) (x : Str) (d : D) : Prop := ∃ v : V, ∃ u : Value, mg x = some u ∧ RelV v u ∧ ∀ H, Dp K H v d
theorem je_cst {X : Cx} {x : Str} {p : Pos} {d : D} (h : Cst X.K X.mg x d) (hg : Gl X x := by rfl) (hd : (x == ("__debug__" : Str)) = false := by decide) : JE X (.Name x p) (tC h.choose) (dC d) := by
  obtain ⟨u, hm, r, q⟩ := h.choose_spec
  exact ⟨pe_glob hg hm r hd, fun R z k => k _ _ _ _ _ R (Ex.refl _) (q _) z⟩
theorem cst_texts {K : PySem.W.Frag} {mg : Str → Option Value} {x : Str} {a : Addr} {o : Obj} {its : Array Value} {n : Nat} (ts : List Str) (hm : mg x = some (.ref a)) (hl : K.lookup a = some o) (hc : o.cls = .type "tuple") (hd : o.data = .seq its n) (hz : its.size ≤ sizeLine) (hv : Vals (ts.map V.str) its.toList) : Cst K mg x (.tuple (ts.map .str)) :=
  ⟨.ref a, .ref a, hm, rfl, fun H => .tup (.inr ⟨o, its, n, hl, hc, hd, hz, hv⟩) (by
    have : ∀ l : List Str, DpAll K H (l.map V.str) (l.map PyData.str) := by
      intro l
      induction l with
      | nil => exact .nil
      | cons x l ih => exact .cons (.str x) ih
    exact this ts)⟩
def dTruA (i : Nat) : TDB := fun δ Q => ∃ xs, ((∃ p, δ[i]? = some (.ow p (.lst xs))) ∨ δ[i]? = some (.dt (.list xs))) ∧ Q (!xs.isEmpty) δ
theorem jt_truA {X : Cx} {x : Str} {p1 : Pos} (i : Nat) (hN : X.N[i]? = some x := by rfl) (hv : Vis X.env.scope x := by first | exact Or.inl rfl | exact Or.inr (Or.inl rfl) | exact Or.inr (Or.inr rfl)) (hd : (x == ("__debug__" : Str)) = false := by decide)
    (hcd : (x == ("__classdict__" : Str)) = false := by decide) (he : ∀ whole, isTrue (.Name x p1) X.env whole = (do let v ← whole; standAt p1; holding [v] (truthy v)) := by intro _; rfl) : JT X (.Name x p1) (fun σ H Q => tVar i σ H fun x H' => ∃ k, TruV X.K x H' k ∧ Q k H') (dTruA i) := by
  refine ⟨pt_truth (pe_var hN hv hd hcd) he, fun R ⟨xs, ex, q⟩ k => ?_⟩
  have fin : ∀ {vs : List V}, vs.length = xs.length → (!vs.isEmpty) = !xs.isEmpty := fun {vs} h => by
    cases vs <;> cases xs <;> simp at h <;> rfl
  rcases ex with ⟨p, ex⟩ | ex
  · obtain ⟨vs, e1, hp, hx⟩ := own_at R ex
    refine ⟨_, e1, _, .inl ⟨vs, .inl (.inl hp), rfl⟩, ?_⟩
    rw [fin (dpAll_len hx)]
    exact k _ _ _ _ R (Ex.refl _) q
  · obtain ⟨v, ev, r⟩ := R.get ex
    cases r with
    | @lst a vs _ h1 a1 =>
      refine ⟨_, ev, _, .inl ⟨vs, R.ex.sl h1, rfl⟩, ?_⟩
      rw [fin (dpAll_len a1)]
      exact k _ _ _ _ R (Ex.refl _) q
end DL
namespace DL
open PySem PySem.Spec PyProof.Rows L2
abbrev TDP := Dl → (List (Key × D) → Dl → Prop) → Prop
def SimP (K : PySem.W.Frag) (trs : List (TE × TE)) (t : TDP) : Prop := ∀ {B H0 : Hp} {σ : L2.St} {δ : Dl} {H Hs : Hp} {Q : List (Key × D) → Dl → Prop} {Q' : List (V × V) → Hp → Prop}, Rep K B H0 σ δ H Hs → t δ Q →
  (∀ (r : List (Key × V)) kvs δ' H' Hs', Rep K B H0 σ δ' H' Hs' → Ex Hs Hs' → KVs K Hs' r kvs → Q kvs δ' → Q' (r.map fun kv => (kV kv.1, kv.2)) H') → tPairs trs σ H Q'
structure JP (X : Cx) (pos : Pos) (keys : List (Option Expr)) (values : List Expr) (trs : List (TE × TE)) (t : TDP) : Prop where
  p : PPs X pos keys values trs
  s : SimP X.K trs t
def dpNil : TDP := fun δ Q => Q [] δ
def dpCons (x : Str) (t : TDE) (u : TDP) : TDP := fun δ Q => t δ fun d δ1 => u δ1 fun kvs δ2 => Q ((.inr x, d) :: kvs) δ2
def mergeD (kvs more : List (Key × D)) : List (Key × D) := more.foldl (fun acc kv => putD acc kv.1 kv.2) kvs
theorem KVs.merge {K : PySem.W.Frag} {Hs : Hp} : ∀ {m : List (Key × V)} {n : List (Key × D)} {r : List (Key × V)} {s : List (Key × D)}, KVs K Hs m n → KVs K Hs r s → KVs K Hs (mergeK r m) (mergeD s n)
  | _, _, _, _, .nil, h => h
  | _, _, _, _, .cons (k := kk) q t, h => by
    have z := KVs.merge t (h.put (k := kk) q)
    exact z
section
variable {X : Cx} {pos : Pos} {keys : List (Option Expr)} {values : List Expr} {trs : List (TE × TE)} {u : TDP} {v : Expr} {tv : TE} {t : TDE}
theorem jp_nil : JP X pos [] [] [] dpNil := ⟨pps_nil, fun R h k => k [] [] _ _ _ R (Ex.refl _) .nil h⟩
theorem jp_cons {x : Str} {k : Nat} {kp : Pos} (hv : JE X v tv t) (hr : JP X pos keys values trs u) : JP X pos (some (.Constant (.str x) k kp) :: keys) (v :: values) ((tC (.str x), tv) :: trs) (dpCons x t u) :=
  ⟨pps_cons pe_str hv.p hr.p, fun R h k => hv.s R h fun w d δ1 H1 Hs1 R1 e1 r1 q1 => hr.s R1 q1 fun r kvs δ2 H2 Hs2 R2 e2 r2 q2 => k ((.inr x, w) :: r) _ _ _ _ R2 (e1.trans e2) (.cons (dp_mono e2 r1) r2) q2⟩
def sDispK (i : Nat) (u : TDP) : TDS := fun De δ => u δ fun kvs δ' => kvs.length ≤ 15 ∧ i < δ'.length ∧ ∀ p, De.nx (δ'.set i (.ow p (OD.dk (mergeD [] kvs))))
theorem js_dispK {i : Nat} {x : Str} {p' dp : Pos} (hN : X.N.Nodup) (h : JP X dp keys values trs u) (hi : X.N[i]? = some x := by rfl) (hx : Loc X.env.scope x := by first | exact .inl rfl | exact .inr rfl) (hs : swapsWith (.Dict keys values dp) (some (.Name x p')) pos.line X.env = pure false := by rfl)
    (hf : X.fn x = true ∨ X.env.scope.names.lookup x = some .local := by first | exact .inl rfl | exact .inr rfl | assumption) (hall : keys.all (·.isSome) = true := by rfl) (hl : keys.length = values.length := by rfl) (h0 : keys ≠ [] := by exact fun z => nomatch z) (h15 : keys.length ≤ 15 := by decide) :
    JS X (.Assign [.Name x p'] (.Dict keys values dp) pos) (tAsg (tDisp trs) (gName i)) (sDispK i u) := ⟨ps_set hN hi hx (pe_disp h.p hall hl h0 h15) hs hf, fun {B H0 σ δ H Hs D0 D'} R q k p hp => by
  have hB : B p = none := R.base.none hp
  have hH0 : H0 p = none := R.frz.none (R.ex.none hp)
  refine h.s (R.hide (o := .dK []) hp) q fun r kvs δ2 H2 Hs2 R2 e2 r2 ⟨h1, h2, q2⟩ => ⟨R2.at_p, r, rfl, by rw [r2.len]; exact h1, ?_⟩
  exact k.nx _ _ _ _ ((R2.hset (o' := .dK (mergeK [] r)) hH0).ownA (a := apK (mergeD [] kvs)) hB hH0 ⟨_, rfl, r2.merge .nil⟩ h2) e2 (q2 p)⟩
end
end DL
namespace DL
open PySem PySem.Spec PyProof.Rows L2
section
variable {K : PySem.W.Frag} {B H0 H Hs : Hp} {σ : L2.St} {δ : Dl} {p : Addr} {a : AP}
theorem Rep.pushUn (R : Rep K B H0 σ δ H Hs) (x : Option V) : Rep K B H0 (σ ++ [x]) (δ ++ [.un]) H Hs where
  len := by rw [List.length_append, List.length_append, R.len]; rfl
  ex := R.ex
  base := R.base
  frz := R.frz
  frs := R.frs
  sl := by
    obtain ⟨fps, F⟩ := R.sl
    refine ⟨fps, fun i s hs => ?_, fun i hi b => F.out i (by rw [List.length_append] at hi; omega) b, F.dj⟩
    by_cases hi : i < δ.length
    · rw [List.getElem?_append_left hi] at hs
      obtain ⟨y, e, r⟩ := F.sl i s hs
      exact ⟨y, by rw [List.getElem?_append_left (by rw [R.len]; exact hi)]; exact e, r⟩
    · have hl := lt_of_get hs
      rw [List.length_append] at hl
      have : i = δ.length := by simp at hl; omega
      subst this
      rw [List.getElem?_append_right (Nat.le_refl _), Nat.sub_self] at hs
      cases hs
      exact ⟨x, by rw [← R.len, List.getElem?_append_right (Nat.le_refl _), Nat.sub_self]; rfl, F.out _ (Nat.le_refl _)⟩
theorem Rep.push {o : HO} (R : Rep K (upd B p o) H0 σ δ H Hs) (hB : B p = none) (h0 : H0 p = none) (r : a.P K Hs o) : Rep K B H0 (σ ++ [some (.ref p)]) (δ ++ [.ow p (OD.one a)]) H Hs := by
  have R1 := (R.pushUn (some (.ref p))).ownA (a := a) hB h0 r (i := δ.length) (by rw [List.length_append]; simp)
  have e1 : (σ ++ [some (V.ref p)]).set δ.length (some (.ref p)) = σ ++ [some (.ref p)] := by
    rw [← R.len, List.set_append_right _ _ (Nat.le_refl _), Nat.sub_self]
    rfl
  have e2 : (δ ++ [SD.un]).set δ.length (.ow p (OD.one a)) = δ ++ [.ow p (OD.one a)] := by
    rw [List.set_append_right _ _ (Nat.le_refl _), Nat.sub_self]
    rfl
  rw [e1, e2] at R1
  exact R1
theorem Rep.pop {x : Option V} {s : SD} (R : Rep K B H0 (σ ++ [x]) (δ ++ [s]) H Hs) : Rep K B H0 σ δ H Hs where
  len := by
    have := R.len
    rw [List.length_append, List.length_append] at this
    simpa using this
  ex := R.ex
  base := R.base
  frz := R.frz
  frs := R.frs
  sl := by
    have hl := R.len
    rw [List.length_append, List.length_append] at hl
    obtain ⟨fps, F⟩ := R.sl
    refine ⟨fun i b => i < δ.length ∧ fps i b, fun i s hs => ?_, fun i hi b hb => by omega, fun i j b h1 h2 => F.dj i j b h1.2 h2.2⟩
    have hi := lt_of_get hs
    obtain ⟨y, e, r⟩ := F.sl i s (by rw [List.getElem?_append_left hi]; exact hs)
    rw [List.getElem?_append_left (by simp at hl; omega)] at e
    have eq : (fun b => i < δ.length ∧ fps i b) = fps i := funext fun b => propext ⟨fun z => z.2, fun z => ⟨hi, z⟩⟩
    rw [eq]
    exact ⟨y, e, r⟩
end
end DL
namespace DL
open PySem PySem.Spec PyProof.Rows L2
def tmpK (dsp : DSp) (es1 : List Ent) (tc2 : TDC) (a : AP) (δ3 : Dl) (Q : D → Dl → Prop) : Prop := ∀ p, tc2 δ3 fun es2 δ4 => (bors (es1 ++ .inl δ4.length :: es2)).Nodup ∧ (∀ i ∈ bors (es1 ++ .inl δ4.length :: es2), i < (δ4 ++ [SD.ow p (OD.one a)]).length) ∧
  ∀ Q2 : RS → List SD → Prop, (∀ d as', as'.length = (es1 ++ .inl δ4.length :: es2).length → Q d (back (es1 ++ .inl δ4.length :: es2) as' (δ4 ++ [SD.ow p (OD.one a)])).dropLast → Q2 (.dt d) as') → dsp ((es1 ++ .inl δ4.length :: es2).map (resD (δ4 ++ [SD.ow p (OD.one a)]))) Q2
def dCallTmp (dsp dspG : DSp) (tc1 tcG tc2 : TDC) : TDE := fun δ Q => tc1 δ fun es1 δ1 => tcG δ1 fun esG δ2 => (bors esG).Nodup ∧ (∀ i ∈ bors esG, i < δ2.length) ∧
  ∀ Q2 : RS → List SD → Prop, (∀ a as', as'.length = esG.length → tmpK dsp es1 tc2 a (back esG as' δ2) Q → Q2 (.obj a) as') → dspG (esG.map (resD δ2)) Q2
theorem ents_app {K : PySem.W.Frag} {Hs : Hp} {σ : L2.St} : ∀ {vs ws : List V} {es fs : List Ent}, Ents K Hs σ vs es → Ents K Hs σ ws fs → Ents K Hs σ (vs ++ ws) (es ++ fs)
  | _, _, _, _, .nil, h => h
  | _, _, _, _, .cons r t, h => .cons r (ents_app t h)
theorem ent_push {K : PySem.W.Frag} {Hs Hs' : Hp} {σ : L2.St} {x : Option V} (e : Ex Hs Hs') {v : V} : ∀ {en : Ent}, EntOk K Hs σ v en → EntOk K Hs' (σ ++ [x]) v en
  | .inl j, h => by
    have h : σ[j]? = some (some v) := h
    show (σ ++ [x])[j]? = some (some v)
    rw [List.getElem?_append_left (lt_of_get h)]
    exact h
  | .inr d, h => dp_mono e h
theorem ents_push {K : PySem.W.Frag} {Hs Hs' : Hp} {σ : L2.St} {x : Option V} (e : Ex Hs Hs') : ∀ {vs : List V} {es : List Ent}, Ents K Hs σ vs es → Ents K Hs' (σ ++ [x]) vs es
  | _, _, .nil => .nil
  | _, _, .cons r t => .cons (ent_push e r) (ents_push e t)
def tApp (u w : TA) : TA := fun σ H Q => u σ H fun vs H1 => w σ H1 fun ws H2 => Q (vs ++ ws) H2
theorem sim_callTmp {K : PySem.W.Frag} {dsp dspG : DSp} {us1 usG us2 : TA} {tc1 tcG tc2 : TDC} (h1 : SimCl K us1 tc1) (hG : SimCl K usG tcG) (h2 : SimCl K us2 tc2) : SimE K (tCall (spOf K dsp) [] E0 (tApp us1 (tCons (tCall (spOf K dspG) [] E0 usG) us2))) (dCallTmp dsp dspG tc1 tcG tc2) := by
  intro B H0 σ δ H Hs Q Q' R h k
  refine h1 R h fun vs1 es1 δ1 H1 Hs1 R1 e1 r1 hg => ?_
  refine hG R1 hg fun vsG esG δ2 H2 Hs2 R2 e2 r2 ⟨nd, hlt, hd⟩ => ?_
  show spOf K dspG (vsG ++ []) H2 _ E0
  rw [List.append_nil]
  refine call_core (Qr := fun r δ' => ∃ a, r = .obj a ∧ tmpK dsp es1 tc2 a δ' Q) R2 r2 nd hlt (fun Q2 h2 => hd Q2 fun a as' hl q => h2 _ _ hl ⟨a, rfl, q⟩) fun v r δ3 H3 Hs3 R3 x3 _ _ ro ⟨a, ed, q⟩ => ?_
  obtain ⟨p, o, ev, R4, hB, h0, ha⟩ := ro a ed
  subst ev
  refine h2 R4 (q p) fun vs2 es2 δ4 H4 Hs4 R5 e5 r5 ⟨nd2, hlt2, hd2⟩ => ?_
  have R6 := R5.push (a := a) hB h0 (a.mono ha e5)
  have en : Ents K Hs4 (σ ++ [some (.ref p)]) (vs1 ++ .ref p :: vs2) (es1 ++ .inl δ4.length :: es2) := by
    refine ents_app (ents_push ((e2.trans x3).trans e5) r1) (.cons ?_ (ents_push (Ex.refl _) r5))
    show (σ ++ [some (V.ref p)])[δ4.length]? = _
    rw [← R5.len, List.getElem?_append_right (Nat.le_refl _), Nat.sub_self]
    rfl
  show spOf K dsp ((vs1 ++ .ref p :: vs2) ++ []) H4 Q' E0
  rw [List.append_nil]
  refine call_core (Qr := fun r δ' => ∃ d, r = .dt d ∧ Q d δ'.dropLast) R6 en nd2 hlt2 (fun Q2 h2 => hd2 Q2 fun d as' hl q => h2 _ _ hl ⟨d, rfl, q⟩) fun v r δ7 H7 Hs7 R7 x7 rd _ _ ⟨d, ed, q⟩ => ?_
  have hne : δ7 ≠ [] := fun z => by
    have := R7.len
    rw [z] at this
    simp at this
  have ed7 : δ7 = δ7.dropLast ++ [δ7.getLast hne] := (List.dropLast_concat_getLast hne).symm
  rw [ed7] at R7
  exact k v d _ H7 Hs7 R7.pop ((((e1.trans e2).trans x3).trans e5).trans x7) (rd d ed) q
def argsOf : Option Expr → List Expr
  | some (.Call _ as _ _) => as
  | _ => []
section
variable {X : Cx} {e : Expr} {es : List Expr} {pos : Pos} {us us1 usG us2 : TA} {tc1 tcG tc2 : TDC}
theorem je_callTmp {x : Str} {p : Pos} {f : Addr} {fd : FuncData} {ps : List Str} {n : Nat} {dsp dspG : DSp} {K' : PySem.W.Frag} (F : FnOk X.prog X.w X.K X.mg X.base CX0 n f fd ps (spOf K' dsp)) (hr : Room n X.A) (hm : X.mg x = some (.ref f)) (hk : PySem.W.keepIn X.K (.ref f) = true) (hb : Binds X.K fd ps [])
    (ha : PA X (e :: es) us) (s1 : SimCl X.K us1 tc1) (sG : SimCl X.K usG tcG) (s2 : SimCl X.K us2 tc2) (hu : us = tApp us1 (tCons (tCall (spOf K' dspG) [] E0 usG) us2) := by rfl) (hK : X.K = K' := by rfl) (hg : Gl X x := by rfl) (hdb : (x == ("__debug__" : Str)) = false := by decide)
    (he : starEach (e :: es) X.env = (false, eval e X.env) :: starEach es X.env := by rfl) (hpl : (backTo pos (starEach es X.env)).any (·.1) = false := by rfl) :
    JE X (.Call (.Name x p) (e :: es) [] pos) (tCall (spOf K' dsp) [] E0 us) (dCallTmp dsp dspG tc1 tcG tc2) := by
  subst hK
  refine ⟨pe_call F hr hg hm hk hb .nil pass0 ha hdb he hpl, ?_⟩
  subst hu
  exact sim_callTmp s1 sG s2
theorem je_callTmpK {x : Str} {p : Pos} {f : Addr} {fd : FuncData} {ps : List Str} {n : Nat} {dsp dspG : DSp} {K' : PySem.W.Frag} (kk : Nat) (F : FnOk X.prog X.w X.K X.mg X.base CX0 n f fd ps (spOf K' dsp)) (hr : Room n X.A) (hm : X.mg x = some (.ref f)) (hk : PySem.W.keepIn X.K (.ref f) = true) (hb : Binds X.K fd ps [])
    (ha : PA X (e :: es) us) (j1 : JC X ((e :: es).take kk) us1 tc1) (jG : JC X (argsOf ((e :: es)[kk]?)) usG tcG) (j2 : JC X ((e :: es).drop (kk + 1)) us2 tc2) (hu : us = tApp us1 (tCons (tCall (spOf K' dspG) [] E0 usG) us2) := by rfl) (hK : X.K = K' := by rfl) (hg : Gl X x := by rfl) (hdb : (x == ("__debug__" : Str)) = false := by decide)
    (he : starEach (e :: es) X.env = (false, eval e X.env) :: starEach es X.env := by rfl) (hpl : (backTo pos (starEach es X.env)).any (·.1) = false := by rfl) :
    JE X (.Call (.Name x p) (e :: es) [] pos) (tCall (spOf K' dsp) [] E0 us) (dCallTmp dsp dspG tc1 tcG tc2) := je_callTmp F hr hm hk hb ha j1.s jG.s j2.s hu hK hg hdb he hpl
end
end DL
namespace DL
open PySem PySem.Spec PyProof.Rows L2
section
variable {X : Cx} {a : Expr} {pos : Pos} {ta : TDE} {ua : TE}
def isBD (c : Bool) : D → Bool
  | .bool b => b == c
  | _ => false
def tIsB (c : Bool) (ta : TE) : TE := fun σ H Q => ta σ H fun x H1 => Q (.bl (decide (x = .bl c))) H1
def tNotB (c : Bool) (ta : TE) : TE := fun σ H Q => ta σ H fun x H1 => Q (.bl (!decide (x = .bl c))) H1
theorem RelV.bool_iff {x : V} {v : Value} {c : Bool} (r : RelV x v) : plainIs v (.bool c) = true ∧ (v == Value.bool c) = decide (x = .bl c) := by
  cases x with
  | non => cases r; exact ⟨rfl, rfl⟩
  | bl b => cases r; exact ⟨rfl, by cases b <;> cases c <;> rfl⟩
  | int _ => obtain ⟨t, rfl⟩ := r; exact ⟨rfl, rfl⟩
  | str _ => obtain ⟨t, rfl⟩ := r; exact ⟨rfl, rfl⟩
  | byt _ => obtain ⟨t, rfl⟩ := r; exact ⟨rfl, rfl⟩
  | flt _ => obtain ⟨t, rfl⟩ := r; exact ⟨rfl, rfl⟩
  | ref _ => cases r; exact ⟨rfl, rfl⟩
  | ty _ => cases r; exact ⟨rfl, rfl⟩
theorem pc_isB {c : Bool} {j pos'} (ha : PE X a ua) : PC X .Is a (.Constant (.bool c) j pos') (tIsB c ua) := by
  refine ⟨fun pins s σ H Q I h => ?_⟩
  refine thn (ha.run pins s σ H _ I h) fun v s1 ⟨x, H1, I1, r1, q1⟩ => ?_
  obtain ⟨h1, h2⟩ := RelV.bool_iff (c := c) r1
  exact wpAny_Constant_bool (wpAny_is_plain h1 ⟨.bl _, H1, I1, by rw [h2]; rfl, q1⟩)
theorem pc_notB {c : Bool} {j pos'} (ha : PE X a ua) : PC X .IsNot a (.Constant (.bool c) j pos') (tNotB c ua) := by
  refine ⟨fun pins s σ H Q I h => ?_⟩
  refine thn (ha.run pins s σ H _ I h) fun v s1 ⟨x, H1, I1, r1, q1⟩ => ?_
  obtain ⟨h1, h2⟩ := RelV.bool_iff (c := c) r1
  exact wpAny_Constant_bool (wpAny_isNot_plain h1 ⟨.bl _, H1, I1, by rw [h2]; rfl, q1⟩)
def dIsB (c : Bool) (t : TDE) : TDE := fun δ Q => t δ fun d δ' => Q (.bool (isBD c d)) δ'
def dNotB (c : Bool) (t : TDE) : TDE := fun δ Q => t δ fun d δ' => Q (.bool (!isBD c d)) δ'
theorem isB_dec {K : PySem.W.Frag} {H : Hp} {v : V} {d : D} {c : Bool} (r : Dp K H v d) : decide (v = .bl c) = isBD c d := by
  cases r with
  | bl b => cases b <;> cases c <;> rfl
  | _ => rfl
theorem sim_isB {K : PySem.W.Frag} {c : Bool} (sa : SimE K ua ta) : SimE K (tIsB c ua) (dIsB c ta) := fun R h k => sa R h fun v d δ1 H1 Hs1 R1 e1 r1 q => by
  rw [isB_dec r1]
  exact k _ _ _ _ _ R1 e1 (.bl _) q
theorem sim_notB {K : PySem.W.Frag} {c : Bool} (sa : SimE K ua ta) : SimE K (tNotB c ua) (dNotB c ta) := fun R h k => sa R h fun v d δ1 H1 Hs1 R1 e1 r1 q => by
  rw [isB_dec r1]
  exact k _ _ _ _ _ R1 e1 (.bl _) q
theorem je_isB {c : Bool} {j p'} (ha : JE X a ua ta) : JE X (.Compare a [.Is] [.Constant (.bool c) j p'] pos) (tIsB c ua) (dIsB c ta) := by
  obtain ⟨pa, sa⟩ := ha
  exact ⟨pe_cmp (pc_isB pa), sim_isB sa⟩
theorem je_notB {c : Bool} {j p'} (ha : JE X a ua ta) : JE X (.Compare a [.IsNot] [.Constant (.bool c) j p'] pos) (tNotB c ua) (dNotB c ta) := by
  obtain ⟨pa, sa⟩ := ha
  exact ⟨pe_cmp (pc_notB pa), sim_notB sa⟩
theorem jt_isB {c : Bool} {j p'} (ha : JE X a ua ta) : JT X (.Compare a [.Is] [.Constant (.bool c) j p'] pos) (tB (tIsB c ua)) (dTest (dIsB c ta)) := by
  obtain ⟨pa, sa⟩ := ha
  exact ⟨pt_cmp (pc_isB pa), sim_B (sim_isB sa)⟩
theorem jt_notB {c : Bool} {j p'} (ha : JE X a ua ta) : JT X (.Compare a [.IsNot] [.Constant (.bool c) j p'] pos) (tB (tNotB c ua)) (dTest (dNotB c ta)) := by
  obtain ⟨pa, sa⟩ := ha
  exact ⟨pt_cmp (pc_notB pa), sim_B (sim_notB sa)⟩
theorem st_isB {c : Bool} {δ : Dl} {Q : D → Dl → Prop} (q : ta δ fun d δ' => Q (.bool (isBD c d)) δ') : dIsB c ta δ Q := q
theorem st_notB {c : Bool} {δ : Dl} {Q : D → Dl → Prop} (q : ta δ fun d δ' => Q (.bool (!isBD c d)) δ') : dNotB c ta δ Q := q
end
section
variable {t tj : TDE} {u : TDL} {tc : TDC} {tp : TDP} {De : DEnds} {δ : Dl} {i j : Nat} {Q : D → Dl → Prop} {Qb : Bool → Dl → Prop} {Qe : List Ent → Dl → Prop} {Qp : List (Key × D) → Dl → Prop} {tt : TDB} {dsp : DSp} {Ql : List D → Dl → Prop}
theorem st_dictT (h : Nat.ble (i + 1) δ.length = true) (q : ∀ p, De.nx (δ.set i (.ow p (OD.dt [])))) : sDictT i De δ := ⟨Nat.le_of_ble_eq_true h, q⟩
theorem st_dictK (h : Nat.ble (i + 1) δ.length = true) (q : ∀ p, De.nx (δ.set i (.ow p (OD.dk [])))) : sDictK i De δ := ⟨Nat.le_of_ble_eq_true h, q⟩
theorem st_dputT (q : t δ fun d δ1 => (∃ p a, δ1[i]? = some (.ow p (OD.one a))) ∧ u δ1 fun ds δ2 => ds.length ≤ 10000 ∧ ∃ p kvs ks, δ2[i]? = some (.ow p (OD.dt kvs)) ∧ keysOf ds = some ks ∧ kvs.length ≤ 100000 ∧ De.nx (δ2.set i (.ow p (OD.dt (putD kvs ks d))))) : sDPutT i u t De δ := q
theorem st_dputK (q : t δ fun d δ1 => (∃ p a, δ1[i]? = some (.ow p (OD.one a))) ∧ tj δ1 fun dj δ2 => ∃ p kvs k, δ2[i]? = some (.ow p (OD.dk kvs)) ∧ keyOf dj = some k ∧ kvs.length ≤ 100000 ∧ De.nx (δ2.set i (.ow p (OD.dk (putD kvs k d))))) : sDPutK i tj t De δ := q
theorem ex_one {p : Addr} {a : AP} {P : Prop} (h : δ[i]? = some (.ow p (OD.one a))) (q : P) : (∃ p a, δ[i]? = some (.ow p (OD.one a))) ∧ P := ⟨⟨p, a, h⟩, q⟩
theorem st_look {p : Addr} {a : AP} (h : δ[i]? = some (.ow p (OD.one a))) (q : tj δ fun d δ' => ∃ p s z, δ'[i]? = some s ∧ ((∃ kvs k, LkK s p kvs ∧ keyOf d = some k ∧ getK kvs k = some z) ∨ ∃ kvs ks ds, LkT s p kvs ∧ d = .tuple ds ∧ keysOf ds = some ks ∧ getK kvs ks = some z) ∧ Q z δ') : dLook i tj δ Q := ⟨⟨p, a, h⟩, q⟩
theorem look_K {p : Addr} {kvs : List (Key × D)} {k : Key} {d z : D} {P : D → Prop} (h : δ[i]? = some (.ow p (OD.dk kvs))) (hk : keyOf d = some k) (hg : getK kvs k = some z) (q : P z) : ∃ p s z, δ[i]? = some s ∧ ((∃ kvs k, LkK s p kvs ∧ keyOf d = some k ∧ getK kvs k = some z) ∨ ∃ kvs ks ds, LkT s p kvs ∧ d = .tuple ds ∧ keysOf ds = some ks ∧ getK kvs ks = some z) ∧ P z := ⟨p, _, z, h, .inl ⟨kvs, k, .inl rfl, hk, hg⟩, q⟩
theorem look_KL {p : Addr} {od : Obj} {r : List (Key × V)} {kvs : List (Key × D)} {k : Key} {d z : D} {P : D → Prop} (h : δ[i]? = some (.ow p (OD.one (apLK od r kvs)))) (hk : keyOf d = some k) (hg : getK kvs k = some z) (q : P z) : ∃ p s z, δ[i]? = some s ∧ ((∃ kvs k, LkK s p kvs ∧ keyOf d = some k ∧ getK kvs k = some z) ∨ ∃ kvs ks ds, LkT s p kvs ∧ d = .tuple ds ∧ keysOf ds = some ks ∧ getK kvs ks = some z) ∧ P z := ⟨p, _, z, h, .inl ⟨kvs, k, .inr ⟨od, r, rfl⟩, hk, hg⟩, q⟩
theorem look_T {p : Addr} {kvs : List (List Key × D)} {ks : List Key} {ds : List D} {z : D} {P : D → Prop} (h : δ[i]? = some (.ow p (OD.dt kvs))) (hk : keysOf ds = some ks) (hg : getK kvs ks = some z) (q : P z) : ∃ p s z', δ[i]? = some s ∧ ((∃ kvs k, LkK s p kvs ∧ keyOf (.tuple ds) = some k ∧ getK kvs k = some z') ∨ ∃ kvs ks es, LkT s p kvs ∧ PyData.tuple ds = .tuple es ∧ keysOf es = some ks ∧ getK kvs ks = some z') ∧ P z' := ⟨p, _, z, h, .inr ⟨kvs, ks, ds, .inl rfl, rfl, hk, hg⟩, q⟩
theorem look_TL {p : Addr} {od : Obj} {r : List (List Key × V)} {kvs : List (List Key × D)} {ks : List Key} {ds : List D} {z : D} {P : D → Prop} (h : δ[i]? = some (.ow p (OD.one (apLT od r kvs)))) (hk : keysOf ds = some ks) (hg : getK kvs ks = some z) (q : P z) : ∃ p s z', δ[i]? = some s ∧ ((∃ kvs k, LkK s p kvs ∧ keyOf (.tuple ds) = some k ∧ getK kvs k = some z') ∨ ∃ kvs ks es, LkT s p kvs ∧ PyData.tuple ds = .tuple es ∧ keysOf es = some ks ∧ getK kvs ks = some z') ∧ P z' := ⟨p, _, z, h, .inr ⟨kvs, ks, ds, .inr ⟨od, r, rfl⟩, rfl, hk, hg⟩, q⟩
theorem st_truA {p : Addr} {xs : List D} (h : δ[i]? = some (.ow p (.lst xs))) (q : Qb (!xs.isEmpty) δ) : dTruA i δ Qb := ⟨xs, .inl ⟨p, h⟩, q⟩
theorem st_truAd {xs : List D} (h : δ[i]? = some (.dt (.list xs))) (q : Qb (!xs.isEmpty) δ) : dTruA i δ Qb := ⟨xs, .inr h, q⟩
theorem st_cAny {p : Addr} {o : OD} (h : δ[i]? = some (.ow p o)) (q : tc δ fun es δ2 => Qe (.inl i :: es) δ2) : cAny i tc δ Qe := .inl ⟨p, o, h, q⟩
theorem st_cAnyD {d : D} (h : δ[i]? = some (.dt d)) (q : tc δ fun es δ2 => Qe (.inr d :: es) δ2) : cAny i tc δ Qe := .inr ⟨d, h, q⟩
theorem st_cPerm {n : Nat} {ix : List Nat} (q : tc δ fun es δ' => es.length = n ∧ Qe (permL ix es) δ') : cPerm n ix tc δ Qe := q
theorem st_dispK (q : tp δ fun kvs δ' => kvs.length ≤ 15 ∧ i < δ'.length ∧ ∀ p, De.nx (δ'.set i (.ow p (OD.dk (mergeD [] kvs))))) : sDispK i tp De δ := q
theorem st_dpNil (q : Qp [] δ) : dpNil δ Qp := q
theorem st_dpCons {x : Str} (q : t δ fun d δ1 => tp δ1 fun kvs δ2 => Qp ((.inr x, d) :: kvs) δ2) : dpCons x t tp δ Qp := q
theorem st_retObj {p : Addr} {a : AP} (h : δ[i]? = some (.ow p (OD.one a))) (q : De.rt (.obj a) (δ.set i .un)) : sRetObj i De δ := ⟨p, a, h, q⟩
theorem st_ownC (q : tc δ fun es δ' => (bors es).Nodup ∧ (∀ i ∈ bors es, i < δ'.length) ∧ i < δ'.length ∧ ∀ Q2 : RS → List SD → Prop, (∀ a as', as'.length = es.length → (∀ p, De.nx ((back es as' δ').set i (.ow p (OD.one a)))) → Q2 (.obj a) as') → dsp (es.map (resD δ')) Q2) : sOwnC dsp i tc De δ := q
theorem ite_kT {b : Bool} {A B : Prop} (h : b = true) (q : A) : if b = true then A else B := by
  rw [if_pos h]
  exact q
theorem ite_kF {b : Bool} {A B : Prop} (h : b = false) (q : B) : if b = true then A else B := by
  rw [h, if_neg Bool.false_ne_true]
  exact q
theorem ord_ok {g : D → D → Bool} {a b : D} {P : D → Prop} (h : PySem.W.alike a b = true) (h2 : isNoneD a = false) (h3 : min a.depth b.depth ≤ 150) (q : P (.bool (g a b))) : ordD g a b P := ⟨h, h2, h3, q⟩
theorem eq_ok {a b : D} {P : D → Prop} (h : min a.depth b.depth ≤ 150) (q : P (.bool (PyData.eqv a b))) : eqD a b P := ⟨h, q⟩
theorem ne_ok {a b : D} {P : D → Prop} (h : min a.depth b.depth ≤ 150) (q : P (.bool (!PyData.eqv a b))) : neD a b P := ⟨h, q⟩
theorem eq_b {a b : D} {c : Bool} {P : D → Prop} (h : min a.depth b.depth ≤ 150) (e : PyData.eqv a b = c) (q : P (.bool c)) : eqD a b P := ⟨h, by rw [e]; exact q⟩
theorem in_ok {neg : Bool} {x y : D} {c : Bool} {xs : List D} {P : D → Prop} (h1 : seqOf y = some xs) (h2 : x.depth ≤ 150) (e : (neg ^^ xs.any fun z => PyData.eqv z x) = c) (q : P (.bool c)) : inG neg x y P := ⟨xs, h1, h2, by rw [e]; exact q⟩
end
end DL
namespace DL
open PySem PySem.Spec PyProof.Rows L2
theorem own2 {δ : Dl} {i j : Nat} {s t : SD} (h : δ[i]? = some s) (o : isOw s = false) (h2 : δ[j]? = some t) (o2 : isOw t = false) : ∀ v ∈ [i, j], ∃ s, δ[v]? = some s ∧ isOw s = false := fun v hv => by
  rcases List.mem_cons.mp hv with rfl | hv
  · exact ⟨s, h, o⟩
  · rcases List.mem_cons.mp hv with rfl | hv
    · exact ⟨t, h2, o2⟩
    · simp at hv
theorem lc_invA {g : TDG} {tt : TDB} {te : TDE} {vs : List Nat} {Q : List D → Dl → Prop} {xs acc0 : List D} {δ : Dl} (I : Nat → List D → Dl → Prop) (h0 : I 0 acc0 δ)
    (step : ∀ (i : Nat) (x : D) (acc : List D) (δ' : Dl) (N : List D → Dl → Prop), xs[i]? = some x → I i acc δ' → (∀ acc' δ'', I (i + 1) acc' δ'' → N acc' δ'') →
      g x (wipeD δ' vs) fun δ1 => tt δ1 fun b δ2 => if b = true then te δ2 fun y δ3 => acc.length ≤ 100000 ∧ N (acc ++ [y]) (mixD δ3 δ' vs) else N acc (mixD δ2 δ' vs))
    (done : ∀ acc δ', I xs.length acc δ' → Q acc δ') : dLcGo g tt te vs Q xs acc0 δ := by
  have key : ∀ (n i : Nat) (acc : List D) (δ' : Dl), n + i = xs.length → I i acc δ' → dLcGo g tt te vs Q (xs.drop i) acc δ' := by
    intro n
    induction n with
    | zero =>
      intro i acc δ' hn hi
      have e : i = xs.length := by omega
      subst e
      rw [List.drop_length]
      exact done acc δ' hi
    | succ n ih =>
      intro i acc δ' hn hi
      have hl : i < xs.length := by omega
      rw [List.drop_eq_getElem_cons hl]
      exact step i xs[i] acc δ' _ (List.getElem?_eq_getElem hl) hi fun acc' δ'' h => ih (i + 1) acc' δ'' (by omega) h
  have := key xs.length 0 acc0 δ (by omega) h0
  rw [List.drop_zero] at this
  exact this
theorem lc_opt {g : TDG} {tt : TDB} {te : TDE} {vs : List Nat} {Q : List D → Dl → Prop} {xs acc0 : List D} {δ : Dl} (f : D → Option D) (hl : acc0.length + xs.length ≤ 100000)
    (step : ∀ x ∈ xs, ∀ (Ny : D → Dl → Prop) (Nn : Dl → Prop), (∀ y δ3, f x = some y → mixD δ3 δ vs = δ → Ny y δ3) → (∀ δ2, f x = none → mixD δ2 δ vs = δ → Nn δ2) → g x (wipeD δ vs) fun δ1 => tt δ1 fun b δ2 => if b = true then te δ2 Ny else Nn δ2)
    (done : Q (acc0 ++ xs.filterMap f) δ) : dLcGo g tt te vs Q xs acc0 δ := by
  refine lc_invA (fun k acc δ' => δ' = δ ∧ acc = acc0 ++ (xs.take k).filterMap f) ⟨rfl, by simp⟩ (fun k x acc δ' N hx ⟨e1, e2⟩ hN => ?_) fun acc δ' ⟨e1, e2⟩ => ?_
  · subst e1 e2
    have hm : x ∈ xs := List.mem_of_getElem? hx
    have hk := lt_of_get hx
    have e3 : (xs.take (k + 1)).filterMap f = (xs.take k).filterMap f ++ (match f x with | some y => [y] | none => []) := by
      rw [List.take_add_one, hx, List.filterMap_append]
      congr 1
      show List.filterMap f [x] = _
      cases h : f x <;> simp [h]
    have hb : (acc0 ++ (xs.take k).filterMap f).length ≤ 100000 := by
      have := List.length_filterMap_le f (xs.take k)
      rw [List.length_take] at this
      rw [List.length_append]
      omega
    refine step x hm _ _ (fun y δ3 h1 h2 => ?_) fun δ2 h1 h2 => ?_
    · show _ ∧ _
      rw [h2]
      refine ⟨hb, hN _ _ ⟨rfl, ?_⟩⟩
      rw [e3, h1, List.append_assoc]
    · show N _ _
      rw [h2]
      refine hN _ _ ⟨rfl, ?_⟩
      rw [e3, h1, List.append_nil]
  · subst e1 e2
    rw [List.take_length]
    exact done
theorem lc2_pure {g : TDG} {ti1 : TDI} {g1 : TDG} {te : TDE} {vs vs1 : List Nat} {Q : List D → Dl → Prop} {xs ys : List D} {δ : Dl} (f : D → D → D) (hl : xs.length * ys.length ≤ 100000) (δx : D → Dl)
    (step : ∀ x ∈ xs, ∀ N : List D → Dl → Prop, (OkSl (δx x) vs1 → N ys (δx x)) → g x (wipeD δ vs) fun δ1 => ti1 δ1 N)
    (ok : ∀ x ∈ xs, OkSl (δx x) vs1) (back : ∀ x ∈ xs, mixD (δx x) δ vs = δ)
    (elt : ∀ x ∈ xs, ∀ y ∈ ys, ∀ (Ny : D → Dl → Prop), (∀ δ3, mixD δ3 (δx x) vs1 = δx x → Ny (f x y) δ3) → g1 y (wipeD (δx x) vs1) fun δ1 => te δ1 Ny)
    (done : Q (xs.flatMap fun x => ys.map fun y => f x y) δ) : dLc2Go g dYes ti1 g1 dYes te vs vs1 Q xs [] δ := by
  have key : ∀ (zs acc : List D), (∀ z ∈ zs, z ∈ xs) → acc.length + zs.length * ys.length ≤ 100000 → Q (acc ++ zs.flatMap fun x => ys.map fun y => f x y) δ → dLc2Go g dYes ti1 g1 dYes te vs vs1 Q zs acc δ := by
    intro zs
    induction zs with
    | nil =>
      intro acc _ _ q
      simp at q
      exact q
    | cons z zs ih =>
      intro acc hz hlen q
      have hzx := hz z List.mem_cons_self
      have e1 : (z :: zs).length * ys.length = zs.length * ys.length + ys.length := by
        rw [List.length_cons, Nat.add_mul, Nat.one_mul]
      rw [e1] at hlen
      show g z (wipeD δ vs) fun δ1 => dYes δ1 fun b δ2 => if b = true then ti1 δ2 _ else _
      refine step z hzx _ fun hok => ⟨hok, ?_⟩
      refine lc_opt (fun y => some (f z y)) (by omega) (fun y hy Ny Nn h1 _ => ?_) ?_
      · exact elt z hzx y hy _ fun δ3 h3 => h1 _ _ rfl h3
      · show dLc2Go g dYes ti1 g1 dYes te vs vs1 Q zs _ (mixD (δx z) δ vs)
        rw [back z hzx]
        have e2 : (ys.filterMap fun y => some (f z y)) = ys.map fun y => f z y := by
          rw [List.filterMap_eq_map']
        refine ih _ (fun w hw => hz w (List.mem_cons_of_mem _ hw)) ?_ ?_
        · rw [List.length_append, e2, List.length_map]
          omega
        · rw [e2, List.append_assoc]
          exact q
  exact key xs [] (fun _ h => h) (by simpa using hl) (by simpa using done)
theorem st_lc2 {ti : TDI} {dg : TDG} {tt : TDB} {ti1 : TDI} {dg1 : TDG} {tt1 : TDB} {te : TDE} {vs vs1 : List Nat} {δ : Dl} {Q : List D → Dl → Prop} (q : ti δ fun xs δ' => OkSl δ' vs ∧ dLc2Go dg tt ti1 dg1 tt1 te vs vs1 Q xs [] δ') : dLc2 ti dg tt ti1 dg1 tt1 te vs vs1 δ Q := q
section
variable {X : Cx} {elt : Expr} {pos spos : Pos} {te : TDE} {scope : Scope} {uf : BkT TE}
theorem js_setLcK {x y z : Str} {p1 p2 pz : Pos} {n : Nat} (hc : X.calm = true) (hN : X.N.Nodup) (i j : Nat) (ok : BlkOk X.N X.env.scope scope [(y, j)])
    (hg : ∀ (s : Shared) (H : Hp) (C : Addr) (cl : List (Str × Addr)) (fp : List Addr), PG (Bk X s H scope C cl fp) (.Name y p2) (gName j))
    (he : ∀ (s : Shared) (H : Hp) (C : Addr) (cl : List (Str × Addr)) (fp : List Addr), JE (Bk X s H scope C cl fp) elt (uf s H C cl fp) te)
    (hu : ∀ (s : Shared) (H : Hp) (C : Addr) (cl : List (Str × Addr)) (fp : List Addr), uf s H C cl fp = uf X.s_0 X.H_0 0 [] [] := by intros; rfl)
    (hi : X.N[i]? = some x := by rfl) (hv : Vis X.env.scope x := by first | exact Or.inl rfl | exact Or.inr (Or.inl rfl) | exact Or.inr (Or.inr rfl)) (hd : (x == ("__debug__" : Str)) = false := by decide)
    (hcd : (x == ("__classdict__" : Str)) = false := by decide) (hz : X.N[n]? = some z := by rfl) (hzl : X.env.scope.names.lookup z = some .local := by rfl)
    (hsw : swapsWith (.ListComp elt [⟨.Name y p2, .Name x p1, [], 0⟩] scope pos) (some (.Name z pz)) spos.line X.env = pure true := by exact sw_true rfl rfl rfl (by decide +kernel)) (hs : ∀ z, foldedSetIterable (.Name x p1) X.env z = pure z := by intro _; rfl) :
    JS X (.Assign [.Name z pz] (.ListComp elt [⟨.Name y p2, .Name x p1, [], 0⟩] scope pos) spos) (tAsg (tLockE (tLc (iKeys (tVar i)) (gName j) tYes (uf X.s_0 X.H_0 0 [] []) [j])) (gName n)) (sAsg (dN (dLcK i j te)) (dgName n)) := by
  refine ⟨?_, fun R q k => ?_⟩
  · have h := ps_lock (ps_setLc (i := n) (own := [(y, j)]) hc hN hz hzl hsw (pi_keys (pe_var hi hv hd hcd)) ok hg (fun _ _ _ _ _ => pts_nil) (fun s H C cl fp => hu s H C cl fp ▸ (he s H C cl fp).p) hs)
    exact h
  · exact (je_new (jn_lcK (pos := pos) hc hN i j ok hg he hu hi hv hd hcd hs)).s R q fun _ _ _ _ _ R1 x r q1 => k.nx _ _ _ _ (R1.set r n) x q1
end
theorem st_ix0 {a : D} {r : List D} {P : D → Prop} (q : P a) : ixD (.tuple (a :: r)) (.int 0) P := ⟨a, by rw [atI_pos (by decide)]; rfl, q⟩
theorem st_ix1 {a b : D} {r : List D} {P : D → Prop} (q : P b) : ixD (.tuple (a :: b :: r)) (.int 1) P := ⟨b, by rw [atI_pos (by decide)]; rfl, q⟩
theorem st_ix2 {a b c : D} {r : List D} {P : D → Prop} (q : P c) : ixD (.tuple (a :: b :: c :: r)) (.int 2) P := ⟨c, by rw [atI_pos (by decide)]; rfl, q⟩
theorem st_ix3 {a b c d : D} {r : List D} {P : D → Prop} (q : P d) : ixD (.tuple (a :: b :: c :: d :: r)) (.int 3) P := ⟨d, by rw [atI_pos (by decide)]; rfl, q⟩
theorem st_ixl0 {a : D} {r : List D} {P : D → Prop} (q : P a) : ixD (.list (a :: r)) (.int 0) P := ⟨a, by rw [atI_pos (by decide)]; rfl, q⟩
theorem st_ixl1 {a b : D} {r : List D} {P : D → Prop} (q : P b) : ixD (.list (a :: b :: r)) (.int 1) P := ⟨b, by rw [atI_pos (by decide)]; rfl, q⟩
end DL
namespace K35
open PySem PySem.Spec PyProof.Rows L2 DL
local macro_rules | `(tactic| walk_at "1") => `(tactic| first
  | ((with_reducible refine' st_var ?k1 ?_); (case k1 => exact rfl))
  | with_reducible refine' st_seq ?_
  | with_reducible refine' st_c ?_
  | with_reducible refine' st_asg ?_
  | with_reducible refine' st_name ?_
  | with_reducible refine' st_cons ?_
  | with_reducible refine' st_nil ?_
  | with_reducible refine' st_op ?_
  | with_reducible refine' st_test ?_
  | with_reducible refine' ex_bool ?_
  | with_reducible refine' ex_int ?_
  | with_reducible refine' st_ret ?_
  | with_reducible refine' st_retN ?_
  | with_reducible refine' st_next ?_
  | with_reducible refine' st_brk ?_
  | with_reducible refine' st_cont ?_
  | with_reducible refine' st_drop ?_
  | with_reducible refine' st_tup ?_
  | with_reducible refine' st_new ?_
  | with_reducible refine' st_lst ?_
  | with_reducible refine' st_call ?_
  | with_reducible refine' st_callN ?_
  | with_reducible refine' st_isN ?_
  | with_reducible refine' st_notN ?_
  | with_reducible refine' st_and ?_
  | with_reducible refine' st_or ?_
  | with_reducible refine' st_not ?_
  | with_reducible refine' st_andV ?_
  | with_reducible refine' st_orV ?_
  | with_reducible refine' st_notV ?_
  | with_reducible refine' st_ifE ?_
  | with_reducible refine' st_chain ?_
  | with_reducible refine' st_tru ?_
  | with_reducible refine' st_add ?_
  | with_reducible refine' st_sub ?_
  | with_reducible refine' st_eqI ?_
  | with_reducible refine' st_neI ?_
  | with_reducible refine' st_eqS ?_
  | with_reducible refine' st_eqB ?_
  | with_reducible refine' st_neB ?_
  | with_reducible refine' st_ltI ?_
  | with_reducible refine' st_gtI ?_
  | with_reducible refine' st_leI ?_
  | with_reducible refine' st_geI ?_
  | with_reducible refine' st_lenL ?_
  | with_reducible refine' st_lenT ?_
  | with_reducible refine' st_int ?_
  | with_reducible refine' st_intB ?_
  | with_reducible refine' st_isi ?_
  | with_reducible refine' st_isi2 ?_
  | with_reducible refine' st_sl ?_
  | with_reducible refine' st_slN ?_
  | with_reducible refine' st_nopart ?_
  | with_reducible refine' st_part ?_
  | with_reducible refine' st_rev ?_
  | with_reducible refine' ex_list ?_
  | with_reducible refine' ex_tuple ?_
  | with_reducible refine' st_slL ?_
  | with_reducible refine' st_slT ?_
  | with_reducible refine' st_listL ?_
  | with_reducible refine' st_listT ?_
  | with_reducible refine' st_tupleL ?_
  | with_reducible refine' st_int2 ?_
  | with_reducible refine' st_own ?_
  | with_reducible refine' st_for ?_
  | with_reducible refine' st_iLst ?_
  | with_reducible refine' st_iTup ?_
  | with_reducible refine' st_iRg1 ?_
  | with_reducible refine' st_iRg2 ?_
  | with_reducible refine' st_yes ?_
  | with_reducible refine' st_gCons ?_
  | with_reducible refine' st_gNil ?_
  | with_reducible refine' st_cNil ?_
  | with_reducible refine' st_cCons ?_
  | with_reducible refine' st_callF ?_
  | with_reducible refine' st_callNw ?_
  | with_reducible refine' st_retNew ?_
  | with_reducible refine' st_neg ?_
  | with_reducible refine' st_inO ?_
  | with_reducible refine' st_addN ?_
  | with_reducible refine' st_abs ?_
  | with_reducible refine' st_iZip ?_
  | ((with_reducible refine' and_ok ?k1 ?_); (case k1 => exact rfl))
  | ((with_reducible refine' st_lenO ?k1 ?_); (case k1 => exact rfl))
  | ((with_reducible refine' st_aug ?k1 ?_); (case k1 => exact rfl))
  | ((with_reducible refine' st_app ?k1 ?_); (case k1 => exact rfl))
  | ((with_reducible refine' st_frz ?k1 ?_); (case k1 => exact rfl))
  | ((with_reducible refine' st_sfrz ?k1 ?_); (case k1 => exact rfl))
  | ((with_reducible refine' st_gTup ?k1 ?_); (case k1 => exact rfl))
  | ((with_reducible refine' st_cLend ?k1 ?_); (case k1 => exact rfl))
  | ((with_reducible refine' st_retOwn ?k1 ?_); (case k1 => exact rfl))
  | ((with_reducible refine' st_ixO ?k1 ?_); (case k1 => exact rfl))
  | ((with_reducible refine' st_truO ?k1 ?_); (case k1 => exact rfl))
  | ((with_reducible refine' st_slO ?k1 ?_); (case k1 => exact rfl))
  | ((with_reducible refine' st_revO ?k1 ?_); (case k1 => exact rfl))
  | ((with_reducible refine' own_ok ?k1 (fun p => ?_)); (case k1 => exact rfl))
  | ((with_reducible refine' st_mulR ?k1 ?_); (case k1 => decide))
  | ((with_reducible refine' st_mulL ?k1 ?_); (case k1 => decide))
  | ((with_reducible refine' st_mod ?k1 ?_); (case k1 => decide))
  | ((with_reducible refine' st_fdiv ?k1 ?_); (case k1 => decide))
  | ((with_reducible refine' st_pow ?k1 ?_); (case k1 => decide)))
local macro_rules | `(tactic| walk_at "w") => `(tactic| repeat (first | walk_at "1" | with_reducible refine' st_if ?_ | dsimp only [List.set]))
local macro_rules | `(tactic| walk_at "v") => `(tactic| repeat (first | walk_at "1" | dsimp only [List.set]))
local macro_rules | `(tactic| walk_at "s") => `(tactic| (dsimp only [List.set, back, wipeD, mixD]))
local macro_rules | `(tactic| walk_at "o") => `(tactic| simp only [List.set, outs, oneOut, ↓reduceIte])
local macro_rules | `(tactic| walk_at "2") => `(tactic| first
  | with_reducible refine' st_isB ?_
  | with_reducible refine' st_notB ?_
  | with_reducible refine' st_dputT ?_
  | with_reducible refine' st_dputK ?_
  | with_reducible refine' st_cPerm ?_
  | with_reducible refine' st_dispK ?_
  | with_reducible refine' st_dpNil ?_
  | with_reducible refine' st_dpCons ?_
  | with_reducible refine' st_ownC ?_
  | with_reducible refine' st_ix0 ?_
  | with_reducible refine' st_ix1 ?_
  | with_reducible refine' st_ix2 ?_
  | with_reducible refine' st_ix3 ?_
  | with_reducible refine' st_ixl0 ?_
  | with_reducible refine' st_ixl1 ?_
  | ((with_reducible refine' ex_one ?k1 ?_); (case k1 => exact rfl))
  | ((with_reducible refine' st_look ?k1 ?_); (case k1 => exact rfl))
  | ((with_reducible refine' st_truA ?k1 ?_); (case k1 => exact rfl))
  | ((with_reducible refine' st_truAd ?k1 ?_); (case k1 => exact rfl))
  | ((with_reducible refine' st_cAny ?k1 ?_); (case k1 => exact rfl))
  | ((with_reducible refine' st_cAnyD ?k1 ?_); (case k1 => exact rfl))
  | ((with_reducible refine' st_retObj ?k1 ?_); (case k1 => exact rfl))
  | ((with_reducible refine' st_dictT ?k1 (fun p => ?_)); (case k1 => exact rfl))
  | ((with_reducible refine' st_dictK ?k1 (fun p => ?_)); (case k1 => exact rfl))
  | ((with_reducible refine' st_ixT ?k1 ?_); (case k1 => exact rfl))
  | ((with_reducible refine' st_ixL ?k1 ?_); (case k1 => exact rfl))
  | with_reducible refine' ite_T ?_
  | with_reducible refine' ite_F ?_
  | ((with_reducible refine' ite_kT ?k1 ?_); (case k1 => first | exact rfl | decide +kernel))
  | ((with_reducible refine' ite_kF ?k1 ?_); (case k1 => first | exact rfl | decide +kernel)))
local macro_rules | `(tactic| walk_at "x") => `(tactic| repeat (first | walk_at "1" | walk_at "2" | with_reducible refine' st_if ?_ | dsimp only [List.set]))

def topS (i : Nat) : Stmt := PySem.Challenge.pw_leastplans_k35_possible_truths.main.body.getD i (.Pass ⟨0, 0, 0, 0⟩)
abbrev s_raw_columns : Stmt := topS 2
theorem sc_raw_columns : FnScope ["thing", "met"] ["thing"] (defScope s_raw_columns) := ⟨rfl, rfl, rfl, by decide +kernel, rfl, by decide +kernel, by decide +kernel⟩
abbrev s_collect_raw_columns : Stmt := topS 3
theorem sc_collect_raw_columns : FnScope ["thing", "met", "pair", "part"] ["thing", "met"] (defScope s_collect_raw_columns) := ⟨rfl, rfl, rfl, by decide +kernel, rfl, by decide +kernel, by decide +kernel⟩
abbrev s_negated : Stmt := topS 5
theorem sc_negated : FnScope ["t"] ["t"] (defScope s_negated) := ⟨rfl, rfl, rfl, by decide +kernel, rfl, by decide +kernel, by decide +kernel⟩
abbrev s_perhaps : Stmt := topS 6
theorem sc_perhaps : FnScope ["t"] ["t"] (defScope s_perhaps) := ⟨rfl, rfl, rfl, by decide +kernel, rfl, by decide +kernel, by decide +kernel⟩
abbrev s_both : Stmt := topS 7
theorem sc_both : FnScope ["s", "t"] ["s", "t"] (defScope s_both) := ⟨rfl, rfl, rfl, by decide +kernel, rfl, by decide +kernel, by decide +kernel⟩
abbrev s_either : Stmt := topS 8
theorem sc_either : FnScope ["s", "t"] ["s", "t"] (defScope s_either) := ⟨rfl, rfl, rfl, by decide +kernel, rfl, by decide +kernel, by decide +kernel⟩
abbrev s_compared : Stmt := topS 9
theorem sc_compared : FnScope ["op", "one", "other"] ["op", "one", "other"] (defScope s_compared) := ⟨rfl, rfl, rfl, by decide +kernel, rfl, by decide +kernel, by decide +kernel⟩
abbrev s_possible : Stmt := topS 11
theorem sc_possible : FnScope ["cond", "unit", "word", "reads", "first", "second", "one", "other"] ["cond", "unit"] (defScope s_possible) := ⟨rfl, rfl, rfl, by decide +kernel, rfl, by decide +kernel, by decide +kernel⟩
abbrev s_never_on_nulls : Stmt := topS 12
theorem sc_never_on_nulls : FnScope ["cond", "unit"] ["cond", "unit"] (defScope s_never_on_nulls) := ⟨rfl, rfl, rfl, by decide +kernel, rfl, by decide +kernel, by decide +kernel⟩
abbrev s_reads_unit : Stmt := topS 13
theorem sc_reads_unit : FnScope ["thing", "unit", "u", "_"] ["thing", "unit"] (defScope s_reads_unit) := ⟨rfl, rfl, rfl, by decide +kernel, rfl, by decide +kernel, by decide +kernel⟩
abbrev s_truths_told : Stmt := topS 14
theorem sc_truths_told : FnScope ["triple", "truth", "may"] ["triple"] (defScope s_truths_told) := ⟨rfl, rfl, rfl, by decide +kernel, rfl, by decide +kernel, by decide +kernel⟩
abbrev s_told_truths : Stmt := topS 15
theorem sc_told_truths : FnScope ["truths", "one"] ["truths"] (defScope s_told_truths) := ⟨rfl, rfl, rfl, by decide +kernel, rfl, by decide +kernel, by decide +kernel⟩
abbrev s_mark_value : Stmt := topS 17
theorem sc_mark_value : FnScope ["expr", "worth", "folds", "word", "one", "other"] ["expr", "worth", "folds"] (defScope s_mark_value) := ⟨rfl, rfl, rfl, by decide +kernel, rfl, by decide +kernel, by decide +kernel⟩
abbrev s_mark_truth : Stmt := topS 18
theorem sc_mark_truth : FnScope ["cond", "worth", "folds", "word", "one", "other"] ["cond", "worth", "folds"] (defScope s_mark_truth) := ⟨rfl, rfl, rfl, by decide +kernel, rfl, by decide +kernel, by decide +kernel⟩
abbrev s_law_deck : Stmt := topS 20
theorem sc_law_deck : FnScope ["_law_script", "_law_deck_here", "_law_mix", "_law_cell", "_law_rest", "_law_turn"] ["_law_script"] (defScope s_law_deck) := ⟨rfl, rfl, rfl, by decide +kernel, rfl, by decide +kernel, by decide +kernel⟩
abbrev s_law_pick : Stmt := topS 21
theorem sc_law_pick : FnScope ["_law_deck_here", "_law_many"] ["_law_deck_here", "_law_many"] (defScope s_law_pick) := ⟨rfl, rfl, rfl, by decide +kernel, rfl, by decide +kernel, by decide +kernel⟩
abbrev s_law_number : Stmt := topS 22
theorem sc_law_number : FnScope ["_law_deck_here"] ["_law_deck_here"] (defScope s_law_number) := ⟨rfl, rfl, rfl, by decide +kernel, rfl, by decide +kernel, by decide +kernel⟩
abbrev s_law_word : Stmt := topS 23
theorem sc_law_word : FnScope ["_law_deck_here"] ["_law_deck_here"] (defScope s_law_word) := ⟨rfl, rfl, rfl, by decide +kernel, rfl, by decide +kernel, by decide +kernel⟩
abbrev s_law_part : Stmt := topS 24
theorem sc_law_part : FnScope ["_law_deck_here", "_law_text", "_law_cols", "_law_u", "_law_c"] ["_law_deck_here", "_law_text", "_law_cols"] (defScope s_law_part) := ⟨rfl, rfl, rfl, by decide +kernel, rfl, by decide +kernel, by decide +kernel⟩
abbrev s_law_expr : Stmt := topS 25
theorem sc_law_expr : FnScope ["_law_deck_here", "_law_text", "_law_cols", "_law_term", "_law_turn", "_law_way"] ["_law_deck_here", "_law_text", "_law_cols"] (defScope s_law_expr) := ⟨rfl, rfl, rfl, by decide +kernel, rfl, by decide +kernel, by decide +kernel⟩
abbrev s_law_leaf : Stmt := topS 26
theorem sc_law_leaf : FnScope ["_law_deck_here", "_law_cols", "_law_text", "_law_one", "_law_other"] ["_law_deck_here"] (defScope s_law_leaf) := ⟨rfl, rfl, rfl, by decide +kernel, rfl, by decide +kernel, by decide +kernel⟩
abbrev s_law_joined : Stmt := topS 27
theorem sc_law_joined : FnScope ["_law_deck_here", "_law_leaves", "_law_trees", "_law_bones", "_law_turn", "_law_k", "_law_way", "_law_word_here", "_law_leaf_here"] ["_law_deck_here", "_law_leaves"] (defScope s_law_joined) := ⟨rfl, rfl, rfl, by decide +kernel, rfl, by decide +kernel, by decide +kernel⟩
abbrev s_law_level : Stmt := topS 28
theorem sc_law_level : FnScope ["_law_bone", "_law_levels", "_law_one", "_law_other"] ["_law_bone", "_law_levels"] (defScope s_law_level) := ⟨rfl, rfl, rfl, by decide +kernel, rfl, by decide +kernel, by decide +kernel⟩
abbrev s_law_told : Stmt := topS 29
theorem sc_law_told : FnScope ["_law_leaves", "_law_bone", "_law_which", "_law_ways", "_law_leaf_here", "_law_hit", "_law_total", "_law_way", "_law_seen", "_law_code", "_law_rest", "_law_levels", "_law_col"] ["_law_leaves", "_law_bone", "_law_which"] (defScope s_law_told) := ⟨rfl, rfl, rfl, by decide +kernel, rfl, by decide +kernel, by decide +kernel⟩
abbrev s_law_value : Stmt := topS 30
theorem sc_law_value : FnScope ["_law_term", "_law_cells", "_law_one", "_law_other"] ["_law_term", "_law_cells"] (defScope s_law_value) := ⟨rfl, rfl, rfl, by decide +kernel, rfl, by decide +kernel, by decide +kernel⟩
abbrev s_law_leaf_level : Stmt := topS 31
theorem sc_law_leaf_level : FnScope ["_law_leaf_here", "_law_cells", "_law_one", "_law_other", "_law_right"] ["_law_leaf_here", "_law_cells"] (defScope s_law_leaf_level) := ⟨rfl, rfl, rfl, by decide +kernel, rfl, by decide +kernel, by decide +kernel⟩
abbrev s_law_marked : Stmt := topS 32
theorem sc_law_marked : FnScope ["_law_thing"] ["_law_thing"] (defScope s_law_marked) := ⟨rfl, rfl, rfl, by decide +kernel, rfl, by decide +kernel, by decide +kernel⟩
abbrev s_law_same : Stmt := topS 33
theorem sc_law_same : FnScope ["_law_actual", "_law_due"] ["_law_actual", "_law_due"] (defScope s_law_same) := ⟨rfl, rfl, rfl, by decide +kernel, rfl, by decide +kernel, by decide +kernel⟩
abbrev s_law_truth_same : Stmt := topS 34
theorem sc_law_truth_same : FnScope ["_law_actual", "_law_due"] ["_law_actual", "_law_due"] (defScope s_law_truth_same) := ⟨rfl, rfl, rfl, by decide +kernel, rfl, by decide +kernel, by decide +kernel⟩
abbrev s_law_values : Stmt := topS 35
theorem sc_law_values : FnScope ["_law_deck_here", "_law_which", "_law_cells", "_law_u", "_law_c", "_law_value_here"] ["_law_deck_here", "_law_which"] (defScope s_law_values) := ⟨rfl, rfl, rfl, by decide +kernel, rfl, by decide +kernel, by decide +kernel⟩
abbrev s_law_at_values : Stmt := topS 36
theorem sc_law_at_values : FnScope ["_law_test", "_law_bone", "_law_leaves", "_law_cells", "_law_told_here", "_law_levels", "_law_due", "_law_marks", "_law_key", "_law_kept", "_law_sums", "_law_leaf_here", "_law_exprs", "_law_term", "_law_m"] ["_law_test", "_law_bone", "_law_leaves", "_law_cells", "_law_told_here"] (defScope s_law_at_values) := ⟨rfl, rfl, rfl, by decide +kernel, rfl, by decide +kernel, by decide +kernel⟩
abbrev s_law_unit : Stmt := topS 37
theorem sc_law_unit : FnScope ["_law_test", "_law_bone", "_law_leaves", "_law_which", "_law_cells", "_law_told_here", "_law_due", "_law_k"] ["_law_test", "_law_bone", "_law_leaves", "_law_which", "_law_cells"] (defScope s_law_unit) := ⟨rfl, rfl, rfl, by decide +kernel, rfl, by decide +kernel, by decide +kernel⟩
abbrev s_law : Stmt := topS 38
theorem sc_law : FnScope ["_law_script", "_law_deck_here", "_law_turn", "_law_leaves", "_law_made", "_law_one", "_law_which", "_law_cells", "_law_k"] ["_law_script"] (defScope s_law) := ⟨rfl, rfl, rfl, by decide +kernel, rfl, by decide +kernel, by decide +kernel⟩
structure Fs (K : PySem.W.Frag) (mg : Str → Option Value) where
  a_raw_columns : Addr
  d_raw_columns : FuncData
  F_raw_columns : Fun K "raw_columns" "raw_columns" s_raw_columns a_raw_columns d_raw_columns
  b_raw_columns : Binds K d_raw_columns ["thing"] []
  m_raw_columns : mg "raw_columns" = some (.ref a_raw_columns)
  a_collect_raw_columns : Addr
  d_collect_raw_columns : FuncData
  F_collect_raw_columns : Fun K "_collect_raw_columns" "_collect_raw_columns" s_collect_raw_columns a_collect_raw_columns d_collect_raw_columns
  b_collect_raw_columns : Binds K d_collect_raw_columns ["thing", "met"] []
  m_collect_raw_columns : mg "_collect_raw_columns" = some (.ref a_collect_raw_columns)
  a_negated : Addr
  d_negated : FuncData
  F_negated : Fun K "negated" "negated" s_negated a_negated d_negated
  b_negated : Binds K d_negated ["t"] []
  m_negated : mg "negated" = some (.ref a_negated)
  a_perhaps : Addr
  d_perhaps : FuncData
  F_perhaps : Fun K "perhaps" "perhaps" s_perhaps a_perhaps d_perhaps
  b_perhaps : Binds K d_perhaps ["t"] []
  m_perhaps : mg "perhaps" = some (.ref a_perhaps)
  a_both : Addr
  d_both : FuncData
  F_both : Fun K "both" "both" s_both a_both d_both
  b_both : Binds K d_both ["s", "t"] []
  m_both : mg "both" = some (.ref a_both)
  a_either : Addr
  d_either : FuncData
  F_either : Fun K "either" "either" s_either a_either d_either
  b_either : Binds K d_either ["s", "t"] []
  m_either : mg "either" = some (.ref a_either)
  a_compared : Addr
  d_compared : FuncData
  F_compared : Fun K "compared" "compared" s_compared a_compared d_compared
  b_compared : Binds K d_compared ["op", "one", "other"] []
  m_compared : mg "compared" = some (.ref a_compared)
  a_possible : Addr
  d_possible : FuncData
  F_possible : Fun K "possible" "possible" s_possible a_possible d_possible
  b_possible : Binds K d_possible ["cond", "unit"] []
  m_possible : mg "possible" = some (.ref a_possible)
  a_never_on_nulls : Addr
  d_never_on_nulls : FuncData
  F_never_on_nulls : Fun K "never_on_nulls" "never_on_nulls" s_never_on_nulls a_never_on_nulls d_never_on_nulls
  b_never_on_nulls : Binds K d_never_on_nulls ["cond", "unit"] []
  m_never_on_nulls : mg "never_on_nulls" = some (.ref a_never_on_nulls)
  a_reads_unit : Addr
  d_reads_unit : FuncData
  F_reads_unit : Fun K "_reads_unit" "_reads_unit" s_reads_unit a_reads_unit d_reads_unit
  b_reads_unit : Binds K d_reads_unit ["thing", "unit"] []
  m_reads_unit : mg "_reads_unit" = some (.ref a_reads_unit)
  a_truths_told : Addr
  d_truths_told : FuncData
  F_truths_told : Fun K "_truths_told" "_truths_told" s_truths_told a_truths_told d_truths_told
  b_truths_told : Binds K d_truths_told ["triple"] []
  m_truths_told : mg "_truths_told" = some (.ref a_truths_told)
  a_told_truths : Addr
  d_told_truths : FuncData
  F_told_truths : Fun K "_told_truths" "_told_truths" s_told_truths a_told_truths d_told_truths
  b_told_truths : Binds K d_told_truths ["truths"] []
  m_told_truths : mg "_told_truths" = some (.ref a_told_truths)
  a_mark_value : Addr
  d_mark_value : FuncData
  F_mark_value : Fun K "mark_value" "mark_value" s_mark_value a_mark_value d_mark_value
  b_mark_value : Binds K d_mark_value ["expr", "worth", "folds"] []
  m_mark_value : mg "mark_value" = some (.ref a_mark_value)
  a_mark_truth : Addr
  d_mark_truth : FuncData
  F_mark_truth : Fun K "mark_truth" "mark_truth" s_mark_truth a_mark_truth d_mark_truth
  b_mark_truth : Binds K d_mark_truth ["cond", "worth", "folds"] []
  m_mark_truth : mg "mark_truth" = some (.ref a_mark_truth)
  a_law_deck : Addr
  d_law_deck : FuncData
  F_law_deck : Fun K "_law_deck" "_law_deck" s_law_deck a_law_deck d_law_deck
  b_law_deck : Binds K d_law_deck ["_law_script"] []
  m_law_deck : mg "_law_deck" = some (.ref a_law_deck)
  a_law_pick : Addr
  d_law_pick : FuncData
  F_law_pick : Fun K "_law_pick" "_law_pick" s_law_pick a_law_pick d_law_pick
  b_law_pick : Binds K d_law_pick ["_law_deck_here", "_law_many"] []
  m_law_pick : mg "_law_pick" = some (.ref a_law_pick)
  a_law_number : Addr
  d_law_number : FuncData
  F_law_number : Fun K "_law_number" "_law_number" s_law_number a_law_number d_law_number
  b_law_number : Binds K d_law_number ["_law_deck_here"] []
  m_law_number : mg "_law_number" = some (.ref a_law_number)
  a_law_word : Addr
  d_law_word : FuncData
  F_law_word : Fun K "_law_word" "_law_word" s_law_word a_law_word d_law_word
  b_law_word : Binds K d_law_word ["_law_deck_here"] []
  m_law_word : mg "_law_word" = some (.ref a_law_word)
  a_law_part : Addr
  d_law_part : FuncData
  F_law_part : Fun K "_law_part" "_law_part" s_law_part a_law_part d_law_part
  b_law_part : Binds K d_law_part ["_law_deck_here", "_law_text", "_law_cols"] []
  m_law_part : mg "_law_part" = some (.ref a_law_part)
  a_law_expr : Addr
  d_law_expr : FuncData
  F_law_expr : Fun K "_law_expr" "_law_expr" s_law_expr a_law_expr d_law_expr
  b_law_expr : Binds K d_law_expr ["_law_deck_here", "_law_text", "_law_cols"] []
  m_law_expr : mg "_law_expr" = some (.ref a_law_expr)
  a_law_leaf : Addr
  d_law_leaf : FuncData
  F_law_leaf : Fun K "_law_leaf" "_law_leaf" s_law_leaf a_law_leaf d_law_leaf
  b_law_leaf : Binds K d_law_leaf ["_law_deck_here"] []
  m_law_leaf : mg "_law_leaf" = some (.ref a_law_leaf)
  a_law_joined : Addr
  d_law_joined : FuncData
  F_law_joined : Fun K "_law_joined" "_law_joined" s_law_joined a_law_joined d_law_joined
  b_law_joined : Binds K d_law_joined ["_law_deck_here", "_law_leaves"] []
  m_law_joined : mg "_law_joined" = some (.ref a_law_joined)
  a_law_level : Addr
  d_law_level : FuncData
  F_law_level : Fun K "_law_level" "_law_level" s_law_level a_law_level d_law_level
  b_law_level : Binds K d_law_level ["_law_bone", "_law_levels"] []
  m_law_level : mg "_law_level" = some (.ref a_law_level)
  a_law_told : Addr
  d_law_told : FuncData
  F_law_told : Fun K "_law_told" "_law_told" s_law_told a_law_told d_law_told
  b_law_told : Binds K d_law_told ["_law_leaves", "_law_bone", "_law_which"] []
  m_law_told : mg "_law_told" = some (.ref a_law_told)
  a_law_value : Addr
  d_law_value : FuncData
  F_law_value : Fun K "_law_value" "_law_value" s_law_value a_law_value d_law_value
  b_law_value : Binds K d_law_value ["_law_term", "_law_cells"] []
  m_law_value : mg "_law_value" = some (.ref a_law_value)
  a_law_leaf_level : Addr
  d_law_leaf_level : FuncData
  F_law_leaf_level : Fun K "_law_leaf_level" "_law_leaf_level" s_law_leaf_level a_law_leaf_level d_law_leaf_level
  b_law_leaf_level : Binds K d_law_leaf_level ["_law_leaf_here", "_law_cells"] []
  m_law_leaf_level : mg "_law_leaf_level" = some (.ref a_law_leaf_level)
  a_law_marked : Addr
  d_law_marked : FuncData
  F_law_marked : Fun K "_law_marked" "_law_marked" s_law_marked a_law_marked d_law_marked
  b_law_marked : Binds K d_law_marked ["_law_thing"] []
  m_law_marked : mg "_law_marked" = some (.ref a_law_marked)
  a_law_same : Addr
  d_law_same : FuncData
  F_law_same : Fun K "_law_same" "_law_same" s_law_same a_law_same d_law_same
  b_law_same : Binds K d_law_same ["_law_actual", "_law_due"] []
  m_law_same : mg "_law_same" = some (.ref a_law_same)
  a_law_truth_same : Addr
  d_law_truth_same : FuncData
  F_law_truth_same : Fun K "_law_truth_same" "_law_truth_same" s_law_truth_same a_law_truth_same d_law_truth_same
  b_law_truth_same : Binds K d_law_truth_same ["_law_actual", "_law_due"] []
  m_law_truth_same : mg "_law_truth_same" = some (.ref a_law_truth_same)
  a_law_values : Addr
  d_law_values : FuncData
  F_law_values : Fun K "_law_values" "_law_values" s_law_values a_law_values d_law_values
  b_law_values : Binds K d_law_values ["_law_deck_here", "_law_which"] []
  m_law_values : mg "_law_values" = some (.ref a_law_values)
  a_law_at_values : Addr
  d_law_at_values : FuncData
  F_law_at_values : Fun K "_law_at_values" "_law_at_values" s_law_at_values a_law_at_values d_law_at_values
  b_law_at_values : Binds K d_law_at_values ["_law_test", "_law_bone", "_law_leaves", "_law_cells", "_law_told_here"] []
  m_law_at_values : mg "_law_at_values" = some (.ref a_law_at_values)
  a_law_unit : Addr
  d_law_unit : FuncData
  F_law_unit : Fun K "_law_unit" "_law_unit" s_law_unit a_law_unit d_law_unit
  b_law_unit : Binds K d_law_unit ["_law_test", "_law_bone", "_law_leaves", "_law_which", "_law_cells"] []
  m_law_unit : mg "_law_unit" = some (.ref a_law_unit)
  a_law : Addr
  d_law : FuncData
  F_law : Fun K "law" "law" s_law a_law d_law
  b_law : Binds K d_law ["_law_script"] []
  m_law : mg "law" = some (.ref a_law)
structure Bt (K : PySem.W.Frag) (mg : Str → Option Value) : Prop where
  b_abs : mg "abs" = none
  b_any : mg "any" = none
  b_bool : mg "bool" = none
  b_int : mg "int" = none
  b_isinstance : mg "isinstance" = none
  b_len : mg "len" = none
  b_list : mg "list" = none
  b_max : mg "max" = none
  b_min : mg "min" = none
  b_range : mg "range" = none
  b_str : mg "str" = none
  b_tuple : mg "tuple" = none
  b_zip : mg "zip" = none
  c_RAW_LEAVES : Cst K mg "RAW_LEAVES" (.tuple [(.str "num"), (.str "text"), (.str "agg"), (.str "mark")])
inductive Op6 where
  | eq | ne | lt | le | gt | ge
def Op6.word : Op6 → Str
  | .eq => "="
  | .ne => "<>"
  | .lt => "<"
  | .le => "<="
  | .gt => ">"
  | .ge => ">="
inductive Bop where
  | add | sub | mul
def Bop.word : Bop → Str
  | .add => "add"
  | .sub => "sub"
  | .mul => "mul"
inductive Xp where
  | num (i : Int)
  | txt (x : Str)
  | col (u c : Nat)
  | neg (e : Xp)
  | bin (o : Bop) (a b : Xp)
inductive Lf where
  | nul (e : Xp)
  | cmp (o : Op6) (a b : Xp)
inductive Cd where
  | leaf (k : Nat)
  | no (c : Cd)
  | may (c : Cd)
  | and (a b : Cd)
  | or (a b : Cd)
def encC (q : Nat × Nat) : D := .tuple [.int (q.1 : Int), .int (q.2 : Int)]
def encX : Xp → D
  | .num i => .tuple [.str "num", .int i]
  | .txt x => .tuple [.str "text", .str x]
  | .col u c => .tuple [.str "col", .int (u : Int), .int (c : Int)]
  | .neg e => .tuple [.str "neg", encX e]
  | .bin o a b => .tuple [.str o.word, encX a, encX b]
def encL : Lf → D
  | .nul e => .tuple [.str "null", encX e]
  | .cmp o a b => .tuple [.str "cmp", .str o.word, encX a, encX b]
def encT (ls : Nat → D) : Cd → D
  | .leaf k => ls k
  | .no c => .tuple [.str "not", encT ls c]
  | .may c => .tuple [.str "maybe", encT ls c]
  | .and a b => .tuple [.str "and", encT ls a, encT ls b]
  | .or a b => .tuple [.str "or", encT ls a, encT ls b]
def encB : Cd → D := encT fun k => .tuple [.str "leaf", .int (k : Int)]
def mrkX : Xp → D
  | .num i => .tuple [.str "num", .int i]
  | .txt x => .tuple [.str "text", .str x]
  | .col u c => if u = 3 then .tuple [.str "agg", .int (c : Int)] else .tuple [.str "mark", .int (7 * (u : Int) + 3 * (c : Int))]
  | .neg e => .tuple [.str "neg", mrkX e]
  | .bin o a b => .tuple [.str o.word, mrkX a, mrkX b]
def mrkL : Lf → D
  | .nul e => .tuple [.str "null", mrkX e]
  | .cmp o a b => .tuple [.str "cmp", .str o.word, mrkX a, mrkX b]
def hX : Xp → Nat
  | .num _ => 1
  | .txt _ => 1
  | .col _ _ => 1
  | .neg e => hX e + 1
  | .bin _ a b => max (hX a) (hX b) + 1
def hL : Lf → Nat
  | .nul e => hX e + 1
  | .cmp _ a b => max (hX a) (hX b) + 1
def hC (m : Nat) : Cd → Nat
  | .leaf _ => m
  | .no c => hC m c + 1
  | .may c => hC m c + 1
  | .and a b => max (hC m a) (hC m b) + 1
  | .or a b => max (hC m a) (hC m b) + 1
def leavesC : Cd → List Nat
  | .leaf k => [k]
  | .no c => leavesC c
  | .may c => leavesC c
  | .and a b => leavesC a ++ leavesC b
  | .or a b => leavesC a ++ leavesC b
def colsX : Xp → List (Nat × Nat)
  | .num _ => []
  | .txt _ => []
  | .col u c => [(u, c)]
  | .neg e => colsX e
  | .bin _ a b => colsX a ++ colsX b
def colsL : Lf → List (Nat × Nat)
  | .nul e => colsX e
  | .cmp _ a b => colsX a ++ colsX b
def isPt : Xp → Prop
  | .num _ => True
  | .col _ _ => True
  | _ => False
def numX : Xp → Prop
  | .num i => -1000000000 ≤ i ∧ i ≤ 1000000000
  | .txt _ => False
  | .col u c => u < 4 ∧ c < 2
  | .neg e => numX e
  | .bin _ a b => numX a ∧ numX b ∧ (isPt a ∨ isPt b)
def txtX : Xp → Prop
  | .txt _ => True
  | .col u c => u < 4 ∧ c = 2
  | _ => False
def kindX (t : Bool) (e : Xp) : Prop := if t = true then txtX e else numX e
def WfL (l : Lf) : Prop := ∃ t, match l with
  | .nul e => kindX t e ∧ hX e ≤ 4
  | .cmp _ a b => kindX t a ∧ kindX t b ∧ hX a ≤ 4 ∧ hX b ≤ 4
abbrev Lv := Lf × List (Nat × Nat)
def encLv (x : Lv) : D := .tuple [encL x.1, .list (x.2.map encC)]
def GoodLv (x : Lv) : Prop := WfL x.1 ∧ (∀ q, q ∈ x.2 ↔ q ∈ colsL x.1) ∧ x.2.length ≤ 100
def lsOf (g : Lf → D) (lvs : List Lv) (k : Nat) : D := match lvs[k]? with
  | some x => g x.1
  | none => .none
def hitL (l : Lf) (u : Int) : Bool := (colsL l).any fun q => decide ((q.1 : Int) = u)
abbrev Lev := Nat → Bool
def levL (hit : Bool) : Lf → Lev
  | .nul _, k => if k = 2 then true else if k = 0 then !hit else false
  | .cmp _ _ _, k => if k = 1 then true else if k = 2 then !hit else if k = 0 then !hit else false
def lev2 (g : Nat → Nat → Nat) (s t : Lev) : Lev := fun k => [0, 1, 2].any fun x => [0, 1, 2].any fun y => s x && t y && decide (g x y = k)
def lev1 (g : Nat → Nat) (s : Lev) : Lev := fun k => [0, 1, 2].any fun x => s x && decide (g x = k)
def levC (f : Nat → Lev) : Cd → Lev
  | .leaf k => f k
  | .no c => lev1 (fun x => 2 - x) (levC f c)
  | .may c => lev1 (fun x => if 0 < x then 2 else 0) (levC f c)
  | .and a b => lev2 min (levC f a) (levC f b)
  | .or a b => lev2 max (levC f a) (levC f b)
def atC (f : Nat → Nat) : Cd → Nat
  | .leaf k => f k
  | .no c => 2 - atC f c
  | .may c => if 0 < atC f c then 2 else 0
  | .and a b => min (atC f a) (atC f b)
  | .or a b => max (atC f a) (atC f b)
def trD : Nat → D
  | 0 => .bool false
  | 1 => .none
  | _ => .bool true
def trip (s : Lev) : D := .tuple [.bool (s 2), .bool (s 0), .bool (s 1)]
def trues (s : Lev) : List D := (if s 2 then [.bool true] else []) ++ (if s 0 then [.bool false] else []) ++ (if s 1 then [.none] else [])
def levOf (lvs : List Lv) (u : Int) (k : Nat) : Lev := match lvs[k]? with
  | some x => levL (hitL x.1 u) x.1
  | none => fun _ => false
def negV : D → D
  | .int i => .int (-i)
  | _ => .none
def binV : Bop → D → D → D
  | .add, .int i, .int j => .int (i + j)
  | .sub, .int i, .int j => .int (i - j)
  | .mul, .int i, .int j => .int (i * j)
  | _, _, _ => .none
def valX (cv : Nat → Nat → D) : Xp → D
  | .num i => .int i
  | .txt x => .str x
  | .col u c => cv u c
  | .neg e => negV (valX cv e)
  | .bin o a b => binV o (valX cv a) (valX cv b)
def cmpD : Op6 → D → D → Bool
  | .eq, x, y => PyData.eqv x y
  | .ne, x, y => !PyData.eqv x y
  | .lt, x, y => PySem.W.dataLt x y
  | .le, x, y => !PySem.W.dataLt y x
  | .gt, x, y => PySem.W.dataLt y x
  | .ge, x, y => !PySem.W.dataLt x y
def cmpN (o : Op6) (x y : D) : Nat := if isNoneD x || isNoneD y then 1 else if cmpD o x y then 2 else 0
def atL (cv : Nat → Nat → D) : Lf → Nat
  | .nul e => if isNoneD (valX cv e) then 2 else 0
  | .cmp o a b => cmpN o (valX cv a) (valX cv b)
def atLv (cv : Nat → Nat → D) (lvs : List Lv) (k : Nat) : Nat := match lvs[k]? with
  | some x => atL cv x.1
  | none => 0
def isNum (d : D) : Prop := d = .none ∨ ∃ i, d = .int i
def isTxt (d : D) : Prop := d = .none ∨ ∃ x, d = .str x
def kindV (t : Bool) (d : D) : Prop := if t = true then isTxt d else isNum d
def smallV (d : D) : Prop := d = .none ∨ ∃ i : Int, d = .int i ∧ -1000000000 ≤ i ∧ i ≤ 1000000000
def GoodCv (cv : Nat → Nat → D) : Prop := ∀ u c, u < 4 → (c < 2 → smallV (cv u c)) ∧ (c = 2 → isTxt (cv u c))
def uc12 : List (Nat × Nat) := [(0, 0), (0, 1), (0, 2), (1, 0), (1, 1), (1, 2), (2, 0), (2, 1), (2, 2), (3, 0), (3, 1), (3, 2)]
def uc9 : List (Nat × Nat) := [(0, 0), (0, 1), (0, 2), (1, 0), (1, 1), (1, 2), (2, 0), (2, 1), (2, 2)]
def ucK (q : Nat × Nat) : List Key := [.inl (q.1 : Int), .inl (q.2 : Int)]
def mkK (q : Nat × Nat) : Key := .inl (7 * (q.1 : Int) + 3 * (q.2 : Int))
def cellsK (cv : Nat → Nat → D) : List (List Key × D) := uc12.map fun q => (ucK q, cv q.1 q.2)
def marksK (cv : Nat → Nat → D) : List (Key × D) := uc9.map fun q => (mkK q, cv q.1 q.2)
def foldsD (cv : Nat → Nat → D) : D := .tuple [cv 3 0, cv 3 1, cv 3 2]
inductive Cols : Nat → D → List (Nat × Nat) → Prop
  | col {n u c} : Cols (n + 1) (.tuple [.str "col", .int (u : Nat), .int (c : Nat)]) [(u, c)]
  | one {n d} {w : Str} : w ≠ "col" → (∀ xs, d ≠ .tuple xs) → Cols (n + 1) (.tuple [.str w, d]) []
  | neg {n d cs} {w : Str} : w ≠ "col" → w ∉ (["num", "text", "agg", "mark"] : List Str) → Cols n (.tuple d) cs → Cols (n + 1) (.tuple [.str w, .tuple d]) cs
  | two {n d e cs ds} {w : Str} : w ≠ "col" → w ∉ (["num", "text", "agg", "mark"] : List Str) → Cols n (.tuple d) cs → Cols n (.tuple e) ds → Cols (n + 1) (.tuple [.str w, .tuple d, .tuple e]) (cs ++ ds)
  | three {n o d e cs ds} {w : Str} : w ≠ "col" → w ∉ (["num", "text", "agg", "mark"] : List Str) → Cols n (.tuple d) cs → Cols n (.tuple e) ds → Cols (n + 1) (.tuple [.str w, .str o, .tuple d, .tuple e]) (cs ++ ds)
def addC (acc : List (Nat × Nat)) (q : Nat × Nat) : List (Nat × Nat) := if q ∈ acc then acc else acc ++ [q]
def sp_collect_raw_columns (n : Nat) : DSp := fun as Q => ∃ (d : D) (cs acc : List (Nat × Nat)) (p : Addr), as = [.dt d, .ow p (.lst (acc.map encC))] ∧ Cols n d cs ∧ acc.length + cs.length ≤ 1000 ∧ Q (.dt .none) [.un, .ow p (.lst ((cs.foldl addC acc).map encC))]
def sp_raw_columns : DSp := fun as Q => ∃ (d : D) (cs : List (Nat × Nat)), as = [.dt d] ∧ Cols 20 d cs ∧ cs.length ≤ 1000 ∧ Q (.dt (.tuple ((cs.foldl addC []).map encC))) [.un]
def sp_reads_unit : DSp := fun as Q => ∃ (d : D) (cs : List (Nat × Nat)) (u : Int), as = [.dt d, .dt (.int u)] ∧ Cols 20 d cs ∧ cs.length ≤ 1000 ∧ Q (.dt (.bool (cs.any fun q => decide ((q.1 : Int) = u)))) [.un, .un]
def sp_negated : DSp := fun as Q => ∃ k, k ≤ 2 ∧ as = [.dt (trD k)] ∧ Q (.dt (trD (2 - k))) [.un]
def sp_perhaps : DSp := fun as Q => ∃ k, k ≤ 2 ∧ as = [.dt (trD k)] ∧ Q (.dt (trD (if 0 < k then 2 else 0))) [.un]
def sp_both : DSp := fun as Q => ∃ j k, j ≤ 2 ∧ k ≤ 2 ∧ as = [.dt (trD j), .dt (trD k)] ∧ Q (.dt (trD (min j k))) [.un, .un]
def sp_either : DSp := fun as Q => ∃ j k, j ≤ 2 ∧ k ≤ 2 ∧ as = [.dt (trD j), .dt (trD k)] ∧ Q (.dt (trD (max j k))) [.un, .un]
def sp_compared : DSp := fun as Q => ∃ (o : Op6) (x y : D) (t : Bool), as = [.dt (.str o.word), .dt x, .dt y] ∧ kindV t x ∧ kindV t y ∧ Q (.dt (trD (cmpN o x y))) [.un, .un, .un]
def sp_truths_told : DSp := fun as Q => ∃ s : Lev, as = [.dt (trip s)] ∧ Q (.dt (.list (trues s))) [.un]
def sp_told_truths : DSp := fun as Q => ∃ ks : List Nat, (∀ k ∈ ks, k ≤ 2) ∧ ks.length ≤ 1000 ∧ as = [.dt (.list (ks.map trD))] ∧ Q (.dt (trip fun k => decide (k ∈ ks))) [.un]
def sp_possible (n : Nat) : DSp := fun as Q => ∃ (lvs : List Lv) (c : Cd) (u : Int), as = [.dt (encT (lsOf encL lvs) c), .dt (.int u)] ∧ (∀ x ∈ lvs, GoodLv x) ∧ (∀ k ∈ leavesC c, k < lvs.length) ∧ hC 1 c ≤ n ∧ Q (.dt (trip (levC (levOf lvs u) c))) [.un, .un]
def sp_never_on_nulls : DSp := fun as Q => ∃ (lvs : List Lv) (c : Cd) (u : Int), as = [.dt (encT (lsOf encL lvs) c), .dt (.int u)] ∧ (∀ x ∈ lvs, GoodLv x) ∧ (∀ k ∈ leavesC c, k < lvs.length) ∧ hC 1 c ≤ 40 ∧ Q (.dt (.bool (!levC (levOf lvs u) c 2))) [.un, .un]
def sp_mark_value (n : Nat) : DSp := fun as Q => ∃ (e : Xp) (cv : Nat → Nat → D) (p : Addr) (t : Bool), as = [.dt (mrkX e), .ow p (OD.dk (marksK cv)), .dt (foldsD cv)] ∧ kindX t e ∧ GoodCv cv ∧ hX e ≤ n ∧ Q (.dt (valX cv e)) [.un, .ow p (OD.dk (marksK cv)), .un]
def sp_mark_truth (n : Nat) : DSp := fun as Q => ∃ (lvs : List Lv) (c : Cd) (cv : Nat → Nat → D) (p : Addr), as = [.dt (encT (lsOf mrkL lvs) c), .ow p (OD.dk (marksK cv)), .dt (foldsD cv)] ∧ (∀ x ∈ lvs, GoodLv x) ∧ (∀ k ∈ leavesC c, k < lvs.length) ∧ GoodCv cv ∧ hC 1 c ≤ n ∧
  Q (.dt (trD (atC (atLv cv lvs) c))) [.un, .ow p (OD.dk (marksK cv)), .un]
abbrev deck (p : Addr) (ns : List Int) : SD := .ow p (.lst (ns.map PyData.int))
def IsDk (s : SD) : Prop := (∃ p ns, s = deck p ns) ∨ s = .dt (.list [])
def DkTo (s s' : SD) : Prop := (∃ p ns ns', s = deck p ns ∧ s' = deck p ns') ∨ (s = .dt (.list []) ∧ s' = .dt (.list []))
def sp_law_deck : DSp := fun as Q => ∃ (ns : List Int), as = [.dt (.list (ns.map .int))] ∧ ns.length ≤ 63 ∧ ∀ ns' : List Int, Q (.new (ns'.map .int)) [.un]
def sp_law_pick : DSp := fun as Q => ∃ (s : SD) (m : Int), as = [s, .dt (.int m)] ∧ IsDk s ∧ 0 < m ∧ ∀ (r : Int) (s' : SD), 0 ≤ r → r < m → DkTo s s' → Q (.dt (.int r)) [oneOut s s', .un]
def sp_law_number : DSp := fun as Q => ∃ (s : SD), as = [s] ∧ IsDk s ∧ ∀ (r : Int) (s' : SD), 0 ≤ r → r ≤ 999999999 → DkTo s s' → Q (.dt (.int r)) [oneOut s s']
def sp_law_word : DSp := fun as Q => ∃ (s : SD), as = [s] ∧ IsDk s ∧ ∀ (x : Str) (s' : SD), DkTo s s' → Q (.dt (.str x)) [oneOut s s']
abbrev colsO (p : Addr) (cs : List (Nat × Nat)) : SD := .ow p (.lst (cs.map encC))
def sp_law_part : DSp := fun as Q => ∃ (p pc : Addr) (ns : List Int) (t : Bool) (cs : List (Nat × Nat)), as = [deck p ns, .dt (.bool t), colsO pc cs] ∧ cs.length ≤ 1000 ∧
  ∀ (e : Xp) (ns' : List Int) (cs' : List (Nat × Nat)), kindX t e → hX e = 1 → (t = false → isPt e) → (∀ q, q ∈ cs' ↔ q ∈ cs ∨ q ∈ colsX e) → cs'.length ≤ cs.length + 1 → Q (.dt (encX e)) [deck p ns', .un, colsO pc cs']
def sp_law_expr : DSp := fun as Q => ∃ (p pc : Addr) (ns : List Int) (t : Bool) (cs : List (Nat × Nat)), as = [deck p ns, .dt (.bool t), colsO pc cs] ∧ cs.length ≤ 500 ∧
  ∀ (e : Xp) (ns' : List Int) (cs' : List (Nat × Nat)), kindX t e → hX e ≤ 4 → (∀ q, q ∈ cs' ↔ q ∈ cs ∨ q ∈ colsX e) → cs'.length ≤ cs.length + 4 → Q (.dt (encX e)) [deck p ns', .un, colsO pc cs']
def sp_law_leaf : DSp := fun as Q => ∃ (p : Addr) (ns : List Int), as = [deck p ns] ∧ ∀ (x : Lv) (ns' : List Int), GoodLv x → Q (.dt (encLv x)) [deck p ns']
def sp_law_joined : DSp := fun as Q => ∃ (p : Addr) (ns : List Int) (lvs : List Lv), as = [deck p ns, .dt (.list (lvs.map encLv))] ∧ 1 ≤ lvs.length ∧ lvs.length ≤ 5 ∧
  ∀ (c : Cd) (ns' : List Int), leavesC c = List.range lvs.length → hC 1 c ≤ 40 → Q (.dt (.tuple [encT (lsOf encL lvs) c, encB c])) [deck p ns', .un]
def sp_law_level (n : Nat) : DSp := fun as Q => ∃ (c : Cd) (fs : List Nat), as = [.dt (encB c), .dt (.list (fs.map fun k : Nat => .int (k : Int)))] ∧ (∀ k ∈ leavesC c, k < fs.length) ∧ (∀ x ∈ fs, x ≤ 2) ∧ hC 1 c ≤ n ∧ Q (.dt (.int (atC (fun k => fs.getD k 0) c : Nat))) [.un, .un]
def sp_law_told : DSp := fun as Q => ∃ (lvs : List Lv) (c : Cd) (u : Int), as = [.dt (.list (lvs.map encLv)), .dt (encB c), .dt (.int u)] ∧ (∀ x ∈ lvs, GoodLv x) ∧ leavesC c = List.range lvs.length ∧ lvs.length ≤ 5 ∧ hC 1 c ≤ 40 ∧
  Q (.dt (.list [.bool (levC (levOf lvs u) c 2), .bool (levC (levOf lvs u) c 0), .bool (levC (levOf lvs u) c 1)])) [.un, .un, .un]
def sp_law_value (n : Nat) : DSp := fun as Q => ∃ (e : Xp) (cv : Nat → Nat → D) (p : Addr) (t : Bool), as = [.dt (encX e), .ow p (OD.dt (cellsK cv))] ∧ kindX t e ∧ GoodCv cv ∧ hX e ≤ n ∧ Q (.dt (valX cv e)) [.un, .ow p (OD.dt (cellsK cv))]
def sp_law_leaf_level : DSp := fun as Q => ∃ (l : Lf) (cv : Nat → Nat → D) (p : Addr), as = [.dt (encL l), .ow p (OD.dt (cellsK cv))] ∧ WfL l ∧ GoodCv cv ∧ Q (.dt (.int (atL cv l : Nat))) [.un, .ow p (OD.dt (cellsK cv))]
inductive Mrk : Nat → D → D → Prop
  | col {n u c} : u < 4 → c < 3 → Mrk (n + 1) (encX (.col u c)) (mrkX (.col u c))
  | num {n i} : Mrk (n + 1) (encX (.num i)) (encX (.num i))
  | txt {n x} : Mrk (n + 1) (encX (.txt x)) (encX (.txt x))
  | cmp {n o a b a' b'} : Mrk n a a' → Mrk n b b' → Mrk (n + 1) (.tuple [.str "cmp", .str o, a, b]) (.tuple [.str "cmp", .str o, a', b'])
  | one {n a a'} {w : Str} : w ∉ (["col", "cmp", "num", "text"] : List Str) → Mrk n a a' → Mrk (n + 1) (.tuple [.str w, a]) (.tuple [.str w, a'])
  | two {n a b a' b'} {w : Str} : w ∉ (["col", "cmp", "num", "text"] : List Str) → Mrk n a a' → Mrk n b b' → Mrk (n + 1) (.tuple [.str w, a, b]) (.tuple [.str w, a', b'])
def sp_law_marked (n : Nat) : DSp := fun as Q => ∃ (d d' : D), as = [.dt d] ∧ Mrk n d d' ∧ Q (.dt d') [.un]
def sp_law_same : DSp := fun as Q => ∃ (d : D) (t : Bool), as = [.dt d, .dt d] ∧ kindV t d ∧ Q (.dt (.bool true)) [.un, .un]
def sp_law_truth_same : DSp := fun as Q => ∃ (j k : Nat), j ≤ 2 ∧ k ≤ 2 ∧ as = [.dt (trD j), .dt (trD k)] ∧ Q (.dt (.bool (decide (j = k)))) [.un, .un]
def sp_law_values : DSp := fun as Q => ∃ (s : SD) (w : Int), as = [s, .dt (.int w)] ∧ IsDk s ∧ ∀ (cv : Nat → Nat → D) (s' : SD), GoodCv cv → (∀ u c : Nat, (u : Int) = w → cv u c = .none) → DkTo s s' → Q (.obj (apT (cellsK cv))) [oneOut s s', .un]
def sp_law_at_values : DSp := fun as Q => ∃ (lvs : List Lv) (c : Cd) (cv : Nat → Nat → D) (p : Addr) (told : D), as = [.dt (encT (lsOf encL lvs) c), .dt (encB c), .dt (.list (lvs.map encLv)), .ow p (OD.dt (cellsK cv)), .dt told] ∧ (∀ x ∈ lvs, GoodLv x) ∧ leavesC c = List.range lvs.length ∧ lvs.length ≤ 5 ∧ hC 1 c ≤ 40 ∧ GoodCv cv ∧
  (told = .none ∨ ∃ s : Lev, told = trip s ∧ s (atC (atLv cv lvs) c) = true) ∧ Q (.dt (.bool true)) [.un, .un, .un, .ow p (OD.dt (cellsK cv)), .un]
def sp_law_unit : DSp := fun as Q => ∃ (lvs : List Lv) (c : Cd) (cv : Nat → Nat → D) (p : Addr) (w : Nat), as = [.dt (encT (lsOf encL lvs) c), .dt (encB c), .dt (.list (lvs.map encLv)), .dt (.int (w : Int)), .ow p (OD.dt (cellsK cv))] ∧ (∀ x ∈ lvs, GoodLv x) ∧ leavesC c = List.range lvs.length ∧ lvs.length ≤ 5 ∧ hC 1 c ≤ 40 ∧ GoodCv cv ∧
  (∀ c, cv w c = .none) ∧ Q (.dt (.bool true)) [.un, .un, .un, .un, .ow p (OD.dt (cellsK cv))]
def rd_raw_columns (n_collect_raw_columns : Nat) : TDS := (sSeq (sOwn (dLst dNil) 1) (sSeq (sDrop (dCallF (sp_collect_raw_columns n_collect_raw_columns) (cCons (dVar 0) (cLendT 1 cNil)))) (sRet (dCall tupleD (dCons (dFrz 1) dNil)))))
def rd_collect_raw_columns (n : Nat) : TDS := (sIf (dTest (dOp eqD (dOp ixD (dVar 0) (dC (.int 0))) (dC (.str "col")))) (sSeq (sAsg (dTup (dCons (dOp ixD (dVar 0) (dC (.int 1))) (dCons (dOp ixD (dVar 0) (dC (.int 2))) dNil))) (dgName 2)) (sIf (dTest (dInO true 1 (dVar 2))) (sApp 1 (dVar 2)) sNext)) (sIf (dTest (dOp notInD (dOp ixD (dVar 0) (dC (.int 0))) (dC (.tuple [(.str "num"), (.str "text"), (.str "agg"), (.str "mark")])))) (sFor (iTupD (dSl (dVar 0) (dPart (dC (.int 1))) dNoPart)) (dgName 3) (sIf (dTest (dIsi "tuple" (dVar 3))) (sDrop (dCallF (sp_collect_raw_columns n) (cCons (dVar 3) (cLendT 1 cNil)))) sNext)) sNext))
def rd_negated : TDS := (sSeq (sIf (dTest (dIsN (dVar 0))) (sRet (dC .none)) sNext) (sRet (dNotV (dVar 0))))
def rd_perhaps : TDS := (sRet (dNotB false (dVar 0)))
def rd_both : TDS := (sSeq (sIf (dOr (dTest (dIsB false (dVar 0))) (dTest (dIsB false (dVar 1)))) (sRet (dC (.bool false))) sNext) (sSeq (sIf (dOr (dTest (dIsN (dVar 0))) (dTest (dIsN (dVar 1)))) (sRet (dC .none)) sNext) (sRet (dC (.bool true)))))
def rd_either : TDS := (sSeq (sIf (dOr (dTest (dIsB true (dVar 0))) (dTest (dIsB true (dVar 1)))) (sRet (dC (.bool true))) sNext) (sSeq (sIf (dOr (dTest (dIsN (dVar 0))) (dTest (dIsN (dVar 1)))) (sRet (dC .none)) sNext) (sRet (dC (.bool false)))))
def rd_compared : TDS := (sSeq (sIf (dOr (dTest (dIsN (dVar 1))) (dTest (dIsN (dVar 2)))) (sRet (dC .none)) sNext) (sSeq (sIf (dTest (dOp eqD (dVar 0) (dC (.str "=")))) (sRet (dOp eqD (dVar 1) (dVar 2))) sNext) (sSeq (sIf (dTest (dOp eqD (dVar 0) (dC (.str "<>")))) (sRet (dOp neD (dVar 1) (dVar 2))) sNext) (sSeq (sIf (dTest (dOp eqD (dVar 0) (dC (.str "<")))) (sRet (dOp ltD (dVar 1) (dVar 2))) sNext) (sSeq (sIf (dTest (dOp eqD (dVar 0) (dC (.str "<=")))) (sRet (dOp leD (dVar 1) (dVar 2))) sNext) (sSeq (sIf (dTest (dOp eqD (dVar 0) (dC (.str ">")))) (sRet (dOp gtD (dVar 1) (dVar 2))) sNext) (sRet (dOp geD (dVar 1) (dVar 2)))))))))
def rd_possible (n : Nat) : TDS := (sSeq (sAsg (dOp ixD (dVar 0) (dC (.int 0))) (dgName 2)) (sSeq (sIf (dTest (dOp eqD (dVar 2) (dC (.str "cmp")))) (sSeq (sAsg (dCallF sp_reads_unit (cCons (dVar 0) (cCons (dVar 1) cNil))) (dgName 3)) (sRet (dTup (dCons (dNotV (dVar 3)) (dCons (dNotV (dVar 3)) (dCons (dC (.bool true)) dNil)))))) sNext) (sSeq (sIf (dTest (dOp eqD (dVar 2) (dC (.str "null")))) (sRet (dTup (dCons (dC (.bool true)) (dCons (dNotV (dCallF sp_reads_unit (cCons (dVar 0) (cCons (dVar 1) cNil)))) (dCons (dC (.bool false)) dNil))))) sNext) (sSeq (sAsg (dCallF sp_truths_told (cCons (dCallF (sp_possible n) (cCons (dOp ixD (dVar 0) (dC (.int 1))) (cCons (dVar 1) cNil))) cNil)) (dgName 4)) (sSeq (sIf (dTest (dOp eqD (dVar 2) (dC (.str "not")))) (sRet (dCallF sp_told_truths (cCons (dN (dLc (iLst (dVar 4)) (dgName 6) dYes (dCallF sp_negated (cCons (dVar 6) cNil)) [6])) cNil))) sNext) (sSeq (sIf (dTest (dOp eqD (dVar 2) (dC (.str "maybe")))) (sRet (dCallF sp_told_truths (cCons (dN (dLc (iLst (dVar 4)) (dgName 6) dYes (dCallF sp_perhaps (cCons (dVar 6) cNil)) [6])) cNil))) sNext) (sSeq (sAsg (dCallF sp_truths_told (cCons (dCallF (sp_possible n) (cCons (dOp ixD (dVar 0) (dC (.int 2))) (cCons (dVar 1) cNil))) cNil)) (dgName 5)) (sSeq (sIf (dTest (dOp eqD (dVar 2) (dC (.str "and")))) (sRet (dCallF sp_told_truths (cCons (dN (dLc2 (iLst (dVar 4)) (dgName 6) dYes (iLst (dVar 5)) (dgName 7) dYes (dCallF sp_both (cCons (dVar 6) (cCons (dVar 7) cNil))) [6, 7] [7])) cNil))) sNext) (sRet (dCallF sp_told_truths (cCons (dN (dLc2 (iLst (dVar 4)) (dgName 6) dYes (iLst (dVar 5)) (dgName 7) dYes (dCallF sp_either (cCons (dVar 6) (cCons (dVar 7) cNil))) [6, 7] [7])) cNil)))))))))))
def rd_never_on_nulls (n_possible : Nat) : TDS := (sRet (dNotV (dOp ixD (dCallF (sp_possible n_possible) (cCons (dVar 0) (cCons (dVar 1) cNil))) (dC (.int 0)))))
def rd_reads_unit : TDS := (sRet (dCall (boolsD fun bs => bs.any id) (dCons (dN (dLc (iTupD (dCallF sp_raw_columns (cCons (dVar 0) cNil))) (dgTup 2 (dgCons (dgName 2) (dgCons (dgName 3) dgNil))) dYes (dOp eqD (dVar 2) (dVar 1)) [2, 3])) dNil)))
def rd_truths_told : TDS := (sRet (dN (dLc (iZipD (dCons (dTup (dCons (dC (.bool true)) (dCons (dC (.bool false)) (dCons (dC .none) dNil)))) (dCons (dVar 0) dNil))) (dgTup 2 (dgCons (dgName 1) (dgCons (dgName 2) dgNil))) (dTest (dVar 2)) (dVar 1) [1, 2])))
def rd_told_truths : TDS := (sRet (dTup (dCons (dCall (boolsD fun bs => bs.any id) (dCons (dN (dLc (iLst (dVar 0)) (dgName 1) dYes (dIsB true (dVar 1)) [1])) dNil)) (dCons (dCall (boolsD fun bs => bs.any id) (dCons (dN (dLc (iLst (dVar 0)) (dgName 1) dYes (dIsB false (dVar 1)) [1])) dNil)) (dCons (dCall (boolsD fun bs => bs.any id) (dCons (dN (dLc (iLst (dVar 0)) (dgName 1) dYes (dIsN (dVar 1)) [1])) dNil)) dNil)))))
def rd_mark_value (n : Nat) : TDS := (sSeq (sAsg (dOp ixD (dVar 0) (dC (.int 0))) (dgName 3)) (sSeq (sIf (dTest (dOp eqD (dVar 3) (dC (.str "mark")))) (sRet (dLook 1 (dOp ixD (dVar 0) (dC (.int 1))))) sNext) (sSeq (sIf (dTest (dOp eqD (dVar 3) (dC (.str "agg")))) (sRet (dOp ixD (dVar 2) (dOp ixD (dVar 0) (dC (.int 1))))) sNext) (sSeq (sIf (dOr (dTest (dOp eqD (dVar 3) (dC (.str "num")))) (dTest (dOp eqD (dVar 3) (dC (.str "text"))))) (sRet (dOp ixD (dVar 0) (dC (.int 1)))) sNext) (sSeq (sAsg (dCallF (sp_mark_value n) (cCons (dOp ixD (dVar 0) (dC (.int 1))) (cLendT 1 (cCons (dVar 2) cNil)))) (dgName 4)) (sSeq (sIf (dTest (dOp eqD (dVar 3) (dC (.str "neg")))) (sRet (dIf (dTest (dIsN (dVar 4))) (dC .none) (dNeg (dVar 4)))) sNext) (sSeq (sAsg (dCallF (sp_mark_value n) (cCons (dOp ixD (dVar 0) (dC (.int 2))) (cLendT 1 (cCons (dVar 2) cNil)))) (dgName 5)) (sSeq (sIf (dOr (dTest (dIsN (dVar 4))) (dTest (dIsN (dVar 5)))) (sRet (dC .none)) sNext) (sSeq (sIf (dTest (dOp eqD (dVar 3) (dC (.str "add")))) (sRet (dOp addD (dVar 4) (dVar 5))) sNext) (sSeq (sIf (dTest (dOp eqD (dVar 3) (dC (.str "sub")))) (sRet (dOp subD (dVar 4) (dVar 5))) sNext) (sRet (dOp mulD (dVar 4) (dVar 5)))))))))))))
def rd_mark_truth (n : Nat) (n_mark_value : Nat) : TDS := (sSeq (sAsg (dOp ixD (dVar 0) (dC (.int 0))) (dgName 3)) (sSeq (sIf (dTest (dOp eqD (dVar 3) (dC (.str "cmp")))) (sRet (dCallF sp_compared (cCons (dOp ixD (dVar 0) (dC (.int 1))) (cCons (dCallF (sp_mark_value n_mark_value) (cCons (dOp ixD (dVar 0) (dC (.int 2))) (cLendT 1 (cCons (dVar 2) cNil)))) (cCons (dCallF (sp_mark_value n_mark_value) (cCons (dOp ixD (dVar 0) (dC (.int 3))) (cLendT 1 (cCons (dVar 2) cNil)))) cNil))))) sNext) (sSeq (sIf (dTest (dOp eqD (dVar 3) (dC (.str "null")))) (sRet (dIsN (dCallF (sp_mark_value n_mark_value) (cCons (dOp ixD (dVar 0) (dC (.int 1))) (cLendT 1 (cCons (dVar 2) cNil)))))) sNext) (sSeq (sAsg (dCallF (sp_mark_truth n) (cCons (dOp ixD (dVar 0) (dC (.int 1))) (cLendT 1 (cCons (dVar 2) cNil)))) (dgName 4)) (sSeq (sIf (dTest (dOp eqD (dVar 3) (dC (.str "not")))) (sRet (dCallF sp_negated (cCons (dVar 4) cNil))) sNext) (sSeq (sIf (dTest (dOp eqD (dVar 3) (dC (.str "maybe")))) (sRet (dCallF sp_perhaps (cCons (dVar 4) cNil))) sNext) (sSeq (sAsg (dCallF (sp_mark_truth n) (cCons (dOp ixD (dVar 0) (dC (.int 2))) (cLendT 1 (cCons (dVar 2) cNil)))) (dgName 5)) (sSeq (sIf (dTest (dOp eqD (dVar 3) (dC (.str "and")))) (sRet (dCallF sp_both (cCons (dVar 4) (cCons (dVar 5) cNil)))) sNext) (sRet (dCallF sp_either (cCons (dVar 4) (cCons (dVar 5) cNil))))))))))))
def rd_law_deck : TDS := (sSeq (sOwn (dLst dNil) 1) (sSeq (sAsg (dOp addD (dC (.int 5003)) (dOp mulD (dC (.int 17)) (dCall lenD (dCons (dVar 0) dNil)))) (dgName 2)) (sSeq (sFor (iLst (dVar 0)) (dgName 3) (sSeq (sAsg (dCall absD (dCons (dCall toIntD (dCons (dVar 3) dNil)) dNil)) (dgName 4)) (sSeq (sAsg (dOp modD (dCall toIntD (dCons (dOp addD (dOp addD (dOp mulD (dVar 2) (dC (.int 131))) (dOp modD (dVar 4) (dC (.int 999983)))) (dOp mulD (dC (.int 7)) (dCall toIntD (dCons (dOp ltD (dVar 3) (dC (.int 0))) dNil)))) dNil)) (dC (.int 999983))) (dgName 2)) (sIf (dTest (dOp geD (dVar 4) (dOp powD (dC (.int 10)) (dC (.int 18))))) (sFor (iRg1 (dCons (dC (.int 60)) dNil)) (dgName 5) (sIf (dTest (dOp gtD (dVar 4) (dC (.int 0)))) (sSeq (sApp 1 (dOp modD (dCall toIntD (dCons (dVar 4) dNil)) (dC (.int 5040)))) (sAsg (dOp fdivD (dVar 4) (dC (.int 5040))) (dgName 4))) sNext)) sNext)))) (sSeq (sFor (iRg1 (dCons (dC (.int 330)) dNil)) (dgName 5) (sSeq (sAsg (dOp modD (dCall toIntD (dCons (dOp addD (dOp addD (dOp mulD (dVar 2) (dC (.int 48271))) (dOp mulD (dC (.int 8191)) (dVar 5))) (dC (.int 29))) dNil)) (dC (.int 2147483647))) (dgName 2)) (sApp 1 (dOp modD (dCall toIntD (dCons (dOp fdivD (dVar 2) (dC (.int 13))) dNil)) (dC (.int 5040)))))) (sSeq (sRevO 1) (sRetOwn 1))))))
def rd_law_pick : TDS := (sSeq (sIf (dNot (dTruA 0)) (sRet (dC (.int 0))) sNext) (sRet (dOp modD (dCall toIntD (dCons (dPop 0) dNil)) (dVar 1))))
def rd_law_number : TDS := (sSeq (sIf (dTest (dOp eqD (dCallF sp_law_pick (cAny 0 (cCons (dC (.int 6)) cNil))) (dC (.int 5)))) (sRet (dOp subD (dC (.int 999999999)) (dCallF sp_law_pick (cAny 0 (cCons (dC (.int 5000)) cNil))))) sNext) (sRet (dCallF sp_law_pick (cAny 0 (cCons (dC (.int 4)) cNil)))))
def rd_law_word : TDS := (sRet (dOp ixD (dN (dLst (dCons (dC (.str "")) (dCons (dC (.str "a")) (dCons (dC (.str "ab")) (dCons (dC (.str "b")) (dCons (dC (.str "Zeta 9")) dNil))))))) (dCallF sp_law_pick (cAny 0 (cCons (dC (.int 5)) cNil)))))
def rd_law_part : TDS := (sSeq (sIf (dTest (dOp eqD (dCallF sp_law_pick (cLendT 0 (cCons (dC (.int 4)) cNil))) (dC (.int 0)))) (sSeq (sIf (dTest (dVar 1)) (sRet (dTup (dCons (dC (.str "text")) (dCons (dCallF sp_law_word (cLendT 0 cNil)) dNil)))) sNext) (sRet (dTup (dCons (dC (.str "num")) (dCons (dCallF sp_law_number (cLendT 0 cNil)) dNil))))) sNext) (sSeq (sAsg (dCallF sp_law_pick (cLendT 0 (cCons (dC (.int 4)) cNil))) (dgName 3)) (sSeq (sAsg (dIf (dTest (dVar 1)) (dC (.int 2)) (dCallF sp_law_pick (cLendT 0 (cCons (dC (.int 2)) cNil)))) (dgName 4)) (sSeq (sApp 2 (dTup (dCons (dVar 3) (dCons (dVar 4) dNil)))) (sRet (dTup (dCons (dC (.str "col")) (dCons (dVar 3) (dCons (dVar 4) dNil)))))))))
def rd_law_expr : TDS := (sSeq (sAsg (dCallF sp_law_part (cLendT 0 (cCons (dVar 1) (cLendT 2 cNil)))) (dgName 3)) (sSeq (sIf (dTest (dVar 1)) (sRet (dVar 3)) sNext) (sSeq (sFor (iRg1 (dCons (dOp ixD (dN (dLst (dCons (dC (.int 0)) (dCons (dC (.int 0)) (dCons (dC (.int 0)) (dCons (dC (.int 1)) (dCons (dC (.int 1)) (dCons (dC (.int 2)) (dCons (dC (.int 3)) dNil))))))))) (dCallF sp_law_pick (cLendT 0 (cCons (dC (.int 7)) cNil)))) dNil)) (dgName 4) (sSeq (sAsg (dCallF sp_law_pick (cLendT 0 (cCons (dC (.int 5)) cNil))) (dgName 5)) (sIf (dTest (dOp eqD (dVar 5) (dC (.int 4)))) (sAsg (dTup (dCons (dC (.str "neg")) (dCons (dVar 3) dNil))) (dgName 3)) (sIf (dTest (dOp eqD (dVar 5) (dC (.int 3)))) (sAsg (dTup (dCons (dC (.str "sub")) (dCons (dCallF sp_law_part (cLendT 0 (cCons (dC (.bool false)) (cLendT 2 cNil)))) (dCons (dVar 3) dNil)))) (dgName 3)) (sAsg (dTup (dCons (dOp ixD (dN (dLst (dCons (dC (.str "add")) (dCons (dC (.str "sub")) (dCons (dC (.str "mul")) dNil))))) (dVar 5)) (dCons (dVar 3) (dCons (dCallF sp_law_part (cLendT 0 (cCons (dC (.bool false)) (cLendT 2 cNil)))) dNil)))) (dgName 3)))))) (sRet (dVar 3)))))
def rd_law_leaf : TDS := (sSeq (sOwn (dLst dNil) 1) (sSeq (sAsg (dOp eqD (dCallF sp_law_pick (cLendT 0 (cCons (dC (.int 5)) cNil))) (dC (.int 0))) (dgName 2)) (sSeq (sIf (dTest (dOp eqD (dCallF sp_law_pick (cLendT 0 (cCons (dC (.int 3)) cNil))) (dC (.int 0)))) (sRet (dTup (dCons (dTup (dCons (dC (.str "null")) (dCons (dCallF sp_law_expr (cLendT 0 (cCons (dVar 2) (cLendT 1 cNil)))) dNil))) (dCons (dFrz 1) dNil)))) sNext) (sSeq (sAsg (dCallF sp_law_expr (cLendT 0 (cCons (dVar 2) (cLendT 1 cNil)))) (dgName 3)) (sSeq (sAsg (dCallF sp_law_expr (cLendT 0 (cCons (dVar 2) (cLendT 1 cNil)))) (dgName 4)) (sRet (dTup (dCons (dTup (dCons (dC (.str "cmp")) (dCons (dOp ixD (dN (dLst (dCons (dC (.str "=")) (dCons (dC (.str "<>")) (dCons (dC (.str "<")) (dCons (dC (.str "<=")) (dCons (dC (.str ">")) (dCons (dC (.str ">=")) dNil)))))))) (dCallF sp_law_pick (cLendT 0 (cCons (dC (.int 6)) cNil)))) (dCons (dVar 3) (dCons (dVar 4) dNil))))) (dCons (dFrz 1) dNil)))))))))
def rd_law_joined : TDS := (sSeq (sOwn (dLc (iLst (dVar 1)) (dgName 8) dYes (dOp ixD (dVar 8) (dC (.int 0))) [8]) 2) (sSeq (sOwn (dLc (iRg1 (dCons (dCall lenD (dCons (dVar 1) dNil)) dNil)) (dgName 5) dYes (dTup (dCons (dC (.str "leaf")) (dCons (dVar 5) dNil))) [5]) 3) (sSeq (sFor (iRg1 (dCons (dOp mulD (dC (.int 3)) (dCall lenD (dCons (dVar 1) dNil))) dNil)) (dgName 4) (sSeq (sAsg (dCallF sp_law_pick (cLendT 0 (cCons (dLenO 2) cNil))) (dgName 5)) (sSeq (sAsg (dCallF sp_law_pick (cLendT 0 (cCons (dC (.int 4)) cNil))) (dgName 6)) (sIf (dTest (dOp ltD (dVar 6) (dC (.int 2)))) (sSeq (sAsg (dOp ixD (dN (dLst (dCons (dC (.str "not")) (dCons (dC (.str "maybe")) dNil)))) (dVar 6)) (dgName 7)) (sSeq (sSetO 2 (dVar 5) (dTup (dCons (dVar 7) (dCons (dIxO 2 (dVar 5)) dNil)))) (sSetO 3 (dVar 5) (dTup (dCons (dVar 7) (dCons (dIxO 3 (dVar 5)) dNil)))))) (sIf (dTest (dOp gtD (dLenO 2) (dC (.int 1)))) (sSeq (sAsg (dCall (int2D fun i j => if j < i then j else i) (dCons (dVar 5) (dCons (dOp subD (dLenO 2) (dC (.int 2))) dNil))) (dgName 5)) (sSeq (sAsg (dOp ixD (dN (dLst (dCons (dC (.str "and")) (dCons (dC (.str "or")) dNil)))) (dOp subD (dVar 6) (dC (.int 2)))) (dgName 7)) (sSeq (sSetO 2 (dVar 5) (dTup (dCons (dVar 7) (dCons (dIxO 2 (dVar 5)) (dCons (dIxO 2 (dOp addD (dVar 5) (dC (.int 1)))) dNil))))) (sSeq (sSetO 3 (dVar 5) (dTup (dCons (dVar 7) (dCons (dIxO 3 (dVar 5)) (dCons (dIxO 3 (dOp addD (dVar 5) (dC (.int 1)))) dNil))))) (sSeq (sOwn (dAddN (dN (dSlO 2 dNoPart (dPart (dOp addD (dVar 5) (dC (.int 1)))))) (dN (dSlO 2 (dPart (dOp addD (dVar 5) (dC (.int 2)))) dNoPart))) 2) (sOwn (dAddN (dN (dSlO 3 dNoPart (dPart (dOp addD (dVar 5) (dC (.int 1)))))) (dN (dSlO 3 (dPart (dOp addD (dVar 5) (dC (.int 2)))) dNoPart))) 3)))))) sNext))))) (sSeq (sWhile (dTest (dOp gtD (dLenO 2) (dC (.int 1)))) (sSeq (sOwn (dAddN (dN (dLst (dCons (dTup (dCons (dC (.str "or")) (dCons (dIxO 2 (dC (.int 0))) (dCons (dIxO 2 (dC (.int 1))) dNil)))) dNil))) (dN (dSlO 2 (dPart (dC (.int 2))) dNoPart))) 2) (sOwn (dAddN (dN (dLst (dCons (dTup (dCons (dC (.str "or")) (dCons (dIxO 3 (dC (.int 0))) (dCons (dIxO 3 (dC (.int 1))) dNil)))) dNil))) (dN (dSlO 3 (dPart (dC (.int 2))) dNoPart))) 3))) (sRet (dTup (dCons (dIxO 2 (dC (.int 0))) (dCons (dIxO 3 (dC (.int 0))) dNil))))))))
def rd_law_level (n : Nat) : TDS := (sSeq (sIf (dTest (dOp eqD (dOp ixD (dVar 0) (dC (.int 0))) (dC (.str "leaf")))) (sRet (dOp ixD (dVar 1) (dOp ixD (dVar 0) (dC (.int 1))))) sNext) (sSeq (sAsg (dCallF (sp_law_level n) (cCons (dOp ixD (dVar 0) (dC (.int 1))) (cCons (dVar 1) cNil))) (dgName 2)) (sSeq (sIf (dTest (dOp eqD (dOp ixD (dVar 0) (dC (.int 0))) (dC (.str "not")))) (sRet (dOp subD (dC (.int 2)) (dVar 2))) sNext) (sSeq (sIf (dTest (dOp eqD (dOp ixD (dVar 0) (dC (.int 0))) (dC (.str "maybe")))) (sRet (dOp mulD (dC (.int 2)) (dCall toIntD (dCons (dOp gtD (dVar 2) (dC (.int 0))) dNil)))) sNext) (sSeq (sAsg (dCallF (sp_law_level n) (cCons (dOp ixD (dVar 0) (dC (.int 2))) (cCons (dVar 1) cNil))) (dgName 3)) (sRet (dIf (dTest (dOp eqD (dOp ixD (dVar 0) (dC (.int 0))) (dC (.str "and")))) (dCall (int2D fun i j => if j < i then j else i) (dCons (dVar 2) (dCons (dVar 3) dNil))) (dCall (int2D fun i j => if j > i then j else i) (dCons (dVar 2) (dCons (dVar 3) dNil))))))))))
def rd_law_told (n_law_level : Nat) : TDS := (sSeq (sOwn (dLst dNil) 3) (sSeq (sFor (iLst (dVar 0)) (dgName 4) (sSeq (sAsg (dOp gtD (dCall lenD (dCons (dN (dLc (iLst (dOp ixD (dVar 4) (dC (.int 1)))) (dgName 12) (dTest (dOp eqD (dOp ixD (dVar 12) (dC (.int 0))) (dVar 2))) (dVar 12) [12])) dNil)) (dC (.int 0))) (dgName 5)) (sIf (dTest (dOp eqD (dOp ixD (dOp ixD (dVar 4) (dC (.int 0))) (dC (.int 0))) (dC (.str "null")))) (sApp 3 (dIf (dTest (dVar 5)) (dN (dLst (dCons (dC (.int 2)) dNil))) (dN (dLst (dCons (dC (.int 0)) (dCons (dC (.int 2)) dNil)))))) (sApp 3 (dIf (dTest (dVar 5)) (dN (dLst (dCons (dC (.int 1)) dNil))) (dN (dLst (dCons (dC (.int 0)) (dCons (dC (.int 1)) (dCons (dC (.int 2)) dNil)))))))))) (sFrz 3 (sSeq (sAsg (dC (.int 1)) (dgName 6)) (sSeq (sFor (iLst (dVar 3)) (dgName 7) (sAsg (dOp mulD (dVar 6) (dCall lenD (dCons (dVar 7) dNil))) (dgName 6))) (sSeq (sOwn (dLst (dCons (dC (.bool false)) (dCons (dC (.bool false)) (dCons (dC (.bool false)) dNil)))) 8) (sSeq (sFor (iRg1 (dCons (dVar 6) dNil)) (dgName 9) (sSeq (sAsg (dVar 9) (dgName 10)) (sSeq (sOwn (dLst dNil) 11) (sSeq (sFor (iLst (dVar 3)) (dgName 7) (sSeq (sApp 11 (dOp ixD (dVar 7) (dOp modD (dVar 10) (dCall lenD (dCons (dVar 7) dNil))))) (sAsg (dOp fdivD (dVar 10) (dCall lenD (dCons (dVar 7) dNil))) (dgName 10)))) (sSetO 8 (dCallF (sp_law_level n_law_level) (cCons (dVar 1) (cCons (dFrz 11) cNil))) (dC (.bool true))))))) (sRet (dN (dLst (dCons (dIxO 8 (dC (.int 2))) (dCons (dIxO 8 (dC (.int 0))) (dCons (dIxO 8 (dC (.int 1))) dNil)))))))))))))
def rd_law_value (n : Nat) : TDS := (sSeq (sIf (dOr (dTest (dOp eqD (dOp ixD (dVar 0) (dC (.int 0))) (dC (.str "num")))) (dTest (dOp eqD (dOp ixD (dVar 0) (dC (.int 0))) (dC (.str "text"))))) (sRet (dOp ixD (dVar 0) (dC (.int 1)))) sNext) (sSeq (sIf (dTest (dOp eqD (dOp ixD (dVar 0) (dC (.int 0))) (dC (.str "col")))) (sRet (dLook 1 (dTup (dCons (dOp ixD (dVar 0) (dC (.int 1))) (dCons (dOp ixD (dVar 0) (dC (.int 2))) dNil))))) sNext) (sSeq (sAsg (dCallF (sp_law_value n) (cCons (dOp ixD (dVar 0) (dC (.int 1))) (cLendT 1 cNil))) (dgName 2)) (sSeq (sAsg (dIf (dTest (dOp eqD (dOp ixD (dVar 0) (dC (.int 0))) (dC (.str "neg")))) (dC (.int 0)) (dCallF (sp_law_value n) (cCons (dOp ixD (dVar 0) (dC (.int 2))) (cLendT 1 cNil)))) (dgName 3)) (sSeq (sIf (dOr (dTest (dIsN (dVar 2))) (dTest (dIsN (dVar 3)))) (sRet (dC .none)) sNext) (sSeq (sIf (dOr (dTest (dOp eqD (dOp ixD (dVar 0) (dC (.int 0))) (dC (.str "neg")))) (dTest (dOp eqD (dOp ixD (dVar 0) (dC (.int 0))) (dC (.str "sub"))))) (sRet (dIf (dTest (dOp eqD (dOp ixD (dVar 0) (dC (.int 0))) (dC (.str "sub")))) (dOp subD (dVar 2) (dVar 3)) (dOp subD (dC (.int 0)) (dVar 2)))) sNext) (sRet (dIf (dTest (dOp eqD (dOp ixD (dVar 0) (dC (.int 0))) (dC (.str "add")))) (dOp addD (dVar 2) (dVar 3)) (dOp mulD (dVar 2) (dVar 3))))))))))
def rd_law_leaf_level (n_law_value : Nat) : TDS := (sSeq (sIf (dTest (dOp eqD (dOp ixD (dVar 0) (dC (.int 0))) (dC (.str "null")))) (sRet (dOp mulD (dC (.int 2)) (dCall toIntD (dCons (dIsN (dCallF (sp_law_value n_law_value) (cCons (dOp ixD (dVar 0) (dC (.int 1))) (cLendT 1 cNil)))) dNil)))) sNext) (sSeq (sAsg (dCallF (sp_law_value n_law_value) (cCons (dOp ixD (dVar 0) (dC (.int 2))) (cLendT 1 cNil))) (dgName 2)) (sSeq (sAsg (dCallF (sp_law_value n_law_value) (cCons (dOp ixD (dVar 0) (dC (.int 3))) (cLendT 1 cNil))) (dgName 3)) (sSeq (sIf (dOr (dTest (dIsN (dVar 2))) (dTest (dIsN (dVar 3)))) (sRet (dC (.int 1))) sNext) (sSeq (sDispK 4 (dpCons "=" (dOp eqD (dVar 2) (dVar 3)) (dpCons "<>" (dOp neD (dVar 2) (dVar 3)) (dpCons "<" (dOp ltD (dVar 2) (dVar 3)) (dpCons ">" (dOp gtD (dVar 2) (dVar 3)) (dpCons "<=" (dNotV (dOp gtD (dVar 2) (dVar 3))) (dpCons ">=" (dNotV (dOp ltD (dVar 2) (dVar 3))) dpNil))))))) (sRet (dOp mulD (dC (.int 2)) (dCall toIntD (dCons (dLook 4 (dOp ixD (dVar 0) (dC (.int 1)))) dNil)))))))))
def rd_law_marked (n : Nat) : TDS := (sSeq (sIf (dTest (dOp eqD (dOp ixD (dVar 0) (dC (.int 0))) (dC (.str "col")))) (sRet (dIf (dTest (dOp eqD (dOp ixD (dVar 0) (dC (.int 1))) (dC (.int 3)))) (dTup (dCons (dC (.str "agg")) (dCons (dOp ixD (dVar 0) (dC (.int 2))) dNil))) (dTup (dCons (dC (.str "mark")) (dCons (dOp addD (dOp mulD (dC (.int 7)) (dOp ixD (dVar 0) (dC (.int 1)))) (dOp mulD (dC (.int 3)) (dOp ixD (dVar 0) (dC (.int 2))))) dNil))))) sNext) (sSeq (sIf (dTest (dOp eqD (dOp ixD (dVar 0) (dC (.int 0))) (dC (.str "cmp")))) (sRet (dTup (dCons (dC (.str "cmp")) (dCons (dOp ixD (dVar 0) (dC (.int 1))) (dCons (dCallF (sp_law_marked n) (cCons (dOp ixD (dVar 0) (dC (.int 2))) cNil)) (dCons (dCallF (sp_law_marked n) (cCons (dOp ixD (dVar 0) (dC (.int 3))) cNil)) dNil)))))) sNext) (sSeq (sIf (dOr (dTest (dOp eqD (dOp ixD (dVar 0) (dC (.int 0))) (dC (.str "num")))) (dTest (dOp eqD (dOp ixD (dVar 0) (dC (.int 0))) (dC (.str "text"))))) (sRet (dVar 0)) sNext) (sSeq (sIf (dTest (dOp eqD (dCall lenD (dCons (dVar 0) dNil)) (dC (.int 2)))) (sRet (dTup (dCons (dOp ixD (dVar 0) (dC (.int 0))) (dCons (dCallF (sp_law_marked n) (cCons (dOp ixD (dVar 0) (dC (.int 1))) cNil)) dNil)))) sNext) (sRet (dTup (dCons (dOp ixD (dVar 0) (dC (.int 0))) (dCons (dCallF (sp_law_marked n) (cCons (dOp ixD (dVar 0) (dC (.int 1))) cNil)) (dCons (dCallF (sp_law_marked n) (cCons (dOp ixD (dVar 0) (dC (.int 2))) cNil)) dNil)))))))))
def rd_law_same : TDS := (sSeq (sIf (dTest (dIsN (dVar 1))) (sRet (dIsN (dVar 0))) sNext) (sSeq (sIf (dTest (dIsi "str" (dVar 1))) (sRet (dAndV (dIsi "str" (dVar 0)) (dOp eqD (dVar 0) (dVar 1)))) sNext) (sRet (dAndV (dIsi "int" (dVar 0)) (dAndV (dNotV (dIsi "bool" (dVar 0))) (dOp eqD (dVar 0) (dVar 1)))))))
def rd_law_truth_same : TDS := (sSeq (sIf (dTest (dIsN (dVar 1))) (sRet (dIsN (dVar 0))) sNext) (sSeq (sIf (dTest (dVar 1)) (sRet (dIsB true (dVar 0))) sNext) (sRet (dIsB false (dVar 0)))))
def rd_law_values : TDS := (sSeq (sDictT 2) (sSeq (sFor (iRg1 (dCons (dC (.int 4)) dNil)) (dgName 3) (sFor (iRg1 (dCons (dC (.int 3)) dNil)) (dgName 4) (sSeq (sAsg (dIf (dTest (dOp eqD (dVar 4) (dC (.int 2)))) (dCallF sp_law_word (cAny 0 cNil)) (dCallF sp_law_number (cAny 0 cNil))) (dgName 5)) (sSeq (sIf (dOr (dTest (dOp eqD (dVar 3) (dVar 1))) (dTest (dOp eqD (dCallF sp_law_pick (cAny 0 (cCons (dC (.int 3)) cNil))) (dC (.int 0))))) (sAsg (dC .none) (dgName 5)) (sIf (dAnd (dTest (dOp ltD (dVar 4) (dC (.int 2)))) (dTest (dOp eqD (dCallF sp_law_pick (cAny 0 (cCons (dC (.int 3)) cNil))) (dC (.int 0))))) (sAsg (dOp subD (dC (.int 0)) (dVar 5)) (dgName 5)) sNext)) (sDPutT 2 (dCons (dVar 3) (dCons (dVar 4) dNil)) (dVar 5)))))) (sRetObj 2)))
def rd_law_at_values (n_law_level : Nat) (n_law_marked : Nat) (n_mark_truth : Nat) (n_law_value : Nat) (n_mark_value : Nat) : TDS := (sSeq (sAsg (dN (dLc (iLst (dVar 2)) (dgName 11) dYes (dCallF sp_law_leaf_level (cCons (dOp ixD (dVar 11) (dC (.int 0))) (cLendT 3 cNil))) [11])) (dgName 5)) (sSeq (sAsg (dCallF (sp_law_level n_law_level) (cCons (dVar 1) (cCons (dVar 5) cNil))) (dgName 6)) (sSeq (sIf (dAnd (dTest (dNotN (dVar 4))) (dTest (dNotB true (dOp ixD (dVar 4) (dOp ixD (dN (dLst (dCons (dC (.int 1)) (dCons (dC (.int 2)) (dCons (dC (.int 0)) dNil))))) (dVar 6)))))) (sRet (dC (.bool false))) sNext) (sSeq (sDictK 7) (sSeq (sForT 3 (dgName 8) (sIf (dTest (dOp ltD (dOp ixD (dVar 8) (dC (.int 0))) (dC (.int 3)))) (sDPutK 7 (dOp addD (dOp mulD (dC (.int 7)) (dOp ixD (dVar 8) (dC (.int 0)))) (dOp mulD (dC (.int 3)) (dOp ixD (dVar 8) (dC (.int 1))))) (dLook 3 (dVar 8))) sNext)) (sSeq (sAsg (dN (dLcK 7 14 (dTup (dCons (dVar 14) (dCons (dLook 7 (dVar 14)) dNil))))) (dgName 9)) (sSeq (sAsg (dTup (dCons (dLook 3 (dTup (dCons (dC (.int 3)) (dCons (dC (.int 0)) dNil)))) (dCons (dLook 3 (dTup (dCons (dC (.int 3)) (dCons (dC (.int 1)) dNil)))) (dCons (dLook 3 (dTup (dCons (dC (.int 3)) (dCons (dC (.int 2)) dNil)))) dNil)))) (dgName 10)) (sSeq (sIf (dNot (dTest (dCallF sp_law_truth_same (cCons (dCallF (sp_mark_truth n_mark_truth) (cPerm 3 [0, 1, 2] (cCons (dCallF (sp_law_marked n_law_marked) (cCons (dVar 0) cNil)) (cLendT 7 (cCons (dVar 10) cNil))))) (cCons (dOp ixD (dN (dLst (dCons (dC (.bool false)) (dCons (dC .none) (dCons (dC (.bool true)) dNil))))) (dVar 6)) cNil))))) (sRet (dC (.bool false))) sNext) (sSeq (sFor (iLst (dVar 2)) (dgName 11) (sSeq (sAsg (dIf (dTest (dOp eqD (dOp ixD (dOp ixD (dVar 11) (dC (.int 0))) (dC (.int 0))) (dC (.str "null")))) (dN (dCallN listD (dCons (dSl (dOp ixD (dVar 11) (dC (.int 0))) (dPart (dC (.int 1))) dNoPart) dNil))) (dN (dCallN listD (dCons (dSl (dOp ixD (dVar 11) (dC (.int 0))) (dPart (dC (.int 2))) dNoPart) dNil)))) (dgName 12)) (sFor (iLst (dVar 12)) (dgName 13) (sIf (dNot (dTest (dCallF sp_law_same (cCons (dCallF (sp_mark_value n_mark_value) (cPerm 3 [0, 1, 2] (cCons (dCallF (sp_law_marked n_law_marked) (cCons (dVar 13) cNil)) (cLendT 7 (cCons (dVar 10) cNil))))) (cCons (dCallF (sp_law_value n_law_value) (cCons (dVar 13) (cLendT 3 cNil))) cNil))))) (sRet (dC (.bool false))) sNext)))) (sRet (dOp eqD (dN (dLcK 7 14 (dTup (dCons (dVar 14) (dCons (dLook 7 (dVar 14)) dNil))))) (dVar 9))))))))))))
def rd_law_unit (n_possible : Nat) : TDS := (sSeq (sAsg (dCallF (sp_possible n_possible) (cPerm 2 [0, 1] (cCons (dVar 0) (cCons (dVar 3) cNil)))) (dgName 5)) (sSeq (sIf (dOr (dNot (dTest (dIsi "tuple" (dVar 5)))) (dTest (dOp neD (dCall lenD (dCons (dVar 5) dNil)) (dC (.int 3))))) (sRet (dC (.bool false))) sNext) (sSeq (sAsg (dCallF sp_law_told (cCons (dVar 2) (cCons (dVar 1) (cCons (dVar 3) cNil)))) (dgName 6)) (sSeq (sIf (dTest (dOp gtD (dCall lenD (dCons (dN (dLc (iRg1 (dCons (dC (.int 3)) dNil)) (dgName 7) (dNot (dTest (dCallF sp_law_truth_same (cCons (dOp ixD (dVar 5) (dVar 7)) (cCons (dOp ixD (dVar 6) (dVar 7)) cNil))))) (dVar 7) [7])) dNil)) (dC (.int 0)))) (sRet (dC (.bool false))) sNext) (sSeq (sIf (dNot (dTest (dCallF sp_law_truth_same (cCons (dCallF sp_never_on_nulls (cPerm 2 [0, 1] (cCons (dVar 0) (cCons (dVar 3) cNil)))) (cCons (dNotV (dOp ixD (dVar 6) (dC (.int 0)))) cNil))))) (sRet (dC (.bool false))) sNext) (sRet (dCallF sp_law_at_values (cCons (dVar 0) (cCons (dVar 1) (cCons (dVar 2) (cLendT 4 (cCons (dVar 5) cNil))))))))))))
def rd_law : TDS := (sSeq (sOwn (dCallNw sp_law_deck (cCons (dVar 0) cNil)) 1) (sSeq (sFor (iRg1 (dCons (dC (.int 3)) dNil)) (dgName 2) (sSeq (sAsg (dN (dLc (iRg1 (dCons (dOp addD (dC (.int 1)) (dCallF sp_law_pick (cLendT 1 (cCons (dC (.int 5)) cNil)))) dNil)) (dgName 8) dYes (dCallF sp_law_leaf (cLendT 1 cNil)) [8])) (dgName 3)) (sSeq (sAsg (dCallF sp_law_joined (cLendT 1 (cCons (dVar 3) cNil))) (dgName 4)) (sSeq (sIf (dNot (dTest (dCallTmp sp_law_at_values sp_law_values (cCons (dOp ixD (dVar 4) (dC (.int 0))) (cCons (dOp ixD (dVar 4) (dC (.int 1))) (cCons (dVar 3) cNil))) (cLendT 1 (cCons (dC (.int 9)) cNil)) (cCons (dC .none) cNil)))) (sRet (dC (.bool false))) sNext) (sSeq (sAsg (dCallF sp_law_pick (cLendT 1 (cCons (dC (.int 4)) cNil))) (dgName 5)) (sFor (iRg1 (dCons (dC (.int 5)) dNil)) (dgName 6) (sSeq (sOwnC sp_law_values 7 (cIfOwn (dTest (dOp eqD (dVar 6) (dVar 5))) 1 (cCons (dVar 6) cNil))) (sIf (dNot (dTest (dCallF sp_law_unit (cCons (dOp ixD (dVar 4) (dC (.int 0))) (cCons (dOp ixD (dVar 4) (dC (.int 1))) (cCons (dVar 3) (cCons (dVar 6) (cLendT 7 cNil)))))))) (sRet (dC (.bool false))) sNext)))))))) (sRet (dC (.bool true)))))
theorem lev3 {k : Nat} (h : k ≤ 2) : k = 0 ∨ k = 1 ∨ k = 2 := by omega
theorem rp_negated (as : List SD) (Q : RS → List SD → Prop) (h : sp_negated as Q) : rd_negated { nx := fun δ => Q (.dt .none) (outs as δ), rt := fun d δ => Q d (outs as δ) } (startD 1 as) := by
  obtain ⟨k, hk, rfl, q⟩ := h
  show rd_negated _ [.dt (trD k)]
  unfold rd_negated
  rcases lev3 hk with rfl | rfl | rfl <;> (walk_at "x"; walk_at "o"; first | exact q | exact ⟨_, rfl, q⟩)
theorem rp_perhaps (as : List SD) (Q : RS → List SD → Prop) (h : sp_perhaps as Q) : rd_perhaps { nx := fun δ => Q (.dt .none) (outs as δ), rt := fun d δ => Q d (outs as δ) } (startD 1 as) := by
  obtain ⟨k, hk, rfl, q⟩ := h
  show rd_perhaps _ [.dt (trD k)]
  unfold rd_perhaps
  rcases lev3 hk with rfl | rfl | rfl <;> (walk_at "x"; walk_at "o"; first | exact q | exact ⟨_, rfl, q⟩)
theorem rp_both (as : List SD) (Q : RS → List SD → Prop) (h : sp_both as Q) : rd_both { nx := fun δ => Q (.dt .none) (outs as δ), rt := fun d δ => Q d (outs as δ) } (startD 2 as) := by
  obtain ⟨j, k, hj, hk, rfl, q⟩ := h
  show rd_both _ [.dt (trD j), .dt (trD k)]
  unfold rd_both
  rcases lev3 hj with rfl | rfl | rfl <;> rcases lev3 hk with rfl | rfl | rfl <;> (walk_at "x"; walk_at "o"; first | exact q | exact ⟨_, rfl, q⟩)
theorem rp_either (as : List SD) (Q : RS → List SD → Prop) (h : sp_either as Q) : rd_either { nx := fun δ => Q (.dt .none) (outs as δ), rt := fun d δ => Q d (outs as δ) } (startD 2 as) := by
  obtain ⟨j, k, hj, hk, rfl, q⟩ := h
  show rd_either _ [.dt (trD j), .dt (trD k)]
  unfold rd_either
  rcases lev3 hj with rfl | rfl | rfl <;> rcases lev3 hk with rfl | rfl | rfl <;> (walk_at "x"; walk_at "o"; first | exact q | exact ⟨_, rfl, q⟩)
theorem kindV_flat {t : Bool} {x y : D} (hx : kindV t x) (hy : kindV t y) (nx : isNoneD x = false) (ny : isNoneD y = false) : PySem.W.alike x y = true ∧ x.depth = 0 := by
  unfold kindV at hx hy
  cases t with
  | true =>
    rw [if_pos rfl] at hx hy
    rcases hx with rfl | ⟨a, rfl⟩
    · cases nx
    rcases hy with rfl | ⟨b, rfl⟩
    · cases ny
    exact ⟨by simp [PySem.W.alike], by simp [PyData.depth]⟩
  | false =>
    rw [if_neg Bool.false_ne_true] at hx hy
    rcases hx with rfl | ⟨a, rfl⟩
    · cases nx
    rcases hy with rfl | ⟨b, rfl⟩
    · cases ny
    exact ⟨by simp [PySem.W.alike], by simp [PyData.depth]⟩
theorem trD_if (b : Bool) : trD (if b = true then 2 else 0) = .bool b := by cases b <;> rfl
theorem rp_compared (as : List SD) (Q : RS → List SD → Prop) (h : sp_compared as Q) : rd_compared { nx := fun δ => Q (.dt .none) (outs as δ), rt := fun d δ => Q d (outs as δ) } (startD 3 as) := by
  obtain ⟨o, x, y, t, rfl, hx, hy, q⟩ := h
  show rd_compared _ [.dt (.str o.word), .dt x, .dt y]
  unfold rd_compared
  walk_at "x"
  unfold cmpN at q
  refine ite_b (fun nx => ?_) (fun nx => ?_)
  · rw [nx, Bool.true_or, if_pos rfl] at q
    walk_at "x"
    walk_at "o"
    exact q
  walk_at "x"
  refine ite_b (fun ny => ?_) (fun ny => ?_)
  · rw [ny, Bool.or_true, if_pos rfl] at q
    walk_at "x"
    walk_at "o"
    exact q
  rw [nx, ny, Bool.false_or, if_neg Bool.false_ne_true, trD_if] at q
  obtain ⟨al, dp⟩ := kindV_flat hx hy nx ny
  cases o <;> (walk_at "x"; first | refine eq_ok (by omega) ?_ | refine ne_ok (by omega) ?_ | refine ord_ok al nx (by omega) ?_) <;> (walk_at "o"; exact q)
def pickT : D → Option D
  | .tuple [a, .bool true] => some a
  | _ => none
theorem rp_truths_told (as : List SD) (Q : RS → List SD → Prop) (h : sp_truths_told as Q) : rd_truths_told { nx := fun δ => Q (.dt .none) (outs as δ), rt := fun d δ => Q d (outs as δ) } (startD 3 as) := by
  obtain ⟨s, rfl, q⟩ := h
  show rd_truths_told _ [.dt (trip s), .un, .un]
  unfold rd_truths_told
  walk_at "x"
  refine st_lc (own2 rfl rfl rfl rfl) ?_
  walk_at "x"
  refine ⟨_, _, .inr rfl, own2 rfl rfl rfl rfl, ?_⟩
  refine lc_opt pickT (by simp [pairD_len]) (fun x hx Ny Nn h1 h2 => ?_) ?_
  · have hx : x ∈ [PyData.tuple [.bool true, .bool (s 2)], .tuple [.bool false, .bool (s 0)], .tuple [.none, .bool (s 1)]] := hx
    have key : ∀ (a : D) (b : Bool), x = .tuple [a, .bool b] → dgTup 2 (dgCons (dgName 1) (dgCons (dgName 2) dgNil)) x (wipeD [SD.dt (trip s), .un, .un] [1, 2]) (fun δ1 => dTest (dVar 2) δ1 fun b δ2 => if b = true then dVar 1 δ2 Ny else Nn δ2) := by
      rintro a b rfl
      walk_at "x"
      cases b with
      | true =>
        walk_at "x"
        exact h1 _ _ rfl rfl
      | false =>
        walk_at "x"
        exact h2 _ rfl rfl
    rcases List.mem_cons.mp hx with e | hx
    · exact key _ _ e
    rcases List.mem_cons.mp hx with e | hx
    · exact key _ _ e
    rcases List.mem_cons.mp hx with e | hx
    · exact key _ _ e
    simp at hx
  · walk_at "o"
    have e : (pairD [.bool true, .bool false, .none] [.bool (s 2), .bool (s 0), .bool (s 1)]).filterMap pickT = trues s := by
      show List.filterMap pickT [PyData.tuple [.bool true, .bool (s 2)], .tuple [.bool false, .bool (s 0)], .tuple [.none, .bool (s 1)]] = _
      unfold trues
      cases s 2 <;> cases s 0 <;> cases s 1 <;> rfl
    rw [List.nil_append, e]
    exact q
theorem any_lev (g : D → Bool) (ks : List Nat) (j : Nat) (hk : ∀ k ∈ ks, k ≤ 2) (hg : ∀ k, k ≤ 2 → g (trD k) = decide (k = j)) : ((ks.map fun k => g (trD k)).any id) = decide (j ∈ ks) := by
  induction ks with
  | nil => rfl
  | cons k ks ih =>
    rw [List.map_cons, List.any_cons, ih fun x hx => hk x (List.mem_cons_of_mem _ hx), hg k (hk k List.mem_cons_self)]
    by_cases h : k = j
    · subst h; simp
    · have h' : ¬ j = k := fun z => h z.symm
      simp [h, h']
theorem rp_told_truths (as : List SD) (Q : RS → List SD → Prop) (h : sp_told_truths as Q) : rd_told_truths { nx := fun δ => Q (.dt .none) (outs as δ), rt := fun d δ => Q d (outs as δ) } (startD 2 as) := by
  obtain ⟨ks, hk, hl, rfl, q⟩ := h
  show rd_told_truths _ [.dt (.list (ks.map trD)), .un]
  unfold rd_told_truths
  have fin : ∀ (te : TDE) (g : D → Bool) (Q : List D → Dl → Prop), (∀ x : D, ∀ (N : D → Dl → Prop), N (.bool (g x)) [.dt (.list (ks.map trD)), .dt x] → te [.dt (.list (ks.map trD)), .dt x] N) → Q ((ks.map fun k => g (trD k)).map .bool) [.dt (.list (ks.map trD)), .un] → dLc (iLst (dVar 0)) (dgName 1) dYes te [1] [.dt (.list (ks.map trD)), .un] Q := by
    intro te g Q h1 h2
    refine st_lc (own1 rfl rfl) ?_
    walk_at "x"
    refine ⟨own1 rfl rfl, lc_pure (fun x => .bool (g x)) .un rfl (by rw [List.length_map]; omega) (fun x hx N hN => ?_) ?_⟩
    · exact h1 x N hN
    · rw [List.map_map]
      rw [List.map_map] at h2
      exact h2
  walk_at "x"
  refine fin _ (isBD true) _ (fun x N hN => by walk_at "x"; exact hN) ?_
  walk_at "x"
  refine boolsD_ok _ rfl ?_
  walk_at "x"
  refine fin _ (isBD false) _ (fun x N hN => by walk_at "x"; exact hN) ?_
  walk_at "x"
  refine boolsD_ok _ rfl ?_
  walk_at "x"
  refine fin _ isNoneD _ (fun x N hN => by walk_at "x"; exact hN) ?_
  walk_at "x"
  refine boolsD_ok _ rfl ?_
  walk_at "x"
  walk_at "o"
  rw [any_lev (isBD true) ks 2 hk (fun k h => by rcases lev3 h with rfl | rfl | rfl <;> rfl), any_lev (isBD false) ks 0 hk (fun k h => by rcases lev3 h with rfl | rfl | rfl <;> rfl), any_lev isNoneD ks 1 hk (fun k h => by rcases lev3 h with rfl | rfl | rfl <;> rfl)]
  exact q
theorem eqv_s (a b : Str) : PyData.eqv (.str a) (.str b) = decide (a = b) := by
  simp only [PyData.eqv]
  by_cases h : a = b
  · subst h; simp
  · rw [decide_eq_false h]; exact beq_eq_false_iff_ne.mpr h
theorem eqv_i (a b : Int) : PyData.eqv (.int a) (.int b) = decide (a = b) := by
  simp only [PyData.eqv]
  by_cases h : a = b
  · subst h; simp
  · rw [decide_eq_false h]; exact beq_eq_false_iff_ne.mpr h
theorem eqv_C (q r : Nat × Nat) : PyData.eqv (encC q) (encC r) = decide (q = r) := by
  obtain ⟨a, b⟩ := q
  obtain ⟨c, d⟩ := r
  unfold encC
  simp only [PyData.eqv, PyData.eqvAll, Bool.and_true]
  by_cases h : a = c
  · by_cases h2 : b = d
    · subst h h2; simp
    · have : ¬ ((b : Int) = (d : Int)) := by omega
      simp [h2]
      omega
  · have : ¬ ((a : Int) = (c : Int)) := by omega
    simp [h]
    omega
theorem any_C (acc : List (Nat × Nat)) (q : Nat × Nat) : ((acc.map encC).any fun z => PyData.eqv z (encC q)) = decide (q ∈ acc) := by
  induction acc with
  | nil => rfl
  | cons a acc ih =>
    rw [List.map_cons, List.any_cons, ih, eqv_C]
    by_cases h : a = q
    · subst h; simp
    · have h' : ¬ q = a := fun z => h z.symm
      simp [h, h']
inductive Parts (n : Nat) : List D → List (Nat × Nat) → Prop
  | nil : Parts n [] []
  | skip {d ds cs} : (∀ xs, d ≠ .tuple xs) → Parts n ds cs → Parts n (d :: ds) cs
  | part {xs ds c cs} : Cols n (.tuple xs) c → Parts n ds cs → Parts n (.tuple xs :: ds) (c ++ cs)
theorem addC_len : ∀ (cs acc : List (Nat × Nat)), (cs.foldl addC acc).length ≤ acc.length + cs.length
  | [], acc => by simp
  | c :: cs, acc => by
    have h := addC_len cs (addC acc c)
    have h2 : (addC acc c).length ≤ acc.length + 1 := by
      unfold addC
      split
      · omega
      · simp
    show (cs.foldl addC (addC acc c)).length ≤ _
    rw [List.length_cons]
    omega
theorem cut1 {a : D} {r : List D} : cutA (a :: r) (some 1) none = r := cut_drop (a :: r) 1
theorem isTup_no {d : D} (h : ∀ xs, d ≠ .tuple xs) : isT "tuple" d = false := by
  cases d with
  | tuple xs => exact absurd rfl (h xs)
  | _ => rfl
theorem collect_loop {n : Nat} {p : Addr} {th : D} {De : DEnds} : ∀ {ds : List D} {cs acc : List (Nat × Nat)} {s3 : SD}, Parts n ds cs → acc.length + cs.length ≤ 1000 → (∀ s3, De.nx [.dt th, .ow p (.lst ((cs.foldl addC acc).map encC)), .un, s3]) →
    sForGo (dgName 3) (sIf (dTest (dIsi "tuple" (dVar 3))) (sDrop (dCallF (sp_collect_raw_columns n) (cCons (dVar 3) (cLendT 1 cNil)))) sNext) De ds [.dt th, .ow p (.lst (acc.map encC)), .un, s3]
  | _, _, acc, s3, .nil, _, q => q s3
  | _, _, acc, s3, .skip (d := d) hd ht, hl, q => by
    unfold sForGo
    walk_at "x"
    refine ite_kF (isTup_no hd) ?_
    walk_at "x"
    exact collect_loop ht hl q
  | _, _, acc, s3, .part (xs := xs) (c := c) (cs := cs) hc ht, hl, q => by
    rw [List.length_append] at hl
    unfold sForGo
    walk_at "x"
    refine call_ok (by simp [bors]) (by simp [bors]) fun Q2 hQ => ⟨.tuple xs, c, acc, p, rfl, hc, by omega, hQ _ _ rfl ?_⟩
    walk_at "s"
    have h2 := addC_len c acc
    refine collect_loop ht (by omega) fun s3 => ?_
    have := q s3
    rw [List.foldl_append] at this
    exact this
theorem rp_collect_raw_columns (n : Nat) (as : List SD) (Q : RS → List SD → Prop) (h : sp_collect_raw_columns (n + 1) as Q) : rd_collect_raw_columns n { nx := fun δ => Q (.dt .none) (outs as δ), rt := fun d δ => Q d (outs as δ) } (startD 4 as) := by
  obtain ⟨d, cs, acc, p, rfl, hc, hl, q⟩ := h
  show rd_collect_raw_columns n _ [.dt d, .ow p (.lst (acc.map encC)), .un, .un]
  unfold rd_collect_raw_columns
  have word : ∀ (w : Str) (rest : List D) (De : DEnds) (s1 : TDS) (δ : Dl), δ = [.dt (.tuple (.str w :: rest)), .ow p (.lst (acc.map encC)), .un, .un] → w ≠ "col" → (w ∈ (["num", "text", "agg", "mark"] : List Str) → De.nx δ) → (w ∉ (["num", "text", "agg", "mark"] : List Str) → s1 De δ) →
      sIf (dTest (dOp notInD (dOp ixD (dVar 0) (dC (.int 0))) (dC (.tuple [(.str "num"), (.str "text"), (.str "agg"), (.str "mark")])))) s1 sNext De δ := by
    rintro w rest De s1 δ rfl hw h1 h2
    walk_at "x"
    refine in_ok (y := .tuple [.str "num", .str "text", .str "agg", .str "mark"]) (x := .str w) (c := decide (w ∉ (["num", "text", "agg", "mark"] : List Str))) rfl (by simp [PyData.depth]) ?_ ?_
    · simp only [List.any_cons, List.any_nil, eqv_s, Bool.true_xor, Bool.or_false]
      by_cases hm : w ∈ (["num", "text", "agg", "mark"] : List Str)
      · simp only [List.mem_cons, List.not_mem_nil, or_false] at hm
        rcases hm with rfl | rfl | rfl | rfl <;> decide +kernel
      · rw [decide_eq_true hm]
        simp only [List.mem_cons, List.not_mem_nil, or_false, not_or] at hm
        obtain ⟨a, b, c, d⟩ := hm
        rw [decide_eq_false (fun z => a z.symm), decide_eq_false (fun z => b z.symm), decide_eq_false (fun z => c z.symm), decide_eq_false (fun z => d z.symm)]
        rfl
    walk_at "x"
    refine ite_dec (fun hm => h2 hm) (fun hm => ?_)
    walk_at "x"
    exact h1 (Classical.byContradiction hm)
  have wcol : ∀ w : Str, w ≠ "col" → decide (w = "col") = false := fun w h => decide_eq_false h
  cases hc with
  | @col _ u c =>
    walk_at "x"
    refine ⟨p, _, rfl, by simp [PyData.depth, PyData.depthAll], ?_⟩
    walk_at "x"
    rw [show (PyData.tuple [.int (u : Int), .int (c : Int)]) = encC (u, c) from rfl, any_C]
    by_cases hm : (u, c) ∈ acc
    · rw [decide_eq_true hm]
      walk_at "x"
      walk_at "o"
      have e : [(u, c)].foldl addC acc = acc := by
        show addC acc (u, c) = acc
        unfold addC
        rw [if_pos hm]
      rw [e] at q
      exact q
    · rw [decide_eq_false hm]
      walk_at "x"
      refine ⟨p, _, rfl, by rw [List.length_map]; omega, ?_⟩
      walk_at "x"
      walk_at "o"
      have e : [(u, c)].foldl addC acc = acc ++ [(u, c)] := by
        show addC acc (u, c) = _
        unfold addC
        rw [if_neg hm]
      rw [e, List.map_append] at q
      exact q
  | @one _ d w hw hd =>
    walk_at "x"
    refine ite_kF (wcol w hw) ?_
    refine word w [d] _ _ _ rfl hw (fun _ => ?_) fun hm => ?_
    · walk_at "o"
      exact q
    · walk_at "x"
      rw [cut1]
      refine collect_loop (cs := []) (.skip hd .nil) (by simpa using hl) fun s3 => ?_
      walk_at "o"
      exact q
  | @neg _ d cs w hw hm hc =>
    walk_at "x"
    refine ite_kF (wcol w hw) ?_
    refine word w _ _ _ _ rfl hw (fun z => absurd z hm) fun _ => ?_
    walk_at "x"
    rw [cut1]
    refine collect_loop (cs := cs ++ []) (.part hc .nil) (by simpa using hl) fun s3 => ?_
    walk_at "o"
    rw [List.append_nil]
    exact q
  | @two _ d e cs ds w hw hm hc hd =>
    walk_at "x"
    refine ite_kF (wcol w hw) ?_
    refine word w _ _ _ _ rfl hw (fun z => absurd z hm) fun _ => ?_
    walk_at "x"
    rw [cut1]
    refine collect_loop (cs := cs ++ (ds ++ [])) (.part hc (.part hd .nil)) (by simpa using hl) fun s3 => ?_
    walk_at "o"
    rw [List.append_nil]
    exact q
  | @three _ o d e cs ds w hw hm hc hd =>
    walk_at "x"
    refine ite_kF (wcol w hw) ?_
    refine word w _ _ _ _ rfl hw (fun z => absurd z hm) fun _ => ?_
    walk_at "x"
    rw [cut1]
    refine collect_loop (cs := cs ++ (ds ++ [])) (.skip (fun _ z => nomatch z) (.part hc (.part hd .nil))) (by simpa using hl) fun s3 => ?_
    walk_at "o"
    rw [List.append_nil]
    exact q
theorem rp_raw_columns (as : List SD) (Q : RS → List SD → Prop) (h : sp_raw_columns as Q) : rd_raw_columns 20 { nx := fun δ => Q (.dt .none) (outs as δ), rt := fun d δ => Q d (outs as δ) } (startD 2 as) := by
  obtain ⟨d, cs, rfl, hc, hl, q⟩ := h
  show rd_raw_columns 20 _ [.dt d, .un]
  unfold rd_raw_columns
  walk_at "x"
  refine call_ok (by simp [bors]) (by simp [bors]) fun Q2 hQ => ⟨d, cs, [], _, rfl, hc, by simpa using hl, hQ _ _ rfl ?_⟩
  walk_at "s"
  walk_at "x"
  walk_at "o"
  exact q
theorem any_units (cs acc : List (Nat × Nat)) (u : Int) : ((cs.foldl addC acc).any fun q => decide ((q.1 : Int) = u)) = ((acc.any fun q => decide ((q.1 : Int) = u)) || cs.any fun q => decide ((q.1 : Int) = u)) := by
  induction cs generalizing acc with
  | nil => simp
  | cons c cs ih =>
    show ((cs.foldl addC (addC acc c)).any _) = _
    rw [ih, List.any_cons]
    unfold addC
    split
    · rename_i h
      by_cases hc : (c.1 : Int) = u
      · have : (acc.any fun q => decide ((q.1 : Int) = u)) = true := List.any_eq_true.mpr ⟨c, h, by simpa using hc⟩
        rw [this]; simp
      · simp [hc]
    · rw [List.any_append]
      simp [Bool.or_assoc]
def unitD (u : Int) : D → Option D
  | .tuple [.int a, .int _] => some (.bool (decide (a = u)))
  | _ => none
theorem rp_reads_unit (as : List SD) (Q : RS → List SD → Prop) (h : sp_reads_unit as Q) : rd_reads_unit { nx := fun δ => Q (.dt .none) (outs as δ), rt := fun d δ => Q d (outs as δ) } (startD 4 as) := by
  obtain ⟨d, cs, u, rfl, hc, hl, q⟩ := h
  show rd_reads_unit _ [.dt d, .dt (.int u), .un, .un]
  unfold rd_reads_unit
  walk_at "x"
  refine st_lc (own2 rfl rfl rfl rfl) ?_
  walk_at "x"
  refine call_ok (by simp [bors]) (by simp [bors]) fun Q2 hQ => ⟨d, cs, rfl, hc, hl, hQ _ _ rfl ?_⟩
  walk_at "s"
  walk_at "x"
  refine ⟨own2 rfl rfl rfl rfl, ?_⟩
  have h2 := addC_len cs []
  refine lc_opt (unitD u) (by simp at h2 ⊢; omega) (fun x hx Ny Nn h1 h2 => ?_) ?_
  · obtain ⟨c, _, rfl⟩ := List.mem_map.mp hx
    unfold encC
    walk_at "x"
    exact h1 _ _ rfl rfl
  · walk_at "x"
    refine boolsD_ok ((cs.foldl addC []).map fun q => decide ((q.1 : Int) = u)) ?_ ?_
    · rw [List.nil_append, List.filterMap_map, List.map_map, ← List.filterMap_eq_map]
      rfl
    walk_at "o"
    have e := any_units cs [] u
    rw [List.any_nil, Bool.false_or] at e
    rw [List.any_map]
    have e2 : ((cs.foldl addC []).any (id ∘ fun q => decide ((q.1 : Int) = u))) = (cs.foldl addC []).any fun q => decide ((q.1 : Int) = u) := rfl
    rw [e2, e]
    exact q
theorem encX_tup (e : Xp) : ∃ xs, encX e = .tuple xs := by
  cases e <;> exact ⟨_, rfl⟩
theorem Cols.mono {n m : Nat} {d : D} {cs : List (Nat × Nat)} (h : Cols n d cs) : n ≤ m → Cols m d cs := by
  induction h generalizing m with
  | col =>
    intro hm
    obtain ⟨k, rfl⟩ : ∃ k, m = k + 1 := ⟨m - 1, by omega⟩
    exact .col
  | one h1 h2 =>
    intro hm
    obtain ⟨k, rfl⟩ : ∃ k, m = k + 1 := ⟨m - 1, by omega⟩
    exact .one h1 h2
  | neg h1 h2 _ ih =>
    intro hm
    obtain ⟨k, rfl⟩ : ∃ k, m = k + 1 := ⟨m - 1, by omega⟩
    exact .neg h1 h2 (ih (by omega))
  | two h1 h2 _ _ ih ih2 =>
    intro hm
    obtain ⟨k, rfl⟩ : ∃ k, m = k + 1 := ⟨m - 1, by omega⟩
    exact .two h1 h2 (ih (by omega)) (ih2 (by omega))
  | three h1 h2 _ _ ih ih2 =>
    intro hm
    obtain ⟨k, rfl⟩ : ∃ k, m = k + 1 := ⟨m - 1, by omega⟩
    exact .three h1 h2 (ih (by omega)) (ih2 (by omega))
theorem cols_X : ∀ e : Xp, Cols (hX e) (encX e) (colsX e)
  | .num i => .one (by decide +kernel) (fun _ z => nomatch z)
  | .txt x => .one (by decide +kernel) (fun _ z => nomatch z)
  | .col u c => .col
  | .neg e => by
    have h := cols_X e
    obtain ⟨xs, ex⟩ := encX_tup e
    unfold encX hX colsX
    rw [ex] at h ⊢
    exact .neg (by decide +kernel) (by decide +kernel) h
  | .bin o a b => by
    have h1 := (cols_X a).mono (Nat.le_max_left (hX a) (hX b))
    have h2 := (cols_X b).mono (Nat.le_max_right (hX a) (hX b))
    obtain ⟨xs, ex⟩ := encX_tup a
    obtain ⟨ys, ey⟩ := encX_tup b
    unfold encX hX colsX
    rw [ex] at h1 ⊢
    rw [ey] at h2 ⊢
    cases o <;> exact .two (by decide +kernel) (by decide +kernel) h1 h2
theorem cols_L (l : Lf) : Cols (hL l) (encL l) (colsL l) := by
  cases l with
  | nul e =>
    have h := cols_X e
    obtain ⟨xs, ex⟩ := encX_tup e
    simp only [encL, hL, colsL]
    rw [ex] at h ⊢
    exact .neg (by decide +kernel) (by decide +kernel) h
  | cmp o a b =>
    have h1 := (cols_X a).mono (Nat.le_max_left (hX a) (hX b))
    have h2 := (cols_X b).mono (Nat.le_max_right (hX a) (hX b))
    obtain ⟨xs, ex⟩ := encX_tup a
    obtain ⟨ys, ey⟩ := encX_tup b
    simp only [encL, hL, colsL]
    rw [ex] at h1 ⊢
    rw [ey] at h2 ⊢
    exact .three (by decide +kernel) (by decide +kernel) h1 h2
theorem colsX_len : ∀ e : Xp, (colsX e).length ≤ 2 ^ hX e
  | .num i => by simp [colsX]
  | .txt x => by simp [colsX]
  | .col u c => by simp [colsX, hX]
  | .neg e => by
    have := colsX_len e
    unfold colsX hX
    rw [Nat.pow_succ]
    omega
  | .bin o a b => by
    have h1 := colsX_len a
    have h2 := colsX_len b
    have h3 : 2 ^ hX a ≤ 2 ^ max (hX a) (hX b) := Nat.pow_le_pow_right (by decide) (Nat.le_max_left _ _)
    have h4 : 2 ^ hX b ≤ 2 ^ max (hX a) (hX b) := Nat.pow_le_pow_right (by decide) (Nat.le_max_right _ _)
    unfold colsX hX
    rw [Nat.pow_succ, List.length_append]
    omega
theorem p16 {n : Nat} (h : n ≤ 4) : 2 ^ n ≤ 16 := Nat.pow_le_pow_right (n := 2) (by decide) h
theorem wf_L {l : Lf} (h : WfL l) : hL l ≤ 5 ∧ (colsL l).length ≤ 32 := by
  obtain ⟨t, h⟩ := h
  cases l with
  | nul e =>
    obtain ⟨_, h⟩ := h
    have := colsX_len e
    have := p16 h
    simp only [hL, colsL]
    omega
  | cmp o a b =>
    obtain ⟨_, _, h, h2⟩ := h
    have := colsX_len a
    have := colsX_len b
    have := p16 h
    have := p16 h2
    simp only [hL, colsL]
    rw [List.length_append]
    omega
def lvs3 (s : Lev) : List Nat := [2, 0, 1].filter s
theorem trues_eq (s : Lev) : trues s = (lvs3 s).map trD := by
  unfold trues lvs3
  cases h2 : s 2 <;> cases h0 : s 0 <;> cases h1 : s 1 <;> simp [h2, h0, h1, trD]
theorem lvs3_le {s : Lev} : ∀ k ∈ lvs3 s, k ≤ 2 := fun k h => by
  unfold lvs3 at h
  have := (List.mem_filter.mp h).1
  simp at this
  omega
theorem lvs3_len {s : Lev} : (lvs3 s).length ≤ 3 := List.length_filter_le s [2, 0, 1]
theorem mem3 {s : Lev} {k : Nat} : k ∈ lvs3 s ↔ k ∈ [0, 1, 2] ∧ s k = true := by
  unfold lvs3
  rw [List.mem_filter]
  simp only [List.mem_cons, List.not_mem_nil, or_false]
  constructor <;> (rintro ⟨h, h2⟩; exact ⟨by omega, h2⟩)
theorem mem_lev1 (g : Nat → Nat) (s : Lev) (k : Nat) : decide (k ∈ (lvs3 s).map g) = lev1 g s k := by
  unfold lev1
  rw [Bool.eq_iff_iff, decide_eq_true_eq, List.mem_map, List.any_eq_true]
  constructor
  · rintro ⟨a, ha, e⟩
    obtain ⟨h1, h2⟩ := mem3.mp ha
    exact ⟨a, h1, by rw [h2, Bool.true_and, decide_eq_true_eq]; exact e⟩
  · rintro ⟨a, ha, e⟩
    rw [Bool.and_eq_true, decide_eq_true_eq] at e
    exact ⟨a, mem3.mpr ⟨ha, e.1⟩, e.2⟩
theorem mem_lev2 (g : Nat → Nat → Nat) (s t : Lev) (k : Nat) : decide (k ∈ (lvs3 s).flatMap fun a => (lvs3 t).map fun b => g a b) = lev2 g s t k := by
  unfold lev2
  rw [Bool.eq_iff_iff, decide_eq_true_eq, List.mem_flatMap, List.any_eq_true]
  constructor
  · rintro ⟨a, ha, e⟩
    obtain ⟨h1, h2⟩ := mem3.mp ha
    obtain ⟨b, hb, e⟩ := List.mem_map.mp e
    obtain ⟨h3, h4⟩ := mem3.mp hb
    exact ⟨a, h1, List.any_eq_true.mpr ⟨b, h3, by rw [h2, h4, Bool.true_and, Bool.true_and, decide_eq_true_eq]; exact e⟩⟩
  · rintro ⟨a, ha, e⟩
    obtain ⟨b, hb, e⟩ := List.any_eq_true.mp e
    rw [Bool.and_eq_true, Bool.and_eq_true, decide_eq_true_eq] at e
    exact ⟨a, mem3.mpr ⟨ha, e.1.1⟩, List.mem_map.mpr ⟨b, mem3.mpr ⟨hb, e.1.2⟩, e.2⟩⟩
theorem trip_congr {s t : Lev} (h : ∀ k, s k = t k) : trip s = trip t := by
  unfold trip
  rw [h, h, h]
def levD : D → Nat
  | .bool true => 2
  | .bool false => 0
  | _ => 1
theorem levD_tr {k : Nat} (h : k ≤ 2) : levD (trD k) = k := by
  rcases lev3 h with rfl | rfl | rfl <;> rfl
theorem lc_bin {c u w r : SD} {A B : List Nat} (hA : ∀ a ∈ A, a ≤ 2) (hB : ∀ a ∈ B, a ≤ 2) (lA : A.length ≤ 3) (lB : B.length ≤ 3) {te : TDE} {g : Nat → Nat → Nat}
    (h : ∀ j k, j ≤ 2 → k ≤ 2 → ∀ N : D → Dl → Prop, N (trD (g j k)) [c, u, w, r, .dt (.list (A.map trD)), .dt (.list (B.map trD)), .dt (trD j), .dt (trD k)] → te [c, u, w, r, .dt (.list (A.map trD)), .dt (.list (B.map trD)), .dt (trD j), .dt (trD k)] N)
    {Q : List D → Dl → Prop} (q : Q ((A.flatMap fun a => B.map fun b => g a b).map trD) [c, u, w, r, .dt (.list (A.map trD)), .dt (.list (B.map trD)), .un, .un]) :
    dLc2 (iLst (dVar 4)) (dgName 6) dYes (iLst (dVar 5)) (dgName 7) dYes te [6, 7] [7] [c, u, w, r, .dt (.list (A.map trD)), .dt (.list (B.map trD)), .un, .un] Q := by
  refine st_lc2 ?_
  walk_at "x"
  refine ⟨own2 rfl rfl rfl rfl, ?_⟩
  refine lc2_pure (ys := B.map trD) (fun x y => trD (g (levD x) (levD y))) ?_ (fun x => [c, u, w, r, .dt (.list (A.map trD)), .dt (.list (B.map trD)), .dt x, .un]) (fun x hx N hN => ?_) (fun x hx => own1 rfl rfl) (fun x hx => rfl) (fun x hx y hy Ny hN => ?_) ?_
  · rw [List.length_map, List.length_map]
    exact Nat.le_trans (Nat.mul_le_mul lA lB) (by decide)
  · walk_at "s"
    walk_at "x"
    exact hN (own1 rfl rfl)
  · obtain ⟨a, ha, rfl⟩ := List.mem_map.mp hx
    obtain ⟨b, hb, rfl⟩ := List.mem_map.mp hy
    rw [levD_tr (hA a ha), levD_tr (hB b hb)] at hN
    walk_at "s"
    walk_at "x"
    exact h a b (hA a ha) (hB b hb) _ (hN _ rfl)
  · have e : ((A.map trD).flatMap fun x => (B.map trD).map fun y => trD (g (levD x) (levD y))) = (A.flatMap fun a => B.map fun b => g a b).map trD := by
      rw [List.flatMap_map, List.map_flatMap, List.flatMap_def, List.flatMap_def]
      refine congrArg List.flatten (List.map_congr_left fun a ha => ?_)
      rw [List.map_map, List.map_map]
      refine List.map_congr_left fun b hb => ?_
      show trD (g (levD (trD a)) (levD (trD b))) = trD (g a b)
      rw [levD_tr (hA a ha), levD_tr (hB b hb)]
    rw [e]
    exact q
theorem lc_un {c u w r : SD} {A : List Nat} (hA : ∀ a ∈ A, a ≤ 2) (lA : A.length ≤ 3) {te : TDE} {g : Nat → Nat}
    (h : ∀ j, j ≤ 2 → ∀ N : D → Dl → Prop, N (trD (g j)) [c, u, w, r, .dt (.list (A.map trD)), .un, .dt (trD j), .un] → te [c, u, w, r, .dt (.list (A.map trD)), .un, .dt (trD j), .un] N)
    {Q : List D → Dl → Prop} (q : Q ((A.map g).map trD) [c, u, w, r, .dt (.list (A.map trD)), .un, .un, .un]) :
    dLc (iLst (dVar 4)) (dgName 6) dYes te [6] [c, u, w, r, .dt (.list (A.map trD)), .un, .un, .un] Q := by
  refine st_lc (own1 rfl rfl) ?_
  walk_at "x"
  refine ⟨own1 rfl rfl, lc_pure (fun x => trD (g (levD x))) .un rfl (by rw [List.length_map]; omega) (fun x hx N hN => ?_) ?_⟩
  · obtain ⟨a, ha, rfl⟩ := List.mem_map.mp hx
    rw [levD_tr (hA a ha)] at hN
    exact h a (hA a ha) _ hN
  · have e : (A.map trD).map (fun x => trD (g (levD x))) = (A.map g).map trD := by
      rw [List.map_map, List.map_map]
      refine List.map_congr_left fun b hb => ?_
      show trD (g (levD (trD b))) = trD (g b)
      rw [levD_tr (hA b hb)]
    rw [e]
    exact q
theorem rp_possible (n : Nat) (as : List SD) (Q : RS → List SD → Prop) (h : sp_possible (n + 1) as Q) : rd_possible n { nx := fun δ => Q (.dt .none) (outs as δ), rt := fun d δ => Q d (outs as δ) } (startD 8 as) := by
  obtain ⟨lvs, c, u, rfl, hg, hk, hn, q⟩ := h
  show rd_possible n _ [.dt (encT (lsOf encL lvs) c), .dt (.int u), .un, .un, .un, .un, .un, .un]
  unfold rd_possible
  cases c with
  | leaf k =>
    have hkl : k < lvs.length := hk k (by simp [leavesC])
    have ek : lvs[k]? = some lvs[k] := List.getElem?_eq_getElem hkl
    obtain ⟨wf, _⟩ := hg lvs[k] (List.getElem_mem hkl)
    obtain ⟨h1, h2⟩ := wf_L wf
    have hc := (cols_L lvs[k].1).mono (show hL lvs[k].1 ≤ 20 by omega)
    have e1 : encT (lsOf encL lvs) (.leaf k) = encL lvs[k].1 := by
      show lsOf encL lvs k = _
      unfold lsOf
      rw [ek]
    have e2 : levC (levOf lvs u) (.leaf k) = levL (hitL lvs[k].1 u) lvs[k].1 := by
      show levOf lvs u k = _
      unfold levOf
      rw [ek]
    rw [e2] at q
    rw [e1]
    have hh : ((colsL lvs[k].1).any fun q => decide ((q.1 : Int) = u)) = hitL lvs[k].1 u := rfl
    generalize hitL lvs[k].1 u = hit at hh q
    generalize colsL lvs[k].1 = cs at hc hh h2
    clear e1 e2 ek wf h1
    generalize lvs[k].1 = l at hc q ⊢
    cases l with
    | nul e =>
      unfold encL at *
      walk_at "x"
      refine call_ok (by simp [bors]) (by simp [bors]) fun Q2 hQ => ⟨_, cs, u, rfl, hc, by omega, hQ _ _ rfl ?_⟩
      walk_at "s"
      rw [hh]
      walk_at "x"
      walk_at "o"
      exact q
    | cmp o a b =>
      unfold encL at *
      walk_at "x"
      refine call_ok (by simp [bors]) (by simp [bors]) fun Q2 hQ => ⟨_, cs, u, rfl, hc, by omega, hQ _ _ rfl ?_⟩
      walk_at "s"
      rw [hh]
      walk_at "x"
      walk_at "o"
      exact q
  | no c =>
    have hn' : hC 1 c ≤ n := by unfold hC at hn; omega
    unfold encT
    walk_at "x"
    refine call_ok (by simp [bors]) (by simp [bors]) fun Q2 hQ => ⟨lvs, c, u, rfl, hg, hk, hn', hQ _ _ rfl ?_⟩
    walk_at "s"
    walk_at "x"
    refine call_ok (by simp [bors]) (by simp [bors]) fun Q2 hQ => ⟨_, rfl, hQ _ _ rfl ?_⟩
    walk_at "s"
    rw [trues_eq]
    walk_at "x"
    refine lc_un (g := fun x => 2 - x) lvs3_le lvs3_len (fun j hj N hN => ?_) ?_
    · walk_at "x"
      exact call_ok (by simp [bors]) (by simp [bors]) fun Q2 hQ => ⟨j, hj, rfl, hQ _ _ rfl hN⟩
    walk_at "x"
    refine call_ok (by simp [bors]) (by simp [bors]) fun Q2 hQ => ⟨_, ?_, ?_, rfl, hQ _ _ rfl ?_⟩
    · intro k hk
      obtain ⟨a, _, rfl⟩ := List.mem_map.mp hk
      omega
    · rw [List.length_map]
      have := lvs3_len (s := levC (levOf lvs u) c)
      omega
    walk_at "s"
    walk_at "x"
    walk_at "o"
    rw [trip_congr (mem_lev1 (fun x => 2 - x) (levC (levOf lvs u) c))]
    exact q
  | may c =>
    have hn' : hC 1 c ≤ n := by unfold hC at hn; omega
    unfold encT
    walk_at "x"
    refine call_ok (by simp [bors]) (by simp [bors]) fun Q2 hQ => ⟨lvs, c, u, rfl, hg, hk, hn', hQ _ _ rfl ?_⟩
    walk_at "s"
    walk_at "x"
    refine call_ok (by simp [bors]) (by simp [bors]) fun Q2 hQ => ⟨_, rfl, hQ _ _ rfl ?_⟩
    walk_at "s"
    rw [trues_eq]
    walk_at "x"
    refine lc_un (g := fun x => if 0 < x then 2 else 0) lvs3_le lvs3_len (fun j hj N hN => ?_) ?_
    · walk_at "x"
      exact call_ok (by simp [bors]) (by simp [bors]) fun Q2 hQ => ⟨j, hj, rfl, hQ _ _ rfl hN⟩
    walk_at "x"
    refine call_ok (by simp [bors]) (by simp [bors]) fun Q2 hQ => ⟨_, ?_, ?_, rfl, hQ _ _ rfl ?_⟩
    · intro k hk
      obtain ⟨a, _, rfl⟩ := List.mem_map.mp hk
      split <;> omega
    · rw [List.length_map]
      have := lvs3_len (s := levC (levOf lvs u) c)
      omega
    walk_at "s"
    walk_at "x"
    walk_at "o"
    rw [trip_congr (mem_lev1 (fun x => if 0 < x then 2 else 0) (levC (levOf lvs u) c))]
    exact q
  | and a b =>
    have hna : hC 1 a ≤ n := by unfold hC at hn; omega
    have hnb : hC 1 b ≤ n := by unfold hC at hn; omega
    unfold encT
    walk_at "x"
    refine call_ok (by simp [bors]) (by simp [bors]) fun Q2 hQ => ⟨lvs, a, u, rfl, hg, fun k h => hk k (List.mem_append_left _ h), hna, hQ _ _ rfl ?_⟩
    walk_at "s"
    walk_at "x"
    refine call_ok (by simp [bors]) (by simp [bors]) fun Q2 hQ => ⟨_, rfl, hQ _ _ rfl ?_⟩
    walk_at "s"
    rw [trues_eq]
    walk_at "x"
    refine call_ok (by simp [bors]) (by simp [bors]) fun Q2 hQ => ⟨lvs, b, u, rfl, hg, fun k h => hk k (List.mem_append_right _ h), hnb, hQ _ _ rfl ?_⟩
    walk_at "s"
    walk_at "x"
    refine call_ok (by simp [bors]) (by simp [bors]) fun Q2 hQ => ⟨_, rfl, hQ _ _ rfl ?_⟩
    walk_at "s"
    rw [trues_eq]
    walk_at "x"
    refine lc_bin (g := min) lvs3_le lvs3_le lvs3_len lvs3_len (fun j k hj hk N hN => ?_) ?_
    · walk_at "x"
      exact call_ok (by simp [bors]) (by simp [bors]) fun Q2 hQ => ⟨j, k, hj, hk, rfl, hQ _ _ rfl hN⟩
    walk_at "x"
    refine call_ok (by simp [bors]) (by simp [bors]) fun Q2 hQ => ⟨_, ?_, ?_, rfl, hQ _ _ rfl ?_⟩
    · intro k hk
      obtain ⟨x, hx, hk⟩ := List.mem_flatMap.mp hk
      obtain ⟨y, hy, rfl⟩ := List.mem_map.mp hk
      have := lvs3_le x hx
      omega
    · rw [List.length_flatMap]
      have h1 := lvs3_len (s := levC (levOf lvs u) a)
      have h2 := lvs3_len (s := levC (levOf lvs u) b)
      simp only [List.length_map]
      rw [List.map_const', List.sum_replicate_nat]
      exact Nat.le_trans (Nat.mul_le_mul h1 h2) (by decide)
    walk_at "s"
    walk_at "x"
    walk_at "o"
    rw [trip_congr (mem_lev2 min (levC (levOf lvs u) a) (levC (levOf lvs u) b))]
    exact q
  | or a b =>
    have hna : hC 1 a ≤ n := by unfold hC at hn; omega
    have hnb : hC 1 b ≤ n := by unfold hC at hn; omega
    unfold encT
    walk_at "x"
    refine call_ok (by simp [bors]) (by simp [bors]) fun Q2 hQ => ⟨lvs, a, u, rfl, hg, fun k h => hk k (List.mem_append_left _ h), hna, hQ _ _ rfl ?_⟩
    walk_at "s"
    walk_at "x"
    refine call_ok (by simp [bors]) (by simp [bors]) fun Q2 hQ => ⟨_, rfl, hQ _ _ rfl ?_⟩
    walk_at "s"
    rw [trues_eq]
    walk_at "x"
    refine call_ok (by simp [bors]) (by simp [bors]) fun Q2 hQ => ⟨lvs, b, u, rfl, hg, fun k h => hk k (List.mem_append_right _ h), hnb, hQ _ _ rfl ?_⟩
    walk_at "s"
    walk_at "x"
    refine call_ok (by simp [bors]) (by simp [bors]) fun Q2 hQ => ⟨_, rfl, hQ _ _ rfl ?_⟩
    walk_at "s"
    rw [trues_eq]
    walk_at "x"
    refine lc_bin (g := max) lvs3_le lvs3_le lvs3_len lvs3_len (fun j k hj hk N hN => ?_) ?_
    · walk_at "x"
      exact call_ok (by simp [bors]) (by simp [bors]) fun Q2 hQ => ⟨j, k, hj, hk, rfl, hQ _ _ rfl hN⟩
    walk_at "x"
    refine call_ok (by simp [bors]) (by simp [bors]) fun Q2 hQ => ⟨_, ?_, ?_, rfl, hQ _ _ rfl ?_⟩
    · intro k hk
      obtain ⟨x, hx, hk⟩ := List.mem_flatMap.mp hk
      obtain ⟨y, hy, rfl⟩ := List.mem_map.mp hk
      have := lvs3_le x hx
      have := lvs3_le y hy
      omega
    · rw [List.length_flatMap]
      have h1 := lvs3_len (s := levC (levOf lvs u) a)
      have h2 := lvs3_len (s := levC (levOf lvs u) b)
      simp only [List.length_map]
      rw [List.map_const', List.sum_replicate_nat]
      exact Nat.le_trans (Nat.mul_le_mul h1 h2) (by decide)
    walk_at "s"
    walk_at "x"
    walk_at "o"
    rw [trip_congr (mem_lev2 max (levC (levOf lvs u) a) (levC (levOf lvs u) b))]
    exact q
theorem rp_never_on_nulls (as : List SD) (Q : RS → List SD → Prop) (h : sp_never_on_nulls as Q) : rd_never_on_nulls 40 { nx := fun δ => Q (.dt .none) (outs as δ), rt := fun d δ => Q d (outs as δ) } (startD 2 as) := by
  obtain ⟨lvs, c, u, rfl, hg, hk, hn, q⟩ := h
  show rd_never_on_nulls 40 _ [.dt (encT (lsOf encL lvs) c), .dt (.int u)]
  unfold rd_never_on_nulls
  walk_at "x"
  refine call_ok (by simp [bors]) (by simp [bors]) fun Q2 hQ => ⟨lvs, c, u, rfl, hg, hk, hn, hQ _ _ rfl ?_⟩
  walk_at "s"
  unfold trip
  walk_at "x"
  walk_at "o"
  exact q
theorem kind_col {t : Bool} {u c : Nat} (h : kindX t (.col u c)) : u < 4 ∧ c < 3 := by
  unfold kindX at h
  cases t with
  | true =>
    rw [if_pos rfl] at h
    obtain ⟨h1, h2⟩ := h
    exact ⟨h1, by omega⟩
  | false =>
    rw [if_neg Bool.false_ne_true] at h
    obtain ⟨h1, h2⟩ := h
    exact ⟨h1, by omega⟩
theorem kind_neg {t : Bool} {e : Xp} (h : kindX t (.neg e)) : t = false ∧ numX e := by
  unfold kindX at h
  cases t with
  | true =>
    rw [if_pos rfl] at h
    exact h.elim
  | false =>
    rw [if_neg Bool.false_ne_true] at h
    exact ⟨rfl, h⟩
theorem kind_bin {t : Bool} {o : Bop} {a b : Xp} (h : kindX t (.bin o a b)) : t = false ∧ numX a ∧ numX b ∧ (isPt a ∨ isPt b) := by
  unfold kindX at h
  cases t with
  | true =>
    rw [if_pos rfl] at h
    exact h.elim
  | false =>
    rw [if_neg Bool.false_ne_true] at h
    exact ⟨rfl, h⟩
theorem small_num {d : D} (h : smallV d) : isNum d := by
  rcases h with rfl | ⟨i, rfl, _⟩
  · exact .inl rfl
  · exact .inr ⟨i, rfl⟩
theorem val_num {cv : Nat → Nat → D} (g : GoodCv cv) : ∀ {e : Xp}, numX e → isNum (valX cv e)
  | .num i, _ => .inr ⟨i, rfl⟩
  | .txt _, h => h.elim
  | .col u c, h => small_num ((g u c h.1).1 h.2)
  | .neg e, h => by
    unfold valX
    rcases val_num g (e := e) h with z | ⟨i, z⟩ <;> rw [z]
    · exact .inl rfl
    · exact .inr ⟨_, rfl⟩
  | .bin o a b, h => by
    unfold valX
    rcases val_num g (e := a) h.1 with z | ⟨i, z⟩ <;> rw [z]
    · cases o <;> exact .inl rfl
    · rcases val_num g (e := b) h.2.1 with y | ⟨j, y⟩ <;> rw [y]
      · cases o <;> exact .inl rfl
      · cases o <;> exact .inr ⟨_, rfl⟩
theorem val_txt {cv : Nat → Nat → D} (g : GoodCv cv) : ∀ {e : Xp}, txtX e → isTxt (valX cv e)
  | .num i, h => h.elim
  | .txt x, _ => .inr ⟨x, rfl⟩
  | .col u c, h => (g u c h.1).2 h.2
  | .neg e, h => h.elim
  | .bin o a b, h => h.elim
theorem val_kind {cv : Nat → Nat → D} (g : GoodCv cv) {t : Bool} {e : Xp} (h : kindX t e) : kindV t (valX cv e) := by
  unfold kindX at h
  unfold kindV
  cases t with
  | true =>
    rw [if_pos rfl] at h ⊢
    exact val_txt g h
  | false =>
    rw [if_neg Bool.false_ne_true] at h ⊢
    exact val_num g h
theorem val_pt {cv : Nat → Nat → D} (g : GoodCv cv) {e : Xp} (h : numX e) (p : isPt e) : smallV (valX cv e) := by
  cases e with
  | num i => exact .inr ⟨i, rfl, h.1, h.2⟩
  | col u c => exact (g u c h.1).1 h.2
  | txt _ => exact h.elim
  | neg _ => exact p.elim
  | bin _ _ _ => exact p.elim
theorem cells_get {cv : Nat → Nat → D} {u c : Nat} (hu : u < 4) (hc : c < 3) : getK (cellsK cv) (ucK (u, c)) = some (cv u c) := by
  have h1 : u = 0 ∨ u = 1 ∨ u = 2 ∨ u = 3 := by omega
  have h2 : c = 0 ∨ c = 1 ∨ c = 2 := by omega
  rcases h1 with rfl | rfl | rfl | rfl <;> rcases h2 with rfl | rfl | rfl <;> rfl
theorem marks_get {cv : Nat → Nat → D} {u c : Nat} (hu : u < 3) (hc : c < 3) : getK (marksK cv) (mkK (u, c)) = some (cv u c) := by
  have h1 : u = 0 ∨ u = 1 ∨ u = 2 := by omega
  have h2 : c = 0 ∨ c = 1 ∨ c = 2 := by omega
  rcases h1 with rfl | rfl | rfl <;> rcases h2 with rfl | rfl | rfl <;> rfl
theorem mul_ok {cv : Nat → Nat → D} (g : GoodCv cv) {a b : Xp} {i j : Int} (ha : numX a) (hb : numX b) (h : isPt a ∨ isPt b) (ea : valX cv a = .int i) (eb : valX cv b = .int j) {P : D → Prop} (q : P (.int (i * j))) : mulD (.int i) (.int j) P := by
  rcases h with h | h
  · have := val_pt g ha h
    rw [ea] at this
    rcases this with z | ⟨k, z, h1, h2⟩
    · cases z
    · cases z
      exact st_mulL ⟨by omega, by omega⟩ q
  · have := val_pt g hb h
    rw [eb] at this
    rcases this with z | ⟨k, z, h1, h2⟩
    · cases z
    · cases z
      exact st_mulR ⟨by omega, by omega⟩ q
theorem rp_law_value (n : Nat) (as : List SD) (Q : RS → List SD → Prop) (h : sp_law_value (n + 1) as Q) : rd_law_value n { nx := fun δ => Q (.dt .none) (outs as δ), rt := fun d δ => Q d (outs as δ) } (startD 4 as) := by
  obtain ⟨e, cv, p, t, rfl, hk, hg, hn, q⟩ := h
  show rd_law_value n _ [.dt (encX e), .ow p (OD.dt (cellsK cv)), .un, .un]
  unfold rd_law_value
  cases e with
  | num i =>
    unfold encX
    walk_at "x"
    walk_at "o"
    exact q
  | txt i =>
    unfold encX
    walk_at "x"
    walk_at "o"
    exact q
  | col u c =>
    obtain ⟨h1, h2⟩ := kind_col hk
    unfold encX
    walk_at "x"
    refine look_T (ks := ucK (u, c)) rfl rfl (cells_get h1 h2) ?_
    walk_at "x"
    walk_at "o"
    exact q
  | neg e =>
    obtain ⟨ht, hk2⟩ := kind_neg hk
    subst ht
    unfold hX at hn
    unfold encX
    walk_at "x"
    refine call_ok (by simp [bors]) (by simp [bors]) fun Q2 hQ => ⟨e, cv, p, false, rfl, hk2, hg, by omega, hQ _ _ rfl ?_⟩
    walk_at "s"
    unfold valX at q
    rcases val_num hg hk2 with z | ⟨i, z⟩
    · rw [z] at q ⊢
      walk_at "x"
      walk_at "o"
      exact q
    · rw [z] at q ⊢
      walk_at "x"
      walk_at "o"
      rw [Int.zero_sub]
      exact q
  | bin o a b =>
    obtain ⟨rfl, ha, hb, hp⟩ := kind_bin hk
    unfold hX at hn
    unfold encX
    have key : ∀ w : Str, w = o.word → sSeq (sAsg (dIf (dTest (dOp eqD (dOp ixD (dVar 0) (dC (.int 0))) (dC (.str "neg")))) (dC (.int 0)) (dCallF (sp_law_value n) (cCons (dOp ixD (dVar 0) (dC (.int 2))) (cLendT 1 cNil)))) (dgName 3)) (sSeq (sIf (dOr (dTest (dIsN (dVar 2))) (dTest (dIsN (dVar 3)))) (sRet (dC .none)) sNext) (sSeq (sIf (dOr (dTest (dOp eqD (dOp ixD (dVar 0) (dC (.int 0))) (dC (.str "neg")))) (dTest (dOp eqD (dOp ixD (dVar 0) (dC (.int 0))) (dC (.str "sub"))))) (sRet (dIf (dTest (dOp eqD (dOp ixD (dVar 0) (dC (.int 0))) (dC (.str "sub")))) (dOp subD (dVar 2) (dVar 3)) (dOp subD (dC (.int 0)) (dVar 2)))) sNext) (sRet (dIf (dTest (dOp eqD (dOp ixD (dVar 0) (dC (.int 0))) (dC (.str "add")))) (dOp addD (dVar 2) (dVar 3)) (dOp mulD (dVar 2) (dVar 3)))))) { nx := fun δ => Q (.dt .none) (outs [.dt (.tuple [.str w, encX a, encX b]), .ow p (OD.dt (cellsK cv))] δ), rt := fun d δ => Q d (outs [.dt (.tuple [.str w, encX a, encX b]), .ow p (OD.dt (cellsK cv))] δ) } [.dt (.tuple [.str w, encX a, encX b]), .ow p (OD.dt (cellsK cv)), .dt (valX cv a), .un] := by
      rintro w rfl
      unfold valX at q
      cases o <;> (
        walk_at "x"
        refine call_ok (by simp [bors]) (by simp [bors]) fun Q2 hQ => ⟨b, cv, p, false, rfl, hb, hg, by omega, hQ _ _ rfl ?_⟩
        walk_at "s"
        rcases val_num hg ha with z | ⟨i, z⟩
        · rw [z] at q ⊢
          walk_at "x"
          walk_at "o"
          exact q
        · rcases val_num hg hb with y | ⟨j, y⟩
          · rw [z, y] at q
            rw [z, y]
            walk_at "x"
            walk_at "o"
            exact q
          · have mk := @mul_ok cv hg a b i j ha hb hp z y
            rw [z, y] at q
            rw [z, y]
            walk_at "x"
            first
            | (refine mk ?_
               walk_at "o"
               exact q)
            | (walk_at "o"
               exact q))
    cases o <;> (
      walk_at "x"
      refine call_ok (by simp [bors]) (by simp [bors]) fun Q2 hQ => ⟨a, cv, p, false, rfl, ha, hg, by omega, hQ _ _ rfl ?_⟩
      walk_at "s"
      exact key _ rfl)
theorem rp_mark_value (n : Nat) (as : List SD) (Q : RS → List SD → Prop) (h : sp_mark_value (n + 1) as Q) : rd_mark_value n { nx := fun δ => Q (.dt .none) (outs as δ), rt := fun d δ => Q d (outs as δ) } (startD 6 as) := by
  obtain ⟨e, cv, p, t, rfl, hk, hg, hn, q⟩ := h
  show rd_mark_value n _ [.dt (mrkX e), .ow p (OD.dk (marksK cv)), .dt (foldsD cv), .un, .un, .un]
  unfold rd_mark_value
  cases e with
  | num i =>
    unfold mrkX
    walk_at "x"
    walk_at "o"
    exact q
  | txt i =>
    unfold mrkX
    walk_at "x"
    walk_at "o"
    exact q
  | col u c =>
    obtain ⟨h1, h2⟩ := kind_col hk
    by_cases h3 : u = 3
    · subst h3
      have e1 : mrkX (.col 3 c) = .tuple [.str "agg", .int (c : Int)] := rfl
      rw [e1]
      unfold foldsD
      walk_at "x"
      have h4 : c = 0 ∨ c = 1 ∨ c = 2 := by omega
      rcases h4 with rfl | rfl | rfl
      all_goals
        refine st_ixT rfl ?_
        walk_at "x"
        walk_at "o"
        exact q
    · have e1 : mrkX (.col u c) = .tuple [.str "mark", .int (7 * (u : Int) + 3 * (c : Int))] := if_neg h3
      rw [e1]
      walk_at "x"
      refine look_K (k := mkK (u, c)) rfl rfl (marks_get (by omega) h2) ?_
      walk_at "x"
      walk_at "o"
      exact q
  | neg e =>
    obtain ⟨ht, hk2⟩ := kind_neg hk
    subst ht
    unfold hX at hn
    unfold mrkX
    walk_at "x"
    refine call_ok (by simp [bors]) (by simp [bors]) fun Q2 hQ => ⟨e, cv, p, false, rfl, hk2, hg, by omega, hQ _ _ rfl ?_⟩
    walk_at "s"
    unfold valX at q
    rcases val_num hg hk2 with z | ⟨i, z⟩
    · rw [z] at q ⊢
      walk_at "x"
      walk_at "o"
      exact q
    · rw [z] at q ⊢
      walk_at "x"
      walk_at "o"
      exact q
  | bin o a b =>
    obtain ⟨rfl, ha, hb, hp⟩ := kind_bin hk
    unfold hX at hn
    unfold mrkX
    unfold valX at q
    cases o <;> (
      walk_at "x"
      refine call_ok (by simp [bors]) (by simp [bors]) fun Q2 hQ => ⟨a, cv, p, false, rfl, ha, hg, by omega, hQ _ _ rfl ?_⟩
      walk_at "s"
      walk_at "x"
      refine call_ok (by simp [bors]) (by simp [bors]) fun Q2 hQ => ⟨b, cv, p, false, rfl, hb, hg, by omega, hQ _ _ rfl ?_⟩
      walk_at "s"
      rcases val_num hg ha with z | ⟨i, z⟩
      · rw [z] at q ⊢
        walk_at "x"
        walk_at "o"
        exact q
      · rcases val_num hg hb with y | ⟨j, y⟩
        · rw [z, y] at q
          rw [z, y]
          walk_at "x"
          walk_at "o"
          exact q
        · have mk := @mul_ok cv hg a b i j ha hb hp z y
          rw [z, y] at q
          rw [z, y]
          walk_at "x"
          first
          | (refine mk ?_
             walk_at "o"
             exact q)
          | (walk_at "o"
             exact q))
theorem atC_le {f : Nat → Nat} (h : ∀ k, f k ≤ 2) : ∀ c : Cd, atC f c ≤ 2
  | .leaf k => h k
  | .no c => by unfold atC; omega
  | .may c => by unfold atC; split <;> omega
  | .and a b => by
    have := atC_le h a
    unfold atC
    omega
  | .or a b => by
    have h1 := atC_le h a
    have h2 := atC_le h b
    unfold atC
    omega
theorem fs_le {fs : List Nat} (h : ∀ x ∈ fs, x ≤ 2) (k : Nat) : fs.getD k 0 ≤ 2 := by
  rw [List.getD_eq_getElem?_getD]
  cases e : fs[k]? with
  | none => simp
  | some x => exact h x (List.mem_of_getElem? e)
theorem rp_law_level (n : Nat) (as : List SD) (Q : RS → List SD → Prop) (h : sp_law_level (n + 1) as Q) : rd_law_level n { nx := fun δ => Q (.dt .none) (outs as δ), rt := fun d δ => Q d (outs as δ) } (startD 4 as) := by
  obtain ⟨c, fs, rfl, hk, hf, hn, q⟩ := h
  show rd_law_level n _ [.dt (encB c), .dt (.list (fs.map fun k : Nat => .int (k : Int))), .un, .un]
  unfold rd_law_level
  have lf := fs_le hf
  cases c with
  | leaf k =>
    have hkl : k < fs.length := hk k (by simp [leavesC])
    have e1 : encB (.leaf k) = .tuple [.str "leaf", .int (k : Int)] := rfl
    rw [e1]
    walk_at "x"
    refine st_ixL (d := .int (fs[k] : Int)) ?_ ?_
    · rw [atI_cast, List.getElem?_map, List.getElem?_eq_getElem hkl]
      rfl
    walk_at "x"
    walk_at "o"
    have e2 : atC (fun k => fs.getD k 0) (.leaf k) = fs[k] := by
      show fs.getD k 0 = _
      rw [List.getD_eq_getElem?_getD, List.getElem?_eq_getElem hkl]
      rfl
    rw [e2] at q
    exact q
  | no c =>
    have e1 : encB (.no c) = .tuple [.str "not", encB c] := rfl
    unfold hC at hn
    have hl := atC_le lf c
    rw [e1]
    walk_at "x"
    refine call_ok (by simp [bors]) (by simp [bors]) fun Q2 hQ => ⟨c, fs, rfl, hk, hf, by omega, hQ _ _ rfl ?_⟩
    walk_at "s"
    walk_at "x"
    walk_at "o"
    have e2 : ((2 - atC (fun k => fs.getD k 0) c : Nat) : Int) = 2 - (atC (fun k => fs.getD k 0) c : Int) := by omega
    unfold atC at q
    rw [e2] at q
    exact q
  | may c =>
    have e1 : encB (.may c) = .tuple [.str "maybe", encB c] := rfl
    unfold hC at hn
    rw [e1]
    walk_at "x"
    refine call_ok (by simp [bors]) (by simp [bors]) fun Q2 hQ => ⟨c, fs, rfl, hk, hf, by omega, hQ _ _ rfl ?_⟩
    walk_at "s"
    walk_at "x"
    walk_at "o"
    unfold atC at q
    by_cases h0 : 0 < atC (fun k => fs.getD k 0) c
    · have h1 : (0 : Int) < (atC (fun k => fs.getD k 0) c : Int) := by omega
      rw [if_pos h0] at q
      rw [decide_eq_true h1]
      exact q
    · have h1 : ¬ (0 : Int) < (atC (fun k => fs.getD k 0) c : Int) := by omega
      rw [if_neg h0] at q
      rw [decide_eq_false h1]
      exact q
  | and a b =>
    have e1 : encB (.and a b) = .tuple [.str "and", encB a, encB b] := rfl
    unfold hC at hn
    rw [e1]
    walk_at "x"
    refine call_ok (by simp [bors]) (by simp [bors]) fun Q2 hQ => ⟨a, fs, rfl, fun k h => hk k (List.mem_append_left _ h), hf, by omega, hQ _ _ rfl ?_⟩
    walk_at "s"
    walk_at "x"
    refine call_ok (by simp [bors]) (by simp [bors]) fun Q2 hQ => ⟨b, fs, rfl, fun k h => hk k (List.mem_append_right _ h), hf, by omega, hQ _ _ rfl ?_⟩
    walk_at "s"
    walk_at "x"
    walk_at "o"
    have e2 : (if (atC (fun k => fs.getD k 0) b : Int) < (atC (fun k => fs.getD k 0) a : Int) then (atC (fun k => fs.getD k 0) b : Int) else (atC (fun k => fs.getD k 0) a : Int)) = ((min (atC (fun k => fs.getD k 0) a) (atC (fun k => fs.getD k 0) b) : Nat) : Int) := by
      split <;> omega
    rw [e2]
    exact q
  | or a b =>
    have e1 : encB (.or a b) = .tuple [.str "or", encB a, encB b] := rfl
    unfold hC at hn
    rw [e1]
    walk_at "x"
    refine call_ok (by simp [bors]) (by simp [bors]) fun Q2 hQ => ⟨a, fs, rfl, fun k h => hk k (List.mem_append_left _ h), hf, by omega, hQ _ _ rfl ?_⟩
    walk_at "s"
    walk_at "x"
    refine call_ok (by simp [bors]) (by simp [bors]) fun Q2 hQ => ⟨b, fs, rfl, fun k h => hk k (List.mem_append_right _ h), hf, by omega, hQ _ _ rfl ?_⟩
    walk_at "s"
    walk_at "x"
    walk_at "o"
    have e2 : (if (atC (fun k => fs.getD k 0) b : Int) > (atC (fun k => fs.getD k 0) a : Int) then (atC (fun k => fs.getD k 0) b : Int) else (atC (fun k => fs.getD k 0) a : Int)) = ((max (atC (fun k => fs.getD k 0) a) (atC (fun k => fs.getD k 0) b) : Nat) : Int) := by
      split <;> omega
    rw [e2]
    exact q
theorem two_if (b : Bool) : (2 * if b = true then (1 : Int) else 0) = ((if b = true then 2 else 0 : Nat) : Int) := by cases b <;> rfl
theorem rp_law_leaf_level (as : List SD) (Q : RS → List SD → Prop) (h : sp_law_leaf_level as Q) : rd_law_leaf_level 20 { nx := fun δ => Q (.dt .none) (outs as δ), rt := fun d δ => Q d (outs as δ) } (startD 5 as) := by
  obtain ⟨l, cv, p, rfl, ⟨t, wf⟩, hg, q⟩ := h
  show rd_law_leaf_level 20 _ [.dt (encL l), .ow p (OD.dt (cellsK cv)), .un, .un, .un]
  unfold rd_law_leaf_level
  cases l with
  | nul e =>
    obtain ⟨hk, hh⟩ := wf
    have e1 : encL (.nul e) = .tuple [.str "null", encX e] := rfl
    rw [e1]
    walk_at "x"
    refine call_ok (by simp [bors]) (by simp [bors]) fun Q2 hQ => ⟨e, cv, p, t, rfl, hk, hg, by omega, hQ _ _ rfl ?_⟩
    walk_at "s"
    walk_at "x"
    walk_at "o"
    have e2 : atL cv (.nul e) = if isNoneD (valX cv e) then 2 else 0 := rfl
    rw [e2] at q
    rw [two_if]
    exact q
  | cmp o a b =>
    obtain ⟨ha, hb, h1, h2⟩ := wf
    have e1 : encL (.cmp o a b) = .tuple [.str "cmp", .str o.word, encX a, encX b] := rfl
    have va := val_kind hg ha
    have vb := val_kind hg hb
    have e2 : atL cv (.cmp o a b) = cmpN o (valX cv a) (valX cv b) := rfl
    rw [e2] at q
    rw [e1]
    walk_at "x"
    refine call_ok (by simp [bors]) (by simp [bors]) fun Q2 hQ => ⟨a, cv, p, t, rfl, ha, hg, by omega, hQ _ _ rfl ?_⟩
    walk_at "s"
    walk_at "x"
    refine call_ok (by simp [bors]) (by simp [bors]) fun Q2 hQ => ⟨b, cv, p, t, rfl, hb, hg, by omega, hQ _ _ rfl ?_⟩
    walk_at "s"
    generalize valX cv a = x at va q ⊢
    generalize valX cv b = y at vb q ⊢
    walk_at "x"
    unfold cmpN at q
    refine ite_b (fun nx => ?_) (fun nx => ?_)
    · rw [nx, Bool.true_or, if_pos rfl] at q
      walk_at "x"
      walk_at "o"
      exact q
    walk_at "x"
    refine ite_b (fun ny => ?_) (fun ny => ?_)
    · rw [ny, Bool.or_true, if_pos rfl] at q
      walk_at "x"
      walk_at "o"
      exact q
    rw [nx, ny, Bool.false_or, if_neg Bool.false_ne_true] at q
    obtain ⟨al, dp⟩ := kindV_flat va vb nx ny
    walk_at "x"
    refine eq_ok (by omega) ?_
    walk_at "x"
    refine ne_ok (by omega) ?_
    walk_at "x"
    refine ord_ok al nx (by omega) ?_
    walk_at "x"
    refine ord_ok al nx (by omega) ?_
    walk_at "x"
    refine ord_ok al nx (by omega) ?_
    walk_at "x"
    refine ord_ok al nx (by omega) ?_
    walk_at "x"
    refine ⟨by simp, by simp, fun p4 => ?_⟩
    walk_at "x"
    refine look_K (k := .inr o.word) (z := .bool (cmpD o x y)) rfl rfl (by cases o <;> rfl) ?_
    walk_at "x"
    walk_at "o"
    rw [two_if]
    exact q
theorem atL_le (cv : Nat → Nat → D) (l : Lf) : atL cv l ≤ 2 := by
  cases l with
  | nul e => simp only [atL]; split <;> omega
  | cmp o a b =>
    simp only [atL, cmpN]
    split
    · omega
    · split <;> omega
theorem atLv_le (cv : Nat → Nat → D) (lvs : List Lv) (k : Nat) : atLv cv lvs k ≤ 2 := by
  unfold atLv
  cases lvs[k]? with
  | none => simp
  | some x => exact atL_le cv x.1
theorem rp_mark_truth (n : Nat) (as : List SD) (Q : RS → List SD → Prop) (h : sp_mark_truth (n + 1) as Q) : rd_mark_truth n 20 { nx := fun δ => Q (.dt .none) (outs as δ), rt := fun d δ => Q d (outs as δ) } (startD 6 as) := by
  obtain ⟨lvs, c, cv, p, rfl, hg, hk, hv, hn, q⟩ := h
  show rd_mark_truth n 20 _ [.dt (encT (lsOf mrkL lvs) c), .ow p (OD.dk (marksK cv)), .dt (foldsD cv), .un, .un, .un]
  unfold rd_mark_truth
  have lf := atLv_le cv lvs
  cases c with
  | leaf k =>
    have hkl : k < lvs.length := hk k (by simp [leavesC])
    have ek : lvs[k]? = some lvs[k] := List.getElem?_eq_getElem hkl
    obtain ⟨⟨t, wf⟩, _⟩ := hg lvs[k] (List.getElem_mem hkl)
    have e1 : encT (lsOf mrkL lvs) (.leaf k) = mrkL lvs[k].1 := by
      show lsOf mrkL lvs k = _
      unfold lsOf
      rw [ek]
    have e2 : atC (atLv cv lvs) (.leaf k) = atL cv lvs[k].1 := by
      show atLv cv lvs k = _
      unfold atLv
      rw [ek]
    rw [e2] at q
    rw [e1]
    generalize lvs[k].1 = l at wf q ⊢
    cases l with
    | nul e =>
      obtain ⟨hk, hh⟩ := wf
      have e1 : mrkL (.nul e) = .tuple [.str "null", mrkX e] := rfl
      rw [e1]
      walk_at "x"
      refine call_ok (by simp [bors]) (by simp [bors]) fun Q2 hQ => ⟨e, cv, p, t, rfl, hk, hv, by omega, hQ _ _ rfl ?_⟩
      walk_at "s"
      walk_at "x"
      walk_at "o"
      have e2 : atL cv (.nul e) = if isNoneD (valX cv e) then 2 else 0 := rfl
      rw [e2, trD_if] at q
      exact q
    | cmp o a b =>
      obtain ⟨ha, hb, h1, h2⟩ := wf
      have e1 : mrkL (.cmp o a b) = .tuple [.str "cmp", .str o.word, mrkX a, mrkX b] := rfl
      have va := val_kind hv ha
      have vb := val_kind hv hb
      rw [e1]
      walk_at "x"
      refine call_ok (by simp [bors]) (by simp [bors]) fun Q2 hQ => ⟨a, cv, p, t, rfl, ha, hv, by omega, hQ _ _ rfl ?_⟩
      walk_at "s"
      walk_at "x"
      refine call_ok (by simp [bors]) (by simp [bors]) fun Q2 hQ => ⟨b, cv, p, t, rfl, hb, hv, by omega, hQ _ _ rfl ?_⟩
      walk_at "s"
      walk_at "x"
      refine call_ok (by simp [bors]) (by simp [bors]) fun Q2 hQ => ⟨o, _, _, t, rfl, va, vb, hQ _ _ rfl ?_⟩
      walk_at "s"
      walk_at "x"
      walk_at "o"
      exact q
  | no c =>
    unfold hC at hn
    unfold encT
    walk_at "x"
    refine call_ok (by simp [bors]) (by simp [bors]) fun Q2 hQ => ⟨lvs, c, cv, p, rfl, hg, hk, hv, by omega, hQ _ _ rfl ?_⟩
    walk_at "s"
    walk_at "x"
    refine call_ok (by simp [bors]) (by simp [bors]) fun Q2 hQ => ⟨_, atC_le lf c, rfl, hQ _ _ rfl ?_⟩
    walk_at "s"
    walk_at "x"
    walk_at "o"
    exact q
  | may c =>
    unfold hC at hn
    unfold encT
    walk_at "x"
    refine call_ok (by simp [bors]) (by simp [bors]) fun Q2 hQ => ⟨lvs, c, cv, p, rfl, hg, hk, hv, by omega, hQ _ _ rfl ?_⟩
    walk_at "s"
    walk_at "x"
    refine call_ok (by simp [bors]) (by simp [bors]) fun Q2 hQ => ⟨_, atC_le lf c, rfl, hQ _ _ rfl ?_⟩
    walk_at "s"
    walk_at "x"
    walk_at "o"
    exact q
  | and a b =>
    unfold hC at hn
    unfold encT
    walk_at "x"
    refine call_ok (by simp [bors]) (by simp [bors]) fun Q2 hQ => ⟨lvs, a, cv, p, rfl, hg, fun k h => hk k (List.mem_append_left _ h), hv, by omega, hQ _ _ rfl ?_⟩
    walk_at "s"
    walk_at "x"
    refine call_ok (by simp [bors]) (by simp [bors]) fun Q2 hQ => ⟨lvs, b, cv, p, rfl, hg, fun k h => hk k (List.mem_append_right _ h), hv, by omega, hQ _ _ rfl ?_⟩
    walk_at "s"
    walk_at "x"
    refine call_ok (by simp [bors]) (by simp [bors]) fun Q2 hQ => ⟨_, _, atC_le lf a, atC_le lf b, rfl, hQ _ _ rfl ?_⟩
    walk_at "s"
    walk_at "x"
    walk_at "o"
    exact q
  | or a b =>
    unfold hC at hn
    unfold encT
    walk_at "x"
    refine call_ok (by simp [bors]) (by simp [bors]) fun Q2 hQ => ⟨lvs, a, cv, p, rfl, hg, fun k h => hk k (List.mem_append_left _ h), hv, by omega, hQ _ _ rfl ?_⟩
    walk_at "s"
    walk_at "x"
    refine call_ok (by simp [bors]) (by simp [bors]) fun Q2 hQ => ⟨lvs, b, cv, p, rfl, hg, fun k h => hk k (List.mem_append_right _ h), hv, by omega, hQ _ _ rfl ?_⟩
    walk_at "s"
    walk_at "x"
    refine call_ok (by simp [bors]) (by simp [bors]) fun Q2 hQ => ⟨_, _, atC_le lf a, atC_le lf b, rfl, hQ _ _ rfl ?_⟩
    walk_at "s"
    walk_at "x"
    walk_at "o"
    exact q
theorem notin4 {w : Str} (h : w ∉ (["col", "cmp", "num", "text"] : List Str)) : decide (w = "col") = false ∧ decide (w = "cmp") = false ∧ decide (w = "num") = false ∧ decide (w = "text") = false := by
  simp only [List.mem_cons, List.not_mem_nil, or_false, not_or] at h
  exact ⟨decide_eq_false h.1, decide_eq_false h.2.1, decide_eq_false h.2.2.1, decide_eq_false h.2.2.2⟩
theorem rp_law_marked (n : Nat) (as : List SD) (Q : RS → List SD → Prop) (h : sp_law_marked (n + 1) as Q) : rd_law_marked n { nx := fun δ => Q (.dt .none) (outs as δ), rt := fun d δ => Q d (outs as δ) } (startD 1 as) := by
  obtain ⟨d, d', rfl, hm, q⟩ := h
  show rd_law_marked n _ [.dt d]
  unfold rd_law_marked
  cases hm with
  | @col _ u c h1 h2 =>
    have e1 : encX (.col u c) = .tuple [.str "col", .int (u : Int), .int (c : Int)] := rfl
    rw [e1]
    by_cases h3 : u = 3
    · subst h3
      walk_at "x"
      walk_at "o"
      exact q
    · have h4 : decide ((u : Int) = 3) = false := decide_eq_false (by omega)
      have e2 : mrkX (.col u c) = .tuple [.str "mark", .int (7 * (u : Int) + 3 * (c : Int))] := if_neg h3
      rw [e2] at q
      walk_at "x"
      refine ite_kF h4 ?_
      walk_at "x"
      walk_at "o"
      exact q
  | num =>
    unfold encX at *
    walk_at "x"
    walk_at "o"
    exact q
  | txt =>
    unfold encX at *
    walk_at "x"
    walk_at "o"
    exact q
  | cmp ha hb =>
    walk_at "x"
    refine call_ok (by simp [bors]) (by simp [bors]) fun Q2 hQ => ⟨_, _, rfl, ha, hQ _ _ rfl ?_⟩
    walk_at "s"
    walk_at "x"
    refine call_ok (by simp [bors]) (by simp [bors]) fun Q2 hQ => ⟨_, _, rfl, hb, hQ _ _ rfl ?_⟩
    walk_at "s"
    walk_at "x"
    walk_at "o"
    exact q
  | one hw ha =>
    obtain ⟨w1, w2, w3, w4⟩ := notin4 hw
    walk_at "x"
    refine ite_kF w1 ?_
    walk_at "x"
    refine ite_kF w2 ?_
    walk_at "x"
    refine ite_kF w3 ?_
    walk_at "x"
    refine ite_kF w4 ?_
    walk_at "x"
    refine call_ok (by simp [bors]) (by simp [bors]) fun Q2 hQ => ⟨_, _, rfl, ha, hQ _ _ rfl ?_⟩
    walk_at "s"
    walk_at "x"
    walk_at "o"
    exact q
  | two hw ha hb =>
    obtain ⟨w1, w2, w3, w4⟩ := notin4 hw
    walk_at "x"
    refine ite_kF w1 ?_
    walk_at "x"
    refine ite_kF w2 ?_
    walk_at "x"
    refine ite_kF w3 ?_
    walk_at "x"
    refine ite_kF w4 ?_
    walk_at "x"
    refine call_ok (by simp [bors]) (by simp [bors]) fun Q2 hQ => ⟨_, _, rfl, ha, hQ _ _ rfl ?_⟩
    walk_at "s"
    walk_at "x"
    refine call_ok (by simp [bors]) (by simp [bors]) fun Q2 hQ => ⟨_, _, rfl, hb, hQ _ _ rfl ?_⟩
    walk_at "s"
    walk_at "x"
    walk_at "o"
    exact q
theorem rp_law_same (as : List SD) (Q : RS → List SD → Prop) (h : sp_law_same as Q) : rd_law_same { nx := fun δ => Q (.dt .none) (outs as δ), rt := fun d δ => Q d (outs as δ) } (startD 2 as) := by
  obtain ⟨d, t, rfl, hk, q⟩ := h
  show rd_law_same _ [.dt d, .dt d]
  unfold rd_law_same
  have hd : d = .none ∨ (∃ i, d = .int i) ∨ ∃ x, d = .str x := by
    unfold kindV at hk
    cases t with
    | true =>
      rw [if_pos rfl] at hk
      exact hk.imp id .inr
    | false =>
      rw [if_neg Bool.false_ne_true] at hk
      exact hk.imp id .inl
  rcases hd with rfl | ⟨i, rfl⟩ | ⟨x, rfl⟩
  · walk_at "x"
    walk_at "o"
    exact q
  · walk_at "x"
    walk_at "o"
    exact q
  · walk_at "x"
    walk_at "o"
    exact q
theorem rp_law_truth_same (as : List SD) (Q : RS → List SD → Prop) (h : sp_law_truth_same as Q) : rd_law_truth_same { nx := fun δ => Q (.dt .none) (outs as δ), rt := fun d δ => Q d (outs as δ) } (startD 2 as) := by
  obtain ⟨j, k, hj, hk, rfl, q⟩ := h
  show rd_law_truth_same _ [.dt (trD j), .dt (trD k)]
  unfold rd_law_truth_same
  rcases lev3 hj with rfl | rfl | rfl <;> rcases lev3 hk with rfl | rfl | rfl <;> (simp only [trD]; walk_at "x"; walk_at "o"; exact q)
def wayL (hit : Bool) : Lf → List Nat
  | .nul _ => if hit = true then [2] else [0, 2]
  | .cmp _ _ _ => if hit = true then [1] else [0, 1, 2]
theorem wayL_lev (hit : Bool) (l : Lf) (k : Nat) : levL hit l k = decide (k ∈ wayL hit l) := by
  cases l with
  | nul e =>
    simp only [levL, wayL]
    cases hit <;> by_cases h2 : k = 2 <;> by_cases h0 : k = 0 <;> simp [h2, h0]
  | cmp o a b =>
    simp only [levL, wayL]
    cases hit <;> by_cases h2 : k = 2 <;> by_cases h0 : k = 0 <;> by_cases h1 : k = 1 <;> simp [h2, h0, h1]
theorem wayL_le {hit : Bool} {l : Lf} {k : Nat} (h : k ∈ wayL hit l) : k ≤ 2 := by
  cases l <;> simp only [wayL] at h <;> split at h <;> simp at h <;> omega
theorem wayL_len (hit : Bool) (l : Lf) : 1 ≤ (wayL hit l).length ∧ (wayL hit l).length ≤ 3 := by
  cases l <;> simp only [wayL] <;> split <;> simp
def digs : List (List Nat) → Nat → List Nat
  | [], _ => []
  | w :: ws, c => w.getD (c % w.length) 0 :: digs ws (c / w.length)
def prodL : List (List Nat) → Nat
  | [] => 1
  | w :: ws => w.length * prodL ws
theorem digs_len : ∀ (ws : List (List Nat)) (c : Nat), (digs ws c).length = ws.length
  | [], _ => rfl
  | w :: ws, c => congrArg (· + 1) (digs_len ws _)
theorem digs_mem : ∀ (ws : List (List Nat)) (c : Nat), (∀ w ∈ ws, 1 ≤ w.length) → ∀ (k x : Nat) (w : List Nat), (digs ws c)[k]? = some x → ws[k]? = some w → x ∈ w
  | [], _, _, k, x, w, h, _ => by simp [digs] at h
  | w :: ws, c, hw, 0, x, w', h, h2 => by
    simp [digs] at h h2
    subst h2
    have hl := hw w List.mem_cons_self
    have hi : c % w.length < w.length := Nat.mod_lt _ hl
    rw [List.getElem?_eq_getElem hi] at h
    rw [← h]
    exact List.getElem_mem hi
  | w :: ws, c, hw, k + 1, x, w', h, h2 => digs_mem ws (c / w.length) (fun v hv => hw v (List.mem_cons_of_mem _ hv)) k x w' (by simpa [digs] using h) (by simpa using h2)
theorem digs_onto : ∀ (ws : List (List Nat)) (fs : List Nat), fs.length = ws.length → (∀ (k x : Nat) (w : List Nat), fs[k]? = some x → ws[k]? = some w → x ∈ w) → ∃ c, c < prodL ws ∧ digs ws c = fs
  | [], [], _, _ => ⟨0, by simp [prodL], rfl⟩
  | [], _ :: _, h, _ => by simp at h
  | _ :: _, [], h, _ => by simp at h
  | w :: ws, x :: fs, hl, h => by
    obtain ⟨c, hc, e⟩ := digs_onto ws fs (by simpa using hl) fun k x w h1 h2 => h (k + 1) x w (by simpa using h1) (by simpa using h2)
    have hx : x ∈ w := h 0 x w rfl rfl
    obtain ⟨i, hi, ei⟩ := List.mem_iff_getElem.mp hx
    refine ⟨i + w.length * c, ?_, ?_⟩
    · show i + w.length * c < w.length * prodL ws
      have : w.length * (c + 1) ≤ w.length * prodL ws := Nat.mul_le_mul_left _ hc
      rw [Nat.mul_add, Nat.mul_one] at this
      omega
    · show w.getD ((i + w.length * c) % w.length) 0 :: digs ws ((i + w.length * c) / w.length) = x :: fs
      have e1 : (i + w.length * c) % w.length = i := by rw [Nat.add_mul_mod_self_left, Nat.mod_eq_of_lt hi]
      have e2 : (i + w.length * c) / w.length = c := by
        rw [Nat.add_mul_div_left _ _ (by omega), Nat.div_eq_of_lt hi, Nat.zero_add]
      rw [e1, e2, e, List.getD_eq_getElem?_getD, List.getElem?_eq_getElem hi]
      simp [ei]
theorem atC_congr {f g : Nat → Nat} : ∀ {c : Cd}, (∀ k ∈ leavesC c, f k = g k) → atC f c = atC g c
  | .leaf k, h => h k (by simp [leavesC])
  | .no c, h => by unfold atC; rw [atC_congr (c := c) h]
  | .may c, h => by unfold atC; rw [atC_congr (c := c) h]
  | .and a b, h => by
    unfold atC
    rw [atC_congr (c := a) fun k hk => h k (List.mem_append_left _ hk), atC_congr (c := b) fun k hk => h k (List.mem_append_right _ hk)]
  | .or a b, h => by
    unfold atC
    rw [atC_congr (c := a) fun k hk => h k (List.mem_append_left _ hk), atC_congr (c := b) fun k hk => h k (List.mem_append_right _ hk)]
theorem in012 {k : Nat} (h : k ≤ 2) : k ∈ [0, 1, 2] := by
  simp
  omega
theorem mem_lev1' {g : Nat → Nat} {s : Lev} {k : Nat} : lev1 g s k = true ↔ ∃ x, x ≤ 2 ∧ s x = true ∧ g x = k := by
  unfold lev1
  rw [List.any_eq_true]
  constructor
  · rintro ⟨a, ha, e⟩
    rw [Bool.and_eq_true, decide_eq_true_eq] at e
    simp at ha
    exact ⟨a, by omega, e.1, e.2⟩
  · rintro ⟨a, ha, e1, e2⟩
    exact ⟨a, in012 ha, by rw [e1, Bool.true_and, decide_eq_true_eq]; exact e2⟩
theorem mem_lev2' {g : Nat → Nat → Nat} {s t : Lev} {k : Nat} : lev2 g s t k = true ↔ ∃ x y, x ≤ 2 ∧ y ≤ 2 ∧ s x = true ∧ t y = true ∧ g x y = k := by
  unfold lev2
  rw [List.any_eq_true]
  constructor
  · rintro ⟨a, ha, e⟩
    obtain ⟨b, hb, e⟩ := List.any_eq_true.mp e
    rw [Bool.and_eq_true, Bool.and_eq_true, decide_eq_true_eq] at e
    simp at ha hb
    exact ⟨a, b, by omega, by omega, e.1.1, e.1.2, e.2⟩
  · rintro ⟨a, b, ha, hb, e1, e2, e3⟩
    exact ⟨a, in012 ha, List.any_eq_true.mpr ⟨b, in012 hb, by rw [e1, e2, Bool.true_and, Bool.true_and, decide_eq_true_eq]; exact e3⟩⟩
theorem reach (W : Nat → Lev) (hW : ∀ k l, W k l = true → l ≤ 2) : ∀ (c : Cd), (leavesC c).Nodup → ∀ l, (levC W c l = true ↔ ∃ f : Nat → Nat, (∀ k ∈ leavesC c, W k (f k) = true) ∧ atC f c = l)
  | .leaf k, _, l => by
    constructor
    · intro h
      exact ⟨fun _ => l, fun j hj => by simp [leavesC] at hj; subst hj; exact h, rfl⟩
    · rintro ⟨f, h1, h2⟩
      have := h1 k (by simp [leavesC])
      show W k l = true
      rw [← h2]
      exact this
  | .no c, nd, l => by
    have ih := reach W hW c nd
    show lev1 _ (levC W c) l = true ↔ _
    rw [mem_lev1']
    constructor
    · rintro ⟨x, hx, h1, h2⟩
      obtain ⟨f, h3, h4⟩ := (ih x).mp h1
      exact ⟨f, h3, by unfold atC; rw [h4]; exact h2⟩
    · rintro ⟨f, h3, h4⟩
      unfold atC at h4
      have h1 := (ih (atC f c)).mpr ⟨f, h3, rfl⟩
      refine ⟨atC f c, ?_, h1, h4⟩
      have : ∀ k ∈ leavesC c, f k ≤ 2 := fun k hk => hW k _ (h3 k hk)
      rw [atC_congr (g := fun k => min (f k) 2) fun k hk => by have := this k hk; omega]
      exact atC_le (fun k => by omega) c
  | .may c, nd, l => by
    have ih := reach W hW c nd
    show lev1 _ (levC W c) l = true ↔ _
    rw [mem_lev1']
    constructor
    · rintro ⟨x, hx, h1, h2⟩
      obtain ⟨f, h3, h4⟩ := (ih x).mp h1
      exact ⟨f, h3, by unfold atC; rw [h4]; exact h2⟩
    · rintro ⟨f, h3, h4⟩
      unfold atC at h4
      have h1 := (ih (atC f c)).mpr ⟨f, h3, rfl⟩
      refine ⟨atC f c, ?_, h1, h4⟩
      have : ∀ k ∈ leavesC c, f k ≤ 2 := fun k hk => hW k _ (h3 k hk)
      rw [atC_congr (g := fun k => min (f k) 2) fun k hk => by have := this k hk; omega]
      exact atC_le (fun k => by omega) c
  | .and a b, nd, l => by
    obtain ⟨na, nb, dis⟩ := List.nodup_append.mp nd
    have iha := reach W hW a na
    have ihb := reach W hW b nb
    show lev2 _ (levC W a) (levC W b) l = true ↔ _
    rw [mem_lev2']
    constructor
    · rintro ⟨x, y, hx, hy, h1, h2, h3⟩
      obtain ⟨f, f1, f2⟩ := (iha x).mp h1
      obtain ⟨g, g1, g2⟩ := (ihb y).mp h2
      refine ⟨fun k => if k ∈ leavesC a then f k else g k, fun k hk => ?_, ?_⟩
      · by_cases ha : k ∈ leavesC a
        · simp only [ha, if_true]
          exact f1 k ha
        · rcases List.mem_append.mp hk with z | z
          · exact absurd z ha
          · simp only [ha, if_false]
            exact g1 k z
      · unfold atC
        rw [atC_congr (g := f) fun k hk => by simp only [hk, if_true], atC_congr (c := b) (g := g) fun k hk => if_neg fun z => dis k z k hk rfl, f2, g2]
        exact h3
    · rintro ⟨f, f1, f2⟩
      unfold atC at f2
      have h1 := (iha _).mpr ⟨f, fun k hk => f1 k (List.mem_append_left _ hk), rfl⟩
      have h2 := (ihb _).mpr ⟨f, fun k hk => f1 k (List.mem_append_right _ hk), rfl⟩
      refine ⟨_, _, ?_, ?_, h1, h2, f2⟩
      · rw [atC_congr (g := fun k => min (f k) 2) fun k hk => by have := hW k _ (f1 k (List.mem_append_left _ hk)); omega]
        exact atC_le (fun k => by omega) a
      · rw [atC_congr (g := fun k => min (f k) 2) fun k hk => by have := hW k _ (f1 k (List.mem_append_right _ hk)); omega]
        exact atC_le (fun k => by omega) b
  | .or a b, nd, l => by
    obtain ⟨na, nb, dis⟩ := List.nodup_append.mp nd
    have iha := reach W hW a na
    have ihb := reach W hW b nb
    show lev2 _ (levC W a) (levC W b) l = true ↔ _
    rw [mem_lev2']
    constructor
    · rintro ⟨x, y, hx, hy, h1, h2, h3⟩
      obtain ⟨f, f1, f2⟩ := (iha x).mp h1
      obtain ⟨g, g1, g2⟩ := (ihb y).mp h2
      refine ⟨fun k => if k ∈ leavesC a then f k else g k, fun k hk => ?_, ?_⟩
      · by_cases ha : k ∈ leavesC a
        · simp only [ha, if_true]
          exact f1 k ha
        · rcases List.mem_append.mp hk with z | z
          · exact absurd z ha
          · simp only [ha, if_false]
            exact g1 k z
      · unfold atC
        rw [atC_congr (g := f) fun k hk => by simp only [hk, if_true], atC_congr (c := b) (g := g) fun k hk => if_neg fun z => dis k z k hk rfl, f2, g2]
        exact h3
    · rintro ⟨f, f1, f2⟩
      unfold atC at f2
      have h1 := (iha _).mpr ⟨f, fun k hk => f1 k (List.mem_append_left _ hk), rfl⟩
      have h2 := (ihb _).mpr ⟨f, fun k hk => f1 k (List.mem_append_right _ hk), rfl⟩
      refine ⟨_, _, ?_, ?_, h1, h2, f2⟩
      · rw [atC_congr (g := fun k => min (f k) 2) fun k hk => by have := hW k _ (f1 k (List.mem_append_left _ hk)); omega]
        exact atC_le (fun k => by omega) a
      · rw [atC_congr (g := fun k => min (f k) 2) fun k hk => by have := hW k _ (f1 k (List.mem_append_right _ hk)); omega]
        exact atC_le (fun k => by omega) b
def waysL (lvs : List Lv) (u : Int) : List (List Nat) := lvs.map fun x => wayL (hitL x.1 u) x.1
theorem levOf_ways (lvs : List Lv) (u : Int) (k : Nat) (w : List Nat) (h : (waysL lvs u)[k]? = some w) (l : Nat) : levOf lvs u k l = decide (l ∈ w) := by
  unfold waysL at h
  rw [List.getElem?_map] at h
  unfold levOf
  cases e : lvs[k]? with
  | none =>
    rw [e] at h
    cases h
  | some x =>
    rw [e] at h
    cases h
    exact wayL_lev _ _ _
theorem levOf_le {lvs : List Lv} {u : Int} {k l : Nat} (h : levOf lvs u k l = true) : l ≤ 2 := by
  unfold levOf at h
  cases e : lvs[k]? with
  | none =>
    rw [e] at h
    cases h
  | some x =>
    rw [e] at h
    have h : levL (hitL x.1 u) x.1 l = true := h
    rw [wayL_lev, decide_eq_true_eq] at h
    exact wayL_le h
def seenN (ws : List (List Nat)) (c : Cd) (n l : Nat) : Bool := (List.range n).any fun code => decide (atC (fun k => (digs ws code).getD k 0) c = l)
theorem seenN_succ (ws : List (List Nat)) (c : Cd) (n l : Nat) : seenN ws c (n + 1) l = (seenN ws c n l || decide (atC (fun k => (digs ws n).getD k 0) c = l)) := by
  unfold seenN
  rw [List.range_succ, List.any_append, List.any_cons, List.any_nil, Bool.or_false]
theorem seen_all (lvs : List Lv) (u : Int) (c : Cd) (hc : leavesC c = List.range lvs.length) (l : Nat) : seenN (waysL lvs u) c (prodL (waysL lvs u)) l = levC (levOf lvs u) c l := by
  have hw1 : ∀ w ∈ waysL lvs u, 1 ≤ w.length := fun w hw => by
    obtain ⟨x, _, rfl⟩ := List.mem_map.mp hw
    exact (wayL_len _ _).1
  have hwl : (waysL lvs u).length = lvs.length := List.length_map _
  rw [Bool.eq_iff_iff, reach (levOf lvs u) (fun k l h => levOf_le h) c (by rw [hc]; exact List.nodup_range) l]
  unfold seenN
  rw [List.any_eq_true]
  constructor
  · rintro ⟨code, hcode, e⟩
    rw [decide_eq_true_eq] at e
    refine ⟨fun k => (digs (waysL lvs u) code).getD k 0, fun k hk => ?_, e⟩
    rw [hc] at hk
    have hkl : k < lvs.length := List.mem_range.mp hk
    have h1 : k < (digs (waysL lvs u) code).length := by rw [digs_len, hwl]; exact hkl
    have h2 : k < (waysL lvs u).length := by rw [hwl]; exact hkl
    rw [levOf_ways lvs u k _ (List.getElem?_eq_getElem h2), decide_eq_true_eq]
    refine digs_mem _ code hw1 k _ _ ?_ (List.getElem?_eq_getElem h2)
    show _ = some ((digs (waysL lvs u) code).getD k 0)
    rw [List.getD_eq_getElem?_getD, List.getElem?_eq_getElem h1]
    rfl
  · rintro ⟨f, h1, h2⟩
    obtain ⟨code, hcode, e⟩ := digs_onto (waysL lvs u) ((List.range lvs.length).map f) (by simp [hwl]) fun k x w hx hw => by
      have hk : k < lvs.length := by
        have := (List.getElem?_eq_some_iff.mp hx).1
        simpa using this
      rw [List.getElem?_map, List.getElem?_range hk] at hx
      cases hx
      have := h1 k (by rw [hc]; exact List.mem_range.mpr hk)
      rw [levOf_ways lvs u k w hw, decide_eq_true_eq] at this
      exact this
    refine ⟨code, List.mem_range.mpr hcode, ?_⟩
    rw [decide_eq_true_eq, e, ← h2]
    refine atC_congr fun k hk => ?_
    rw [hc] at hk
    have hkl : k < lvs.length := List.mem_range.mp hk
    rw [List.getD_eq_getElem?_getD, List.getElem?_map, List.getElem?_range hkl]
    rfl
def natsD (ws : List Nat) : D := .list (ws.map fun k : Nat => .int (k : Int))
theorem hit_iff {x : Lv} (h : GoodLv x) (u : Int) : (x.2.any fun q => decide ((q.1 : Int) = u)) = hitL x.1 u := by
  unfold hitL
  rw [Bool.eq_iff_iff, List.any_eq_true, List.any_eq_true]
  constructor
  · rintro ⟨q, h1, h2⟩
    exact ⟨q, (h.2.1 q).mp h1, h2⟩
  · rintro ⟨q, h1, h2⟩
    exact ⟨q, (h.2.1 q).mpr h1, h2⟩
def colU (u : Int) : D → Option D
  | .tuple [.int a, b] => if a = u then some (.tuple [.int a, b]) else none
  | _ => none
theorem colU_len (u : Int) (cs : List (Nat × Nat)) : decide ((0 : Int) < (((cs.map encC).filterMap (colU u)).length : Int)) = cs.any fun q => decide ((q.1 : Int) = u) := by
  induction cs with
  | nil => rfl
  | cons c cs ih =>
    rw [List.map_cons, List.filterMap_cons, List.any_cons]
    unfold encC colU
    by_cases h : (c.1 : Int) = u
    · simp only [h, if_true, decide_true, Bool.true_or, List.length_cons]
      simp
    · simp only [h, if_false, decide_false, Bool.false_or]
      exact ih
theorem getD_at {ws : List Nat} {i : Nat} (h : i < ws.length) : atI (ws.map fun k : Nat => PyData.int (k : Int)) (i : Int) = some (.int (ws.getD i 0 : Nat)) := by
  rw [atI_cast, List.getElem?_map, List.getElem?_eq_getElem h, List.getD_eq_getElem?_getD, List.getElem?_eq_getElem h]
  rfl
theorem digit_loop {De : DEnds} {s0 s1 s2 s3 s4 s5 s6 s8 s9 s12 : SD} {p : Addr} : ∀ (ws : List (List Nat)) (rest : Nat) (acc : List Nat) (s7 : SD), (∀ w ∈ ws, 1 ≤ w.length ∧ w.length ≤ 3) → acc.length + ws.length ≤ 1000 →
    (∀ (s7 : SD) (r : Nat), De.nx [s0, s1, s2, s3, s4, s5, s6, s7, s8, s9, .dt (.int (r : Int)), .ow p (.lst ((acc ++ digs ws rest).map fun k : Nat => .int (k : Int))), s12]) →
    sForGo (dgName 7) (sSeq (sApp 11 (dOp ixD (dVar 7) (dOp modD (dVar 10) (dCall lenD (dCons (dVar 7) dNil))))) (sAsg (dOp fdivD (dVar 10) (dCall lenD (dCons (dVar 7) dNil))) (dgName 10))) De (ws.map natsD) [s0, s1, s2, s3, s4, s5, s6, s7, s8, s9, .dt (.int (rest : Int)), .ow p (.lst (acc.map fun k : Nat => .int (k : Int))), s12]
  | [], rest, acc, s7, _, _, q => by
    have := q s7 rest
    unfold digs at this
    rw [List.append_nil] at this
    exact this
  | w :: ws, rest, acc, s7, hw, hl, q => by
    obtain ⟨h1, h3⟩ := hw w List.mem_cons_self
    rw [List.map_cons]
    unfold sForGo natsD
    walk_at "x"
    rw [List.length_map]
    refine st_mod (by omega) ?_
    have e1 : (rest : Int) % (w.length : Int) = ((rest % w.length : Nat) : Int) := by omega
    rw [e1]
    refine st_ixL (getD_at (Nat.mod_lt _ h1)) ?_
    refine ⟨p, _, rfl, by simp; simp at hl; omega, ?_⟩
    walk_at "x"
    rw [List.length_map]
    refine st_fdiv ⟨by omega, by omega⟩ ?_
    have e2 : (rest : Int) / (w.length : Int) = ((rest / w.length : Nat) : Int) := by omega
    rw [e2]
    walk_at "x"
    have ih := digit_loop (De := De) (s0 := s0) (s1 := s1) (s2 := s2) (s3 := s3) (s4 := s4) (s5 := s5) (s6 := s6) (s8 := s8) (s9 := s9) (s12 := s12) (p := p) ws (rest / w.length) (acc ++ [w.getD (rest % w.length) 0]) (.dt (natsD w)) (fun v hv => hw v (List.mem_cons_of_mem _ hv)) (by simp; simp at hl; omega) fun s7 r => by
      have := q s7 r
      unfold digs at this
      rw [List.append_assoc]
      exact this
    rw [List.map_append] at ih
    exact ih
theorem total_loop {De : DEnds} {s0 s1 s2 s3 s4 s5 s8 s9 s10 s11 s12 : SD} : ∀ (ws : List (List Nat)) (t : Nat) (s7 : SD), (∀ w ∈ ws, 1 ≤ w.length ∧ w.length ≤ 3) →
    (∀ (s7 : SD), De.nx [s0, s1, s2, s3, s4, s5, .dt (.int ((t * prodL ws : Nat) : Int)), s7, s8, s9, s10, s11, s12]) →
    sForGo (dgName 7) (sAsg (dOp mulD (dVar 6) (dCall lenD (dCons (dVar 7) dNil))) (dgName 6)) De (ws.map natsD) [s0, s1, s2, s3, s4, s5, .dt (.int (t : Int)), s7, s8, s9, s10, s11, s12]
  | [], t, s7, _, q => by
    have := q s7
    unfold prodL at this
    rw [Nat.mul_one] at this
    exact this
  | w :: ws, t, s7, hw, q => by
    obtain ⟨h1, h3⟩ := hw w List.mem_cons_self
    rw [List.map_cons]
    unfold sForGo natsD
    walk_at "x"
    rw [List.length_map]
    refine st_mulR ⟨by omega, by omega⟩ ?_
    have e2 : (t : Int) * (w.length : Int) = ((t * w.length : Nat) : Int) := by rw [Int.natCast_mul]
    rw [e2]
    walk_at "x"
    refine total_loop ws (t * w.length) _ (fun v hv => hw v (List.mem_cons_of_mem _ hv)) fun s7 => ?_
    have := q s7
    unfold prodL at this
    rw [Nat.mul_assoc]
    exact this
theorem prod_le : ∀ {ws : List (List Nat)}, (∀ w ∈ ws, 1 ≤ w.length ∧ w.length ≤ 3) → prodL ws ≤ 3 ^ ws.length
  | [], _ => by simp [prodL]
  | w :: ws, h => by
    have h1 := prod_le (ws := ws) fun v hv => h v (List.mem_cons_of_mem _ hv)
    have h2 := (h w List.mem_cons_self).2
    unfold prodL
    rw [List.length_cons, Nat.pow_succ, Nat.mul_comm (3 ^ ws.length)]
    exact Nat.mul_le_mul h2 h1
def seen3 (ws : List (List Nat)) (c : Cd) (n : Nat) : List D := [.bool (seenN ws c n 0), .bool (seenN ws c n 1), .bool (seenN ws c n 2)]
theorem rp_law_told (as : List SD) (Q : RS → List SD → Prop) (h : sp_law_told as Q) : rd_law_told 40 { nx := fun δ => Q (.dt .none) (outs as δ), rt := fun d δ => Q d (outs as δ) } (startD 13 as) := by
  obtain ⟨lvs, c, u, rfl, hg, hc, h5, hh, q⟩ := h
  show rd_law_told 40 _ [.dt (.list (lvs.map encLv)), .dt (encB c), .dt (.int u), .un, .un, .un, .un, .un, .un, .un, .un, .un, .un]
  unfold rd_law_told
  walk_at "x"
  rename_i p
  have hwl : (waysL lvs u).length = lvs.length := List.length_map _
  have hws : ∀ w ∈ waysL lvs u, 1 ≤ w.length ∧ w.length ≤ 3 := fun w hw => by
    obtain ⟨x, _, rfl⟩ := List.mem_map.mp hw
    exact wayL_len _ _
  refine for_inv (fun i δ => ∃ (s4 s5 : SD), δ = [.dt (.list (lvs.map encLv)), .dt (encB c), .dt (.int u), .ow p (.lst (((waysL lvs u).take i).map natsD)), s4, s5, .un, .un, .un, .un, .un, .un, .un]) ⟨.un, .un, rfl⟩ ?_ ?_
  · rintro i x δ N hx ⟨s4, s5, rfl⟩ hN
    rw [List.getElem?_map] at hx
    obtain ⟨lv, hlv, rfl⟩ := Option.map_eq_some_iff.mp hx
    have hgl := hg lv (List.mem_of_getElem? hlv)
    have hil := lt_of_get hlv
    have e1 : (waysL lvs u).take (i + 1) = (waysL lvs u).take i ++ [wayL (hitL lv.1 u) lv.1] := by
      have : (waysL lvs u)[i]? = some (wayL (hitL lv.1 u) lv.1) := by
        unfold waysL
        rw [List.getElem?_map, hlv]
        rfl
      rw [List.take_add_one, this]
      rfl
    have hcl : lv.2.length ≤ 50000 := by have := hgl.2.2; omega
    unfold encLv
    walk_at "x"
    refine st_lc (own1 rfl rfl) ?_
    walk_at "x"
    refine ⟨own1 rfl rfl, lc_opt (colU u) (by rw [List.length_map]; simp; omega) (fun y hy Ny Nn h1 h2 => ?_) ?_⟩
    · obtain ⟨r, _, rfl⟩ := List.mem_map.mp hy
      unfold encC at h1 h2 ⊢
      walk_at "s"
      walk_at "x"
      refine ite_dec (fun h3 => ?_) (fun h3 => ?_)
      · walk_at "x"
        exact h1 _ _ (if_pos h3) rfl
      · exact h2 _ (if_neg h3) rfl
    walk_at "x"
    rw [List.nil_append, colU_len, hit_iff hgl u]
    have fin : ∀ (t : D) (s5 : SD), t = natsD (wayL (hitL lv.1 u) lv.1) → N [.dt (.list (lvs.map encLv)), .dt (encB c), .dt (.int u), .ow p (.lst ((((waysL lvs u).take i).map natsD) ++ [t])), .dt (.tuple [encL lv.1, .list (lv.2.map encC)]), s5, .un, .un, .un, .un, .un, .un, .un] := by
      rintro t s5 rfl
      have e2 : (((waysL lvs u).take i).map natsD) ++ [natsD (wayL (hitL lv.1 u) lv.1)] = ((waysL lvs u).take (i + 1)).map natsD := by
        rw [e1, List.map_append]
        rfl
      rw [e2]
      exact hN _ ⟨_, s5, rfl⟩
    have hlen : (((waysL lvs u).take i).map natsD).length ≤ 100000 := by
      rw [List.length_map, List.length_take]
      omega
    generalize hitL lv.1 u = hit at fin ⊢
    generalize lv.1 = l at fin ⊢
    cases l with
    | nul e =>
      unfold encL at *
      walk_at "x"
      cases hit with
      | true =>
        walk_at "x"
        refine ⟨p, _, rfl, hlen, ?_⟩
        walk_at "x"
        exact fin _ _ rfl
      | false =>
        walk_at "x"
        refine ⟨p, _, rfl, hlen, ?_⟩
        walk_at "x"
        exact fin _ _ rfl
    | cmp o a b =>
      unfold encL at *
      walk_at "x"
      cases hit with
      | true =>
        walk_at "x"
        refine ⟨p, _, rfl, hlen, ?_⟩
        walk_at "x"
        exact fin _ _ rfl
      | false =>
        walk_at "x"
        refine ⟨p, _, rfl, hlen, ?_⟩
        walk_at "x"
        exact fin _ _ rfl
  · rintro δ ⟨s4, s5, rfl⟩
    rw [List.length_map, show (waysL lvs u).take lvs.length = waysL lvs u from by rw [← hwl, List.take_length]]
    walk_at "x"
    refine total_loop (waysL lvs u) 1 _ hws fun s7 => ?_
    rw [Nat.one_mul]
    walk_at "x"
    rename_i p8
    have hp : prodL (waysL lvs u) ≤ 3 ^ 5 := Nat.le_trans (prod_le hws) (Nat.pow_le_pow_right (by decide) (by omega))
    refine ⟨_, rfl, by omega, by omega, ?_⟩
    rw [Int.toNat_natCast]
    refine for_rng (fun i δ => ∃ (s7 s9 s10 s11 : SD), δ = [.dt (.list (lvs.map encLv)), .dt (encB c), .dt (.int u), .dt (.list ((waysL lvs u).map natsD)), s4, s5, .dt (.int (prodL (waysL lvs u) : Nat)), s7, .ow p8 (.lst (seen3 (waysL lvs u) c i)), s9, s10, s11, .un]) ⟨s7, .un, .un, .un, rfl⟩ ?_ ?_
    · rintro i δ N hi ⟨s7, s9, s10, s11, rfl⟩ hN
      rw [Int.zero_add]
      walk_at "x"
      rename_i p11
      refine digit_loop (waysL lvs u) i [] s7 hws (by simp; omega) fun s7 r => ?_
      rw [List.nil_append]
      dsimp only
      refine st_setO ?_
      walk_at "x"
      refine ⟨⟨p8, _, rfl⟩, ?_⟩
      walk_at "x"
      refine call_ok (by simp [bors]) (by simp [bors]) fun Q2 hQ => ⟨c, digs (waysL lvs u) i, rfl, fun k hk => ?_, fun x hx => ?_, hh, hQ _ _ rfl ?_⟩
      · rw [hc] at hk
        rw [digs_len, hwl]
        exact List.mem_range.mp hk
      · obtain ⟨k, hk⟩ := List.mem_iff_getElem?.mp hx
        have hkl := lt_of_get hk
        rw [digs_len] at hkl
        have := digs_mem _ _ (fun w hw => (hws w hw).1) k x _ hk (List.getElem?_eq_getElem hkl)
        obtain ⟨y, _, e⟩ := List.mem_map.mp (List.getElem_mem hkl)
        rw [← e] at this
        exact wayL_le this
      walk_at "s"
      have lfs : ∀ k, (digs (waysL lvs u) i).getD k 0 ≤ 2 := fs_le fun x hx => by
        obtain ⟨k, hk⟩ := List.mem_iff_getElem?.mp hx
        have hkl := lt_of_get hk
        rw [digs_len] at hkl
        have := digs_mem _ _ (fun w hw => (hws w hw).1) k x _ hk (List.getElem?_eq_getElem hkl)
        obtain ⟨y, _, e⟩ := List.mem_map.mp (List.getElem_mem hkl)
        rw [← e] at this
        exact wayL_le this
      have hle := atC_le lfs c
      have hs := fun l => seenN_succ (waysL lvs u) c i l
      generalize atC (fun k => (digs (waysL lvs u) i).getD k 0) c = a at hle hs ⊢
      refine ⟨p8, _, _, a, rfl, rfl, ixN_nat (by unfold seen3; simp; omega), ?_⟩
      walk_at "x"
      have e3 : seen3 (waysL lvs u) c (i + 1) = (seen3 (waysL lvs u) c i).set a (.bool true) := by
        unfold seen3
        rw [hs, hs, hs]
        rcases lev3 hle with rfl | rfl | rfl <;> simp
      rw [← e3]
      exact hN _ ⟨_, _, _, _, rfl⟩
    · rintro δ ⟨s7, s9, s10, s11, rfl⟩
      walk_at "x"
      refine ⟨p8, _, _, _, rfl, rfl, (show atI (seen3 _ _ _) 2 = some _ from rfl), ?_⟩
      walk_at "x"
      refine ⟨p8, _, _, _, rfl, rfl, (show atI (seen3 _ _ _) 0 = some _ from rfl), ?_⟩
      walk_at "x"
      refine ⟨p8, _, _, _, rfl, rfl, (show atI (seen3 _ _ _) 1 = some _ from rfl), ?_⟩
      walk_at "x"
      walk_at "o"
      have e := seen_all lvs u c hc
      have e4 : ((prodL (waysL lvs u) : Int) - 0).toNat = prodL (waysL lvs u) := by omega
      rw [← e, ← e, ← e] at q
      exact q
theorem oneOut_dk {p : Addr} {ns ns' : List Int} : oneOut (deck p ns) (deck p ns') = deck p ns' := if_pos rfl
theorem oneOut_dt {d : D} {s : SD} : oneOut (.dt d) s = .un := by cases s <;> rfl
theorem DkTo.refl {s : SD} (h : IsDk s) : DkTo s s := by
  rcases h with ⟨p, ns, rfl⟩ | rfl
  · exact .inl ⟨p, ns, ns, rfl, rfl⟩
  · exact .inr ⟨rfl, rfl⟩
theorem DkTo.trans {s t u : SD} (h : DkTo s t) (k : DkTo t u) : DkTo s u := by
  rcases h with ⟨p, ns, ns', rfl, rfl⟩ | ⟨rfl, rfl⟩
  · rcases k with ⟨p2, ms, ms', e, rfl⟩ | ⟨e, _⟩
    · have : p = p2 := by injection e
      subst this
      exact .inl ⟨p, ns, ms', rfl, rfl⟩
    · cases e
  · rcases k with ⟨p2, ms, ms', e, rfl⟩ | ⟨_, rfl⟩
    · cases e
    · exact .inr ⟨rfl, rfl⟩
theorem DkTo.is {s t : SD} (h : DkTo s t) : IsDk t := by
  rcases h with ⟨p, ns, ns', rfl, rfl⟩ | ⟨rfl, rfl⟩
  · exact .inl ⟨p, ns', rfl⟩
  · exact .inr rfl
theorem DkTo.own {p : Addr} {ns : List Int} {t : SD} (h : DkTo (deck p ns) t) : ∃ ns', t = deck p ns' := by
  rcases h with ⟨p2, ms, ms', e, rfl⟩ | ⟨e, _⟩
  · have : p = p2 := by injection e
    subst this
    exact ⟨ms', rfl⟩
  · cases e
theorem pick_ok {p : Addr} {ns : List Int} {m : Int} {Q2 : RS → List SD → Prop} (hm : 0 < m) (q : ∀ (r : Int) (ns' : List Int), 0 ≤ r → r < m → Q2 (.dt (.int r)) [deck p ns', .un]) : sp_law_pick [deck p ns, .dt (.int m)] Q2 :=
  ⟨_, m, rfl, .inl ⟨p, ns, rfl⟩, hm, fun r s' h0 h1 hd => by
    obtain ⟨ns', rfl⟩ := hd.own
    rw [oneOut_dk]
    exact q r ns' h0 h1⟩
theorem number_ok {p : Addr} {ns : List Int} {Q2 : RS → List SD → Prop} (q : ∀ (r : Int) (ns' : List Int), 0 ≤ r → r ≤ 999999999 → Q2 (.dt (.int r)) [deck p ns']) : sp_law_number [deck p ns] Q2 :=
  ⟨_, rfl, .inl ⟨p, ns, rfl⟩, fun r s' h0 h1 hd => by
    obtain ⟨ns', rfl⟩ := hd.own
    rw [oneOut_dk]
    exact q r ns' h0 h1⟩
theorem word_ok {p : Addr} {ns : List Int} {Q2 : RS → List SD → Prop} (q : ∀ (x : Str) (ns' : List Int), Q2 (.dt (.str x)) [deck p ns']) : sp_law_word [deck p ns] Q2 :=
  ⟨_, rfl, .inl ⟨p, ns, rfl⟩, fun x s' hd => by
    obtain ⟨ns', rfl⟩ := hd.own
    rw [oneOut_dk]
    exact q x ns'⟩
theorem st_pickA {δ : Dl} {i : Nat} {s : SD} {m : Int} {Q : D → List Ent → List SD → Dl → Prop} (h : δ[i]? = some s) (hs : IsDk s) (hm : 0 < m) (q : ∀ r s' es as', 0 ≤ r → r < m → DkTo s s' → back es as' δ = δ.set i s' → Q (.int r) es as' δ) :
    cAny i (cCons (dC (.int m)) cNil) δ (fun es δ' => (bors es).Nodup ∧ (∀ i ∈ bors es, i < δ'.length) ∧ ∀ Q2 : RS → List SD → Prop, (∀ d as', as'.length = es.length → Q d es as' δ' → Q2 (.dt d) as') → sp_law_pick (es.map (resD δ')) Q2) := by
  have hl := lt_of_get h
  rcases hs with ⟨p, ns, rfl⟩ | rfl
  · refine st_cAny h ?_
    walk_at "x"
    refine call_ok (by simp [bors]) (by simp [bors]; exact hl) fun Q2 hQ => ?_
    show sp_law_pick [δ[i]?.getD .un, .dt (.int m)] Q2
    rw [h]
    exact pick_ok hm fun r ns' h0 h1 => hQ _ _ rfl (q r _ _ _ h0 h1 (.inl ⟨p, ns, ns', rfl, rfl⟩) rfl)
  · refine st_cAnyD h ?_
    walk_at "x"
    exact call_ok (by simp [bors]) (by simp [bors]) fun Q2 hQ => ⟨_, m, rfl, .inr rfl, hm, fun r s' h0 h1 hd => hQ _ _ rfl (q r _ _ _ h0 h1 (DkTo.refl (.inr rfl)) (set_self h).symm)⟩
theorem st_numberA {δ : Dl} {i : Nat} {s : SD} {Q : D → List Ent → List SD → Dl → Prop} (h : δ[i]? = some s) (hs : IsDk s) (q : ∀ r s' es as', 0 ≤ r → r ≤ 999999999 → DkTo s s' → back es as' δ = δ.set i s' → Q (.int r) es as' δ) :
    cAny i cNil δ (fun es δ' => (bors es).Nodup ∧ (∀ i ∈ bors es, i < δ'.length) ∧ ∀ Q2 : RS → List SD → Prop, (∀ d as', as'.length = es.length → Q d es as' δ' → Q2 (.dt d) as') → sp_law_number (es.map (resD δ')) Q2) := by
  have hl := lt_of_get h
  rcases hs with ⟨p, ns, rfl⟩ | rfl
  · refine st_cAny h ?_
    walk_at "x"
    refine call_ok (by simp [bors]) (by simp [bors]; exact hl) fun Q2 hQ => ?_
    show sp_law_number [δ[i]?.getD .un] Q2
    rw [h]
    exact number_ok fun r ns' h0 h1 => hQ _ _ rfl (q r _ _ _ h0 h1 (.inl ⟨p, ns, ns', rfl, rfl⟩) rfl)
  · refine st_cAnyD h ?_
    walk_at "x"
    exact call_ok (by simp [bors]) (by simp [bors]) fun Q2 hQ => ⟨_, rfl, .inr rfl, fun r s' h0 h1 hd => hQ _ _ rfl (q r _ _ _ h0 h1 (DkTo.refl (.inr rfl)) (set_self h).symm)⟩
theorem st_wordA {δ : Dl} {i : Nat} {s : SD} {Q : D → List Ent → List SD → Dl → Prop} (h : δ[i]? = some s) (hs : IsDk s) (q : ∀ x s' es as', DkTo s s' → back es as' δ = δ.set i s' → Q (.str x) es as' δ) :
    cAny i cNil δ (fun es δ' => (bors es).Nodup ∧ (∀ i ∈ bors es, i < δ'.length) ∧ ∀ Q2 : RS → List SD → Prop, (∀ d as', as'.length = es.length → Q d es as' δ' → Q2 (.dt d) as') → sp_law_word (es.map (resD δ')) Q2) := by
  have hl := lt_of_get h
  rcases hs with ⟨p, ns, rfl⟩ | rfl
  · refine st_cAny h ?_
    walk_at "x"
    refine call_ok (by simp [bors]) (by simp [bors]; exact hl) fun Q2 hQ => ?_
    show sp_law_word [δ[i]?.getD .un] Q2
    rw [h]
    exact word_ok fun r ns' => hQ _ _ rfl (q r _ _ _ (.inl ⟨p, ns, ns', rfl, rfl⟩) rfl)
  · refine st_cAnyD h ?_
    walk_at "x"
    exact call_ok (by simp [bors]) (by simp [bors]) fun Q2 hQ => ⟨_, rfl, .inr rfl, fun r s' hd => hQ _ _ rfl (q r _ _ _ (DkTo.refl (.inr rfl)) (set_self h).symm)⟩
theorem rp_law_deck (as : List SD) (Q : RS → List SD → Prop) (h : sp_law_deck as Q) : rd_law_deck { nx := fun δ => Q (.dt .none) (outs as δ), rt := fun d δ => Q d (outs as δ) } (startD 6 as) := by
  obtain ⟨ns, rfl, hl, q⟩ := h
  show rd_law_deck _ [.dt (.list (ns.map .int)), .un, .un, .un, .un, .un]
  unfold rd_law_deck
  walk_at "x"
  rename_i p
  refine for_inv (fun i δ => ∃ (mix : Int) (row : List Int) (c r k : SD), δ = [.dt (.list (ns.map .int)), .ow p (.lst (row.map .int)), .dt (.int mix), c, r, k] ∧ i ≤ ns.length ∧ row.length ≤ i * 60) ⟨_, [], .un, .un, .un, rfl, by omega, by simp⟩ ?_ ?_
  · rintro i x δ N hx ⟨mix, row, c, r, k, rfl, hi, hrow⟩ hN
    have hil := lt_of_get hx
    rw [List.length_map] at hil
    rw [List.getElem?_map, List.getElem?_eq_getElem hil] at hx
    cases hx
    walk_at "x"
    refine ite_dec (fun h2 => ?_) (fun h2 => ?_)
    · walk_at "x"
      refine ⟨_, rfl, by omega, by omega, ?_⟩
      refine for_rng (fun j δ => ∃ (row' : List Int) (mix z : Int) (k : SD), δ = [.dt (.list (ns.map .int)), .ow p (.lst (row'.map .int)), .dt (.int mix), .dt (.int ns[i]), .dt (.int z), k] ∧ row'.length ≤ row.length + j ∧ j ≤ 60) ⟨row, _, _, k, rfl, by omega, by omega⟩ ?_ ?_
      · rintro j δ N2 hj ⟨row', mix, z, k', rfl, hr', hj58⟩ hN2
        walk_at "x"
        refine ite_dec (fun h3 => ?_) (fun h3 => ?_)
        · walk_at "x"
          refine ⟨_, _, rfl, by rw [List.length_map]; omega, ?_⟩
          walk_at "x"
          exact hN2 _ ⟨row' ++ [_], _, _, _, by rw [List.map_append]; rfl, by rw [List.length_append]; simp; omega, by omega⟩
        · walk_at "x"
          exact hN2 _ ⟨row', mix, z, _, rfl, by omega, by omega⟩
      · rintro δ ⟨row', mix, z, k', rfl, hr', hj58⟩
        walk_at "x"
        exact hN _ ⟨_, row', _, _, _, rfl, by omega, by simp at hr'; omega⟩
    · walk_at "x"
      exact hN _ ⟨_, row, _, _, _, rfl, by omega, by omega⟩
  · rintro δ ⟨mix, row, c, r, k, rfl, hi, hrow⟩
    rw [List.length_map] at hrow
    walk_at "x"
    refine ⟨_, rfl, by omega, by omega, ?_⟩
    refine for_rng (fun j δ => ∃ (mix : Int) (row' : List Int) (k : SD), δ = [.dt (.list (ns.map .int)), .ow p (.lst (row'.map .int)), .dt (.int mix), c, r, k] ∧ row'.length ≤ row.length + j ∧ j ≤ 330) ⟨mix, row, k, rfl, by omega, by omega⟩ ?_ ?_
    · rintro j δ N2 hj ⟨mix, row', k', rfl, hr', hj58⟩ hN2
      walk_at "x"
      refine ⟨_, _, rfl, by rw [List.length_map]; omega, ?_⟩
      walk_at "x"
      exact hN2 _ ⟨_, row' ++ [_], _, by rw [List.map_append]; rfl, by rw [List.length_append]; simp; omega, by omega⟩
    · rintro δ ⟨mix, row', k', rfl, hr', hj58⟩
      walk_at "x"
      walk_at "o"
      rw [← List.map_reverse]
      exact q _
theorem rp_law_pick (as : List SD) (Q : RS → List SD → Prop) (h : sp_law_pick as Q) : rd_law_pick { nx := fun δ => Q (.dt .none) (outs as δ), rt := fun d δ => Q d (outs as δ) } (startD 2 as) := by
  obtain ⟨s, m, rfl, hs, hm, q⟩ := h
  show rd_law_pick _ [s, .dt (.int m)]
  unfold rd_law_pick
  rcases hs with ⟨p, ns, rfl⟩ | rfl
  · have q' : ∀ (r : Int) (ns' : List Int), 0 ≤ r → r < m → Q (.dt (.int r)) [deck p ns', .un] := fun r ns' h0 h1 => by
      have := q r (deck p ns') h0 h1 (.inl ⟨p, ns, ns', rfl, rfl⟩)
      rw [oneOut_dk] at this
      exact this
    walk_at "x"
    by_cases h0 : ns = []
    · subst h0
      walk_at "x"
      walk_at "o"
      exact q' 0 [] (by omega) hm
    · obtain ⟨l, z, rfl⟩ := snoc_of (l := ns) (fun z => h0 (List.length_eq_zero_iff.mp (by omega)))
      refine ite_kF (by simp) ?_
      walk_at "x"
      refine st_popInts rfl ?_
      walk_at "x"
      refine st_mod hm ?_
      walk_at "o"
      exact q' _ l (Int.emod_nonneg _ (by omega)) (Int.emod_lt_of_pos _ hm)
  · walk_at "x"
    walk_at "o"
    exact q 0 _ (by omega) hm (.inr ⟨rfl, rfl⟩)
theorem rp_law_number (as : List SD) (Q : RS → List SD → Prop) (h : sp_law_number as Q) : rd_law_number { nx := fun δ => Q (.dt .none) (outs as δ), rt := fun d δ => Q d (outs as δ) } (startD 1 as) := by
  obtain ⟨s, rfl, hs, q⟩ := h
  show rd_law_number _ [s]
  unfold rd_law_number
  walk_at "x"
  refine st_pickA rfl hs (by omega) fun r s1 es as' h0 h1 d1 e => ?_
  rw [e]
  walk_at "s"
  walk_at "x"
  refine ite_dec (fun h2 => ?_) (fun h2 => ?_)
  · walk_at "x"
    refine st_pickA rfl d1.is (by omega) fun r s2 es as' h0 h1 d2 e => ?_
    rw [e]
    walk_at "s"
    walk_at "x"
    exact q _ s2 (by omega) (by omega) (d1.trans d2)
  · walk_at "x"
    refine st_pickA rfl d1.is (by omega) fun r s2 es as' h0 h1 d2 e => ?_
    rw [e]
    walk_at "s"
    walk_at "x"
    exact q _ s2 (by omega) (by omega) (d1.trans d2)
theorem five {r : Int} (h0 : 0 ≤ r) (h1 : r < 5) : r = 0 ∨ r = 1 ∨ r = 2 ∨ r = 3 ∨ r = 4 := by omega
theorem rp_law_word (as : List SD) (Q : RS → List SD → Prop) (h : sp_law_word as Q) : rd_law_word { nx := fun δ => Q (.dt .none) (outs as δ), rt := fun d δ => Q d (outs as δ) } (startD 1 as) := by
  obtain ⟨s, rfl, hs, q⟩ := h
  show rd_law_word _ [s]
  unfold rd_law_word
  walk_at "x"
  refine st_pickA rfl hs (by omega) fun r s1 es as' h0 h1 d1 e => ?_
  rw [e]
  walk_at "s"
  rcases five h0 h1 with rfl | rfl | rfl | rfl | rfl
  all_goals
    walk_at "x"
    exact q _ s1 d1
theorem nat_of {r : Int} (h : 0 ≤ r) : ∃ k : Nat, r = (k : Int) := ⟨r.toNat, by omega⟩
theorem rp_law_part (as : List SD) (Q : RS → List SD → Prop) (h : sp_law_part as Q) : rd_law_part { nx := fun δ => Q (.dt .none) (outs as δ), rt := fun d δ => Q d (outs as δ) } (startD 5 as) := by
  obtain ⟨p, pc, ns, t, cs, rfl, hl, q⟩ := h
  show rd_law_part _ [deck p ns, .dt (.bool t), colsO pc cs, .un, .un]
  unfold rd_law_part
  walk_at "x"
  refine call_ok (by simp [bors]) (by simp [bors]) fun Q2 hQ => pick_ok (by omega) fun r ns1 h0 h1 => hQ _ _ rfl ?_
  walk_at "s"
  walk_at "x"
  refine ite_dec (fun h2 => ?_) (fun h2 => ?_)
  · cases t with
    | true =>
      walk_at "x"
      refine call_ok (by simp [bors]) (by simp [bors]) fun Q2 hQ => word_ok fun x ns2 => hQ _ _ rfl ?_
      walk_at "s"
      walk_at "x"
      walk_at "o"
      exact q (.txt x) ns2 cs trivial rfl (fun z => nomatch z) (fun _ => by simp [colsX]) (by omega)
    | false =>
      walk_at "x"
      refine call_ok (by simp [bors]) (by simp [bors]) fun Q2 hQ => number_ok fun r ns2 h0 h1 => hQ _ _ rfl ?_
      walk_at "s"
      walk_at "x"
      walk_at "o"
      exact q (.num r) ns2 cs (show -1000000000 ≤ r ∧ r ≤ 1000000000 by omega) rfl (fun _ => trivial) (fun _ => by simp [colsX]) (by omega)
  · walk_at "x"
    refine call_ok (by simp [bors]) (by simp [bors]) fun Q2 hQ => pick_ok (by omega) fun u ns2 hu0 hu1 => hQ _ _ rfl ?_
    walk_at "s"
    obtain ⟨u, rfl⟩ := nat_of hu0
    walk_at "x"
    cases t with
    | true =>
      walk_at "x"
      refine ⟨pc, _, rfl, by rw [List.length_map]; omega, ?_⟩
      walk_at "x"
      walk_at "o"
      have := q (.col u 2) ns2 (cs ++ [(u, 2)]) (show u < 4 ∧ 2 = 2 from ⟨by omega, rfl⟩) rfl (fun z => nomatch z) (fun _ => by simp [colsX]) (by simp)
      rw [colsO, List.map_append] at this
      exact this
    | false =>
      walk_at "x"
      refine call_ok (by simp [bors]) (by simp [bors]) fun Q2 hQ => pick_ok (by omega) fun c ns3 hc0 hc1 => hQ _ _ rfl ?_
      walk_at "s"
      obtain ⟨c, rfl⟩ := nat_of hc0
      walk_at "x"
      refine ⟨pc, _, rfl, by rw [List.length_map]; omega, ?_⟩
      walk_at "x"
      walk_at "o"
      have := q (.col u c) ns3 (cs ++ [(u, c)]) (show u < 4 ∧ c < 2 from ⟨by omega, by omega⟩) rfl (fun _ => trivial) (fun _ => by simp [colsX]) (by simp)
      rw [colsO, List.map_append] at this
      exact this
theorem seven {r : Int} (h0 : 0 ≤ r) (h1 : r < 7) : ∃ k : Nat, k ≤ 3 ∧ atI [PyData.int 0, .int 0, .int 0, .int 1, .int 1, .int 2, .int 3] r = some (.int (k : Int)) := by
  have : r = 0 ∨ r = 1 ∨ r = 2 ∨ r = 3 ∨ r = 4 ∨ r = 5 ∨ r = 6 := by omega
  rcases this with rfl | rfl | rfl | rfl | rfl | rfl | rfl
  · exact ⟨0, by omega, rfl⟩
  · exact ⟨0, by omega, rfl⟩
  · exact ⟨0, by omega, rfl⟩
  · exact ⟨1, by omega, rfl⟩
  · exact ⟨1, by omega, rfl⟩
  · exact ⟨2, by omega, rfl⟩
  · exact ⟨3, by omega, rfl⟩
theorem rp_law_expr (as : List SD) (Q : RS → List SD → Prop) (h : sp_law_expr as Q) : rd_law_expr { nx := fun δ => Q (.dt .none) (outs as δ), rt := fun d δ => Q d (outs as δ) } (startD 6 as) := by
  obtain ⟨p, pc, ns, t, cs, rfl, hl, q⟩ := h
  show rd_law_expr _ [deck p ns, .dt (.bool t), colsO pc cs, .un, .un, .un]
  unfold rd_law_expr
  walk_at "x"
  refine call_ok (by simp [bors]) (by simp [bors]) fun Q2 hQ => ⟨p, pc, ns, t, cs, rfl, by omega, fun e ns1 cs1 hk hh hp hc hcl => hQ _ _ rfl ?_⟩
  walk_at "s"
  cases t with
  | true =>
    walk_at "x"
    walk_at "o"
    exact q e ns1 cs1 hk (by omega) hc (by omega)
  | false =>
    walk_at "x"
    refine call_ok (by simp [bors]) (by simp [bors]) fun Q2 hQ => pick_ok (by omega) fun r ns2 h0 h1 => hQ _ _ rfl ?_
    walk_at "s"
    obtain ⟨k, hk3, ek⟩ := seven h0 h1
    refine st_ixL ek ?_
    walk_at "x"
    refine ⟨_, rfl, by omega, by omega, ?_⟩
    rw [Int.toNat_natCast]
    refine for_rng (fun i δ => ∃ (e : Xp) (ns : List Int) (cs' : List (Nat × Nat)) (s4 s5 : SD), δ = [deck p ns, .dt (.bool false), colsO pc cs', .dt (encX e), s4, s5] ∧ numX e ∧ hX e ≤ i + 1 ∧ (∀ q, q ∈ cs' ↔ q ∈ cs ∨ q ∈ colsX e) ∧ cs'.length ≤ cs.length + 1 + i) ⟨e, ns2, cs1, .un, .un, rfl, hk, by omega, hc, by omega⟩ ?_ ?_
    · rintro i δ N hi ⟨e, ns, cs2, s4, s5, rfl, he, hh, hc, hcl⟩ hN
      walk_at "x"
      refine call_ok (by simp [bors]) (by simp [bors]) fun Q2 hQ => pick_ok (by omega) fun r ns3 h0 h1 => hQ _ _ rfl ?_
      walk_at "s"
      rcases five h0 h1 with rfl | rfl | rfl | rfl | rfl
      · walk_at "x"
        refine call_ok (by simp [bors]) (by simp [bors]) fun Q2 hQ => ⟨p, pc, _, false, _, rfl, by omega, fun f ns4 cs3 hk' hh' hp' hc' hcl' => hQ _ _ rfl ?_⟩
        walk_at "s"
        walk_at "x"
        exact hN _ ⟨.bin .add e f, ns4, cs3, _, _, rfl, ⟨he, hk', .inr (hp' rfl)⟩, by unfold hX; omega, fun q => by rw [hc', hc, colsX, List.mem_append, or_assoc], by omega⟩
      · walk_at "x"
        refine call_ok (by simp [bors]) (by simp [bors]) fun Q2 hQ => ⟨p, pc, _, false, _, rfl, by omega, fun f ns4 cs3 hk' hh' hp' hc' hcl' => hQ _ _ rfl ?_⟩
        walk_at "s"
        walk_at "x"
        exact hN _ ⟨.bin .sub e f, ns4, cs3, _, _, rfl, ⟨he, hk', .inr (hp' rfl)⟩, by unfold hX; omega, fun q => by rw [hc', hc, colsX, List.mem_append, or_assoc], by omega⟩
      · walk_at "x"
        refine call_ok (by simp [bors]) (by simp [bors]) fun Q2 hQ => ⟨p, pc, _, false, _, rfl, by omega, fun f ns4 cs3 hk' hh' hp' hc' hcl' => hQ _ _ rfl ?_⟩
        walk_at "s"
        walk_at "x"
        exact hN _ ⟨.bin .mul e f, ns4, cs3, _, _, rfl, ⟨he, hk', .inr (hp' rfl)⟩, by unfold hX; omega, fun q => by rw [hc', hc, colsX, List.mem_append, or_assoc], by omega⟩
      · walk_at "x"
        refine call_ok (by simp [bors]) (by simp [bors]) fun Q2 hQ => ⟨p, pc, _, false, _, rfl, by omega, fun f ns4 cs3 hk' hh' hp' hc' hcl' => hQ _ _ rfl ?_⟩
        walk_at "s"
        walk_at "x"
        exact hN _ ⟨.bin .sub f e, ns4, cs3, _, _, rfl, ⟨hk', he, .inl (hp' rfl)⟩, by unfold hX; omega, fun q => by rw [hc', hc, colsX, List.mem_append, or_assoc]; exact or_congr Iff.rfl or_comm, by omega⟩
      · walk_at "x"
        exact hN _ ⟨.neg e, _, cs2, _, _, rfl, he, by unfold hX; omega, hc, by omega⟩
    · rintro δ ⟨e, ns, cs2, s4, s5, rfl, he, hh, hc, hcl⟩
      walk_at "x"
      walk_at "o"
      exact q e ns cs2 he (by omega) hc (by omega)
theorem six {r : Int} (h0 : 0 ≤ r) (h1 : r < 6) : ∃ o : Op6, atI [PyData.str "=", .str "<>", .str "<", .str "<=", .str ">", .str ">="] r = some (.str o.word) := by
  have : r = 0 ∨ r = 1 ∨ r = 2 ∨ r = 3 ∨ r = 4 ∨ r = 5 := by omega
  rcases this with rfl | rfl | rfl | rfl | rfl | rfl
  · exact ⟨.eq, rfl⟩
  · exact ⟨.ne, rfl⟩
  · exact ⟨.lt, rfl⟩
  · exact ⟨.le, rfl⟩
  · exact ⟨.gt, rfl⟩
  · exact ⟨.ge, rfl⟩
theorem rp_law_leaf (as : List SD) (Q : RS → List SD → Prop) (h : sp_law_leaf as Q) : rd_law_leaf { nx := fun δ => Q (.dt .none) (outs as δ), rt := fun d δ => Q d (outs as δ) } (startD 5 as) := by
  obtain ⟨p, ns, rfl, q⟩ := h
  show rd_law_leaf _ [deck p ns, .un, .un, .un, .un]
  unfold rd_law_leaf
  walk_at "x"
  rename_i pc
  refine call_ok (by simp [bors]) (by simp [bors]) fun Q2 hQ => pick_ok (by omega) fun r ns1 h0 h1 => hQ _ _ rfl ?_
  walk_at "s"
  walk_at "x"
  generalize decide (r = 0) = t
  refine call_ok (by simp [bors]) (by simp [bors]) fun Q2 hQ => pick_ok (by omega) fun r2 ns2 h2 h3 => hQ _ _ rfl ?_
  walk_at "s"
  walk_at "x"
  refine ite_dec (fun h4 => ?_) (fun h4 => ?_)
  · walk_at "x"
    refine call_ok (by simp [bors]) (by simp [bors]) fun Q2 hQ => ⟨p, pc, ns2, t, [], rfl, by simp, fun e ns3 cs hk hh hc hcl => hQ _ _ rfl ?_⟩
    walk_at "s"
    walk_at "x"
    walk_at "o"
    exact q (.nul e, cs) ns3 ⟨⟨t, hk, hh⟩, fun z => by rw [hc]; simp [colsL], by simp at hcl ⊢; omega⟩
  · walk_at "x"
    refine call_ok (by simp [bors]) (by simp [bors]) fun Q2 hQ => ⟨p, pc, ns2, t, [], rfl, by simp, fun e ns3 cs hk hh hc hcl => hQ _ _ rfl ?_⟩
    walk_at "s"
    walk_at "x"
    refine call_ok (by simp [bors]) (by simp [bors]) fun Q2 hQ => ⟨p, pc, ns3, t, cs, rfl, by simp at hcl; omega, fun f ns4 ds hk2 hh2 hc2 hcl2 => hQ _ _ rfl ?_⟩
    walk_at "s"
    walk_at "x"
    refine call_ok (by simp [bors]) (by simp [bors]) fun Q2 hQ => pick_ok (by omega) fun r3 ns5 h5 h6 => hQ _ _ rfl ?_
    walk_at "s"
    obtain ⟨o, eo⟩ := six h5 h6
    refine st_ixL eo ?_
    walk_at "x"
    walk_at "o"
    exact q (.cmp o e f, ds) ns5 ⟨⟨t, hk, hk2, hh, hh2⟩, fun z => by rw [hc2, hc]; simp [colsL], by simp at hcl hcl2 ⊢; omega⟩
def cellsV (vals : List D) : List (List Key × D) := (uc12.zip vals).map fun x => (ucK x.1, x.2)
theorem putD_new {κ : Type} [DecidableEq κ] {kvs : List (κ × D)} {k : κ} {d : D} (h : ∀ kv ∈ kvs, kv.1 ≠ k) : putD kvs k d = kvs ++ [(k, d)] := by
  unfold putD
  rw [if_neg]
  intro z
  obtain ⟨kv, h1, h2⟩ := List.any_eq_true.mp z
  exact h kv h1 (of_decide_eq_true h2)
theorem ucK_inj {q r : Nat × Nat} (h : ucK q = ucK r) : q = r := by
  obtain ⟨a, b⟩ := q
  obtain ⟨c, d⟩ := r
  unfold ucK at h
  simp only [List.cons.injEq, Sum.inl.injEq, and_true] at h
  exact Prod.ext (by omega) (by omega)
theorem cellsV_snoc {vals : List D} {q : Nat × Nat} {v : D} (hq : uc12[vals.length]? = some q) : putD (cellsV vals) (ucK q) v = cellsV (vals ++ [v]) := by
  have hl : vals.length < uc12.length := (List.getElem?_eq_some_iff.mp hq).1
  have split : uc12 = uc12.take vals.length ++ q :: uc12.drop (vals.length + 1) := by
    have h1 := List.drop_eq_getElem_cons hl
    rw [List.getElem?_eq_getElem hl] at hq
    rw [Option.some.inj hq] at h1
    rw [← h1, List.take_append_drop]
  have hlen : (uc12.take vals.length).length = vals.length := by rw [List.length_take]; omega
  have e1 : uc12.zip (vals ++ [v]) = (uc12.take vals.length).zip vals ++ [(q, v)] := by
    conv => lhs; rw [split]
    rw [List.zip_append hlen, List.zip_cons_cons, List.zip_nil_right]
  have e2 : uc12.zip vals = (uc12.take vals.length).zip vals := by
    conv => lhs; rw [split]
    have := List.zip_append (l₁ := uc12.take vals.length) (r₁ := q :: uc12.drop (vals.length + 1)) (l₂ := vals) (r₂ := []) hlen
    rw [List.append_nil, List.zip_nil_right, List.append_nil] at this
    exact this
  unfold cellsV
  rw [e1, e2, List.map_append, putD_new]
  · rfl
  · intro kv hkv z
    obtain ⟨x, hx, rfl⟩ := List.mem_map.mp hkv
    have hx1 := (List.of_mem_zip (a := x.1) (b := x.2) hx).1
    have e : x.1 = q := ucK_inj z
    rw [e] at hx1
    have nd : uc12.Nodup := by decide
    rw [split] at nd
    have := (List.nodup_append.mp nd).2.2 q hx1 q List.mem_cons_self
    exact this rfl
def PV (w : Int) (q : Nat × Nat) (v : D) : Prop := (q.2 < 2 → smallV v) ∧ (q.2 = 2 → isTxt v) ∧ ((q.1 : Int) = w → v = .none)
def cvOf (vals : List D) (u c : Nat) : D := if u < 4 ∧ c < 3 then vals.getD (3 * u + c) .none else .none
theorem cellsK_of {vals : List D} (h : vals.length = 12) : cellsK (cvOf vals) = cellsV vals := by
  match vals, h with
  | [a, b, c, d, e, f, g, h, i, j, k, l], _ => rfl
theorem uc12_at {u c : Nat} (hu : u < 4) (hc : c < 3) : uc12[3 * u + c]? = some (u, c) := by
  have h1 : u = 0 ∨ u = 1 ∨ u = 2 ∨ u = 3 := by omega
  have h2 : c = 0 ∨ c = 1 ∨ c = 2 := by omega
  rcases h1 with rfl | rfl | rfl | rfl <;> rcases h2 with rfl | rfl | rfl <;> rfl
theorem cvOf_pv {vals : List D} {w : Int} (hl : vals.length = 12) (h : ∀ (i : Nat) (q : Nat × Nat) (v : D), uc12[i]? = some q → vals[i]? = some v → PV w q v) {u c : Nat} (hu : u < 4) (hc : c < 3) : PV w (u, c) (cvOf vals u c) := by
  have e : cvOf vals u c = vals.getD (3 * u + c) .none := if_pos ⟨hu, hc⟩
  have hi : 3 * u + c < vals.length := by omega
  rw [e, List.getD_eq_getElem?_getD, List.getElem?_eq_getElem hi]
  exact h _ _ _ (uc12_at hu hc) (List.getElem?_eq_getElem hi)
theorem rp_law_values (as : List SD) (Q : RS → List SD → Prop) (h : sp_law_values as Q) : rd_law_values { nx := fun δ => Q (.dt .none) (outs as δ), rt := fun d δ => Q d (outs as δ) } (startD 6 as) := by
  obtain ⟨s, w, rfl, hs, q⟩ := h
  show rd_law_values _ [s, .dt (.int w), .un, .un, .un, .un]
  unfold rd_law_values
  walk_at "x"
  rename_i p
  refine ⟨_, rfl, by omega, by omega, ?_⟩
  refine for_rng (fun u δ => ∃ (s' s3 s4 s5 : SD) (vals : List D), δ = [s', .dt (.int w), .ow p (OD.dt (cellsV vals)), s3, s4, s5] ∧ DkTo s s' ∧ vals.length = 3 * u ∧ u ≤ 4 ∧ ∀ (i : Nat) (q : Nat × Nat) (v : D), uc12[i]? = some q → vals[i]? = some v → PV w q v) ⟨s, .un, .un, .un, [], rfl, DkTo.refl hs, rfl, by omega, fun i q v _ h => by simp at h⟩ ?_ ?_
  · rintro u δ N hu ⟨s', s3, s4, s5, vals, rfl, d0, hv, _, pv⟩ hN
    have hu4 : u < 4 := hu
    walk_at "x"
    refine ⟨_, rfl, by omega, by omega, ?_⟩
    refine for_rng (fun c δ => ∃ (s' s4 s5 : SD) (vals : List D), δ = [s', .dt (.int w), .ow p (OD.dt (cellsV vals)), .dt (.int (u : Int)), s4, s5] ∧ DkTo s s' ∧ vals.length = 3 * u + c ∧ ∀ (i : Nat) (q : Nat × Nat) (v : D), uc12[i]? = some q → vals[i]? = some v → PV w q v) ⟨s', s4, s5, vals, by rw [Int.zero_add], d0, by omega, pv⟩ ?_ ?_
    · rintro c δ N2 hc ⟨s', s4, s5, vals, rfl, d0, hv, pv⟩ hN2
      have hc3 : c < 3 := hc
      rw [Int.zero_add]
      have hq : uc12[vals.length]? = some (u, c) := by rw [hv]; exact uc12_at hu4 hc3
      have fin : ∀ (s' : SD) (v : D), DkTo s s' → PV w (u, c) v → ∃ p' kvs ks, [s', .dt (.int w), .ow p (OD.dt (cellsV vals)), .dt (.int (u : Int)), .dt (.int (c : Int)), .dt v][2]? = some (SD.ow p' (OD.dt kvs)) ∧ keysOf [.int (u : Int), .int (c : Int)] = some ks ∧ kvs.length ≤ 100000 ∧ N2 [s', .dt (.int w), .ow p' (OD.dt (putD kvs ks v)), .dt (.int (u : Int)), .dt (.int (c : Int)), .dt v] := by
        intro s' v hd hpv
        refine ⟨p, _, ucK (u, c), rfl, rfl, ?_, ?_⟩
        · unfold cellsV
          rw [List.length_map, List.length_zip]
          omega
        rw [cellsV_snoc hq]
        refine hN2 _ ⟨s', _, _, vals ++ [v], rfl, hd, by rw [List.length_append, hv]; simp; omega, fun i q x h1 h2 => ?_⟩
        by_cases hi : i < vals.length
        · rw [List.getElem?_append_left hi] at h2
          exact pv i q x h1 h2
        · have := lt_of_get h2
          rw [List.length_append] at this
          have : i = vals.length := by simp at this; omega
          subst this
          rw [hq] at h1
          cases h1
          rw [List.getElem?_append_right (Nat.le_refl _), Nat.sub_self] at h2
          cases h2
          exact hpv
      by_cases hc2 : c = 2
      · subst hc2
        walk_at "x"
        refine st_wordA rfl d0.is fun x s1 es as' d1 e => ?_
        rw [e]
        walk_at "s"
        walk_at "x"
        refine ite_dec (fun h1 => ?_) (fun h1 => ?_)
        · walk_at "x"
          exact fin _ .none (d0.trans d1) ⟨fun z => absurd z (Nat.lt_irrefl 2), fun _ => .inl rfl, fun _ => rfl⟩
        walk_at "x"
        refine st_pickA rfl d1.is (by omega) fun r s2 es as' h0 h2 d2 e => ?_
        rw [e]
        walk_at "s"
        walk_at "x"
        refine ite_dec (fun h3 => ?_) (fun h3 => ?_)
        · walk_at "x"
          exact fin _ .none ((d0.trans d1).trans d2) ⟨fun z => absurd z (Nat.lt_irrefl 2), fun _ => .inl rfl, fun _ => rfl⟩
        walk_at "x"
        exact fin _ (.str x) ((d0.trans d1).trans d2) ⟨fun z => absurd z (Nat.lt_irrefl 2), fun _ => .inr ⟨x, rfl⟩, fun z => absurd z h1⟩
      · have hcI : ¬ ((c : Int) = 2) := by omega
        have hcL : (c : Int) < 2 := by omega
        walk_at "x"
        refine ite_kF (decide_eq_false hcI) ?_
        refine st_numberA rfl d0.is fun x s1 es as' hx0 hx1 d1 e => ?_
        rw [e]
        walk_at "s"
        walk_at "x"
        refine ite_dec (fun h1 => ?_) (fun h1 => ?_)
        · walk_at "x"
          exact fin _ .none (d0.trans d1) ⟨fun _ => .inl rfl, fun z => absurd z hc2, fun _ => rfl⟩
        walk_at "x"
        refine st_pickA rfl d1.is (by omega) fun r s2 es as' h0 h2 d2 e => ?_
        rw [e]
        walk_at "s"
        walk_at "x"
        refine ite_dec (fun h3 => ?_) (fun h3 => ?_)
        · walk_at "x"
          exact fin _ .none ((d0.trans d1).trans d2) ⟨fun _ => .inl rfl, fun z => absurd z hc2, fun _ => rfl⟩
        walk_at "x"
        refine ite_kT (decide_eq_true hcL) ?_
        walk_at "x"
        refine st_pickA rfl d2.is (by omega) fun r s3 es as' h4 h5 d3 e => ?_
        rw [e]
        walk_at "s"
        walk_at "x"
        refine ite_dec (fun h6 => ?_) (fun h6 => ?_)
        · walk_at "x"
          exact fin _ (.int (0 - x)) (((d0.trans d1).trans d2).trans d3) ⟨fun _ => .inr ⟨_, rfl, by omega, by omega⟩, fun z => absurd z hc2, fun z => absurd z h1⟩
        walk_at "x"
        exact fin _ (.int x) (((d0.trans d1).trans d2).trans d3) ⟨fun _ => .inr ⟨_, rfl, by omega, by omega⟩, fun z => absurd z hc2, fun z => absurd z h1⟩
    · rintro δ ⟨s', s4, s5, vals, rfl, d0, hv, pv⟩
      refine hN _ ⟨s', _, s4, s5, vals, rfl, d0, ?_, by omega, pv⟩
      have : ((3 : Int) - 0).toNat = 3 := rfl
      omega
  · rintro δ ⟨s', s3, s4, s5, vals, rfl, d0, hv, _, pv⟩
    have hv : vals.length = 12 := hv
    walk_at "x"
    have h1 := fun u c hu hc => @cvOf_pv vals w hv pv u c hu hc
    have := q (cvOf vals) s' (fun u c hu => ⟨fun hc => (h1 u c hu (by omega)).1 hc, fun hc => (h1 u c hu (by omega)).2.1 hc⟩) (fun u c hw => by
      by_cases hu : u < 4 ∧ c < 3
      · exact (h1 u c hu.1 hu.2).2.2 hw
      · exact if_neg hu) d0
    rw [cellsK_of hv] at this
    exact this
theorem split1 {α : Type} {l : List α} {k : Nat} (h : k < l.length) : ∃ A a R, l = A ++ a :: R ∧ A.length = k :=
  ⟨l.take k, l[k], l.drop (k + 1), by rw [← List.drop_eq_getElem_cons h, List.take_append_drop], by rw [List.length_take]; omega⟩
theorem split2 {α : Type} {l : List α} {k : Nat} (h : k + 1 < l.length) : ∃ A a b R, l = A ++ a :: b :: R ∧ A.length = k :=
  ⟨l.take k, l[k], l[k + 1], l.drop (k + 2), by rw [← List.drop_eq_getElem_cons h, ← List.drop_eq_getElem_cons (show k < l.length by omega), List.take_append_drop], by rw [List.length_take]; omega⟩
theorem at_mid {α : Type} {A : List α} {a : α} {R : List α} : (A ++ a :: R)[A.length]? = some a := by
  rw [List.getElem?_append_right (Nat.le_refl _), Nat.sub_self]
  rfl
theorem at_mid1 {α : Type} {A : List α} {a b : α} {R : List α} : (A ++ a :: b :: R)[A.length + 1]? = some b := by
  rw [List.getElem?_append_right (Nat.le_succ _)]
  simp
theorem set_mid {α : Type} {A : List α} {a c : α} {R : List α} : (A ++ a :: R).set A.length c = A ++ c :: R := by
  rw [List.set_append_right _ _ (Nat.le_refl _), Nat.sub_self]
  rfl
theorem take_mid {α : Type} {A : List α} {a : α} {R : List α} : (A ++ a :: R).take (A.length + 1) = A ++ [a] := by
  rw [List.take_append, List.take_of_length_le (Nat.le_succ _), Nat.add_sub_cancel_left]
  rfl
theorem drop_mid2 {α : Type} {A : List α} {a b : α} {R : List α} : (A ++ a :: b :: R).drop (A.length + 2) = R := by
  rw [List.drop_append, List.drop_of_length_le (Nat.le_add_right _ _), Nat.add_sub_cancel_left]
  rfl
structure JI (n m : Nat) (cds : List Cd) : Prop where
  lv : (cds.map leavesC).flatten = List.range n
  ne : 1 ≤ cds.length
  len : cds.length ≤ n
  ht : ∀ c ∈ cds, hC 1 c + cds.length ≤ m
theorem JI.one {n m : Nat} {A R : List Cd} {a c : Cd} (h : JI n m (A ++ a :: R)) (e : leavesC c = leavesC a) (k : hC 1 c ≤ hC 1 a + 1) : JI n (m + 1) (A ++ c :: R) where
  lv := by
    rw [← h.lv]
    simp [e]
  ne := by simp; omega
  len := by
    have := h.len
    simp at this ⊢
    omega
  ht := fun d hd => by
    have e1 : (A ++ c :: R).length = (A ++ a :: R).length := by simp
    rw [e1]
    rcases List.mem_append.mp hd with z | z
    · have := h.ht d (List.mem_append_left _ z)
      omega
    · rcases List.mem_cons.mp z with rfl | z
      · have := h.ht a (List.mem_append_right _ List.mem_cons_self)
        omega
      · have := h.ht d (List.mem_append_right _ (List.mem_cons_of_mem _ z))
        omega
theorem JI.two {n m : Nat} {A R : List Cd} {a b c : Cd} (h : JI n m (A ++ a :: b :: R)) (e : leavesC c = leavesC a ++ leavesC b) (k : hC 1 c ≤ max (hC 1 a) (hC 1 b) + 1) : JI n m (A ++ [c] ++ R) where
  lv := by
    rw [← h.lv]
    simp [e]
  ne := by simp; omega
  len := by
    have := h.len
    simp at this ⊢
    omega
  ht := fun d hd => by
    have e1 : (A ++ [c] ++ R).length + 1 = (A ++ a :: b :: R).length := by simp; omega
    have ha := h.ht a (List.mem_append_right _ List.mem_cons_self)
    have hb := h.ht b (List.mem_append_right _ (List.mem_cons_of_mem _ List.mem_cons_self))
    rw [List.append_assoc] at hd
    rcases List.mem_append.mp hd with z | z
    · have := h.ht d (List.mem_append_left _ z)
      omega
    · rcases List.mem_append.mp z with z | z
      · simp at z
        subst z
        omega
      · have := h.ht d (List.mem_append_right _ (List.mem_cons_of_mem _ (List.mem_cons_of_mem _ z)))
        omega
theorem JI.mono {n m m' : Nat} {cds : List Cd} (h : JI n m cds) (e : m ≤ m') : JI n m' cds := ⟨h.lv, h.ne, h.len, fun c hc => Nat.le_trans (h.ht c hc) e⟩
theorem trees0 (lvs : List Lv) : lvs.map (fun x => encL x.1) = ((List.range lvs.length).map Cd.leaf).map (encT (lsOf encL lvs)) := by
  refine List.ext_getElem (by simp) fun i h1 h2 => ?_
  have hi : i < lvs.length := by simpa using h1
  rw [List.getElem_map, List.getElem_map, List.getElem_map, List.getElem_range]
  show _ = lsOf encL lvs i
  unfold lsOf
  rw [List.getElem?_eq_getElem hi]
theorem leaves0 (n : Nat) : (((List.range n).map Cd.leaf).map leavesC).flatten = List.range n := by
  rw [List.map_map]
  induction List.range n with
  | nil => rfl
  | cons k l ih =>
    rw [List.map_cons, List.flatten_cons, ih]
    rfl
abbrev ow2 (p : Addr) (f : Cd → D) (cds : List Cd) : SD := .ow p (.lst (cds.map f))
theorem idx_mid {p : Addr} {f : Cd → D} {A R : List Cd} {a : Cd} : atI ((A ++ a :: R).map f) (A.length : Int) = some (f a) := by
  rw [atI_cast, List.getElem?_map, at_mid]
  rfl
theorem idx_mid1 {p : Addr} {f : Cd → D} {A R : List Cd} {a b : Cd} : atI ((A ++ a :: b :: R).map f) ((A.length : Int) + 1) = some (f b) := by
  have e : ((A.length : Int) + 1) = ((A.length + 1 : Nat) : Int) := by omega
  rw [e, atI_cast, List.getElem?_map, at_mid1]
  rfl
theorem setm {f : Cd → D} {A R : List Cd} {a : Cd} {d : D} : (List.map f (A ++ a :: R)).set A.length d = List.map f A ++ d :: List.map f R := by
  have := set_mid (A := A.map f) (a := f a) (R := R.map f) (c := d)
  rw [List.length_map] at this
  rw [List.map_append, List.map_cons]
  exact this
theorem cutm1 {f : Cd → D} {A R : List Cd} {d : D} : cutA (List.map f A ++ d :: List.map f R) none (some ((A.length : Int) + 1)) = List.map f A ++ [d] := by
  have e : ((A.length : Int) + 1) = ((A.length + 1 : Nat) : Int) := by omega
  rw [e, cut_take]
  have := take_mid (A := A.map f) (a := d) (R := R.map f)
  rw [List.length_map] at this
  exact this
theorem cutm2 {f : Cd → D} {A R : List Cd} {b : Cd} {d : D} : cutA (List.map f A ++ d :: List.map f (b :: R)) (some ((A.length : Int) + 2)) none = List.map f R := by
  have e : ((A.length : Int) + 2) = ((A.length + 2 : Nat) : Int) := by omega
  rw [e, cut_drop]
  have := drop_mid2 (A := A.map f) (a := d) (b := f b) (R := R.map f)
  rw [List.length_map] at this
  exact this
theorem rp_law_joined (as : List SD) (Q : RS → List SD → Prop) (h : sp_law_joined as Q) : rd_law_joined { nx := fun δ => Q (.dt .none) (outs as δ), rt := fun d δ => Q d (outs as δ) } (startD 9 as) := by
  obtain ⟨p, ns, lvs, rfl, h1, h5, q⟩ := h
  show rd_law_joined _ [deck p ns, .dt (.list (lvs.map encLv)), .un, .un, .un, .un, .un, .un, .un]
  unfold rd_law_joined
  walk_at "x"
  refine st_lc (own1 rfl rfl) ?_
  walk_at "x"
  refine ⟨own1 rfl rfl, lc_pure (fun d => match d with | .tuple (a :: _) => a | _ => .none) .un rfl (by rw [List.length_map]; omega) (fun x hx N hN => ?_) ?_⟩
  · obtain ⟨y, _, rfl⟩ := List.mem_map.mp hx
    unfold encLv at hN ⊢
    walk_at "x"
    exact hN
  walk_at "x"
  rename_i pt
  refine st_lc (own1 rfl rfl) ?_
  walk_at "x"
  refine ⟨_, rfl, by rw [List.length_map]; omega, by omega, own1 rfl rfl, lc_pure (fun d => .tuple [.str "leaf", d]) .un rfl (by rw [rngD_len, List.length_map]; omega) (fun x hx N hN => ?_) ?_⟩
  · walk_at "x"
    exact hN
  walk_at "x"
  rename_i pb
  have et : (lvs.map encLv).map (fun d => match d with | .tuple (a :: _) => a | _ => .none) = ((List.range lvs.length).map Cd.leaf).map (encT (lsOf encL lvs)) := by
    rw [← trees0, List.map_map]
    rfl
  have eb : (rngD 0 ((lvs.map encLv).length : Int).toNat).map (fun d => PyData.tuple [.str "leaf", d]) = ((List.range lvs.length).map Cd.leaf).map encB := by
    unfold rngD
    rw [List.map_map, List.map_map, Int.toNat_natCast, List.length_map]
    refine List.map_congr_left fun k _ => ?_
    show PyData.tuple [.str "leaf", .int (0 + (k : Int))] = PyData.tuple [.str "leaf", .int (k : Int)]
    rw [Int.zero_add]
  rw [et, eb]
  have ji0 : JI lvs.length (1 + lvs.length) ((List.range lvs.length).map Cd.leaf) := ⟨leaves0 _, by simp; omega, by simp, fun c hc => by
    obtain ⟨k, _, rfl⟩ := List.mem_map.mp hc
    simp [hC]⟩
  generalize (List.range lvs.length).map Cd.leaf = cds at ji0
  refine ⟨_, rfl, by rw [List.length_map]; omega, by omega, ?_⟩
  have e3 : (3 * ((lvs.map encLv).length : Int)).toNat = 3 * lvs.length := by rw [List.length_map]; omega
  rw [e3]
  refine for_rng (fun i δ => ∃ (pt pb : Addr) (ns : List Int) (cds : List Cd) (s4 s5 s6 s7 : SD), δ = [deck p ns, .dt (.list (lvs.map encLv)), ow2 pt (encT (lsOf encL lvs)) cds, ow2 pb encB cds, s4, s5, s6, s7, .un] ∧ JI lvs.length (1 + lvs.length + i) cds) ⟨pt, pb, ns, cds, .un, .un, .un, .un, rfl, ji0⟩ ?_ ?_
  · rintro i δ N hi ⟨pt, pb, ns, cds, s4, s5, s6, s7, rfl, ji⟩ hN
    have ne := ji.ne
    walk_at "x"
    refine call_ok (by simp [bors]) (by simp [bors]) fun Q2 hQ => pick_ok (by rw [List.length_map]; omega) fun k ns1 hk0 hk1 => hQ _ _ rfl ?_
    rw [List.length_map] at hk1
    obtain ⟨k, rfl⟩ := nat_of hk0
    walk_at "s"
    walk_at "x"
    refine call_ok (by simp [bors]) (by simp [bors]) fun Q2 hQ => pick_ok (by omega) fun w ns2 hw0 hw1 => hQ _ _ rfl ?_
    walk_at "s"
    walk_at "x"
    refine ite_dec (fun hw => ?_) (fun hw => ?_)
    · obtain ⟨A, a, R, rfl, rfl⟩ := split1 (l := cds) (k := k) (by omega)
      have fin : ∀ (w : D) (c : Cd), encT (lsOf encL lvs) c = .tuple [w, encT (lsOf encL lvs) a] → encB c = .tuple [w, encB a] → leavesC c = leavesC a → hC 1 c ≤ hC 1 a + 1 → ∀ (De : DEnds) (wi : D), De.nx = N →
          (sSeq (sSetO 2 (dVar 5) (dTup (dCons (dVar 7) (dCons (dIxO 2 (dVar 5)) dNil)))) (sSetO 3 (dVar 5) (dTup (dCons (dVar 7) (dCons (dIxO 3 (dVar 5)) dNil))))) De
          [deck p ns2, .dt (.list (lvs.map encLv)), ow2 pt (encT (lsOf encL lvs)) (A ++ a :: R), ow2 pb encB (A ++ a :: R), .dt (.int (0 + (i : Int))), .dt (.int (A.length : Int)), .dt wi, .dt w, .un] := by
        intro w c e1 e2 e3 e4 De wi hDe
        walk_at "x"
        refine st_setO ?_
        walk_at "x"
        refine ⟨pt, _, _, _, rfl, rfl, idx_mid (p := pt), ?_⟩
        walk_at "x"
        refine ⟨⟨pt, _, rfl⟩, ?_⟩
        walk_at "x"
        refine ⟨pt, _, _, A.length, rfl, rfl, ixN_nat (by simp), ?_⟩
        rw [setm]
        walk_at "x"
        refine st_setO ?_
        walk_at "x"
        refine ⟨pb, _, _, _, rfl, rfl, idx_mid (p := pt), ?_⟩
        walk_at "x"
        refine ⟨⟨pb, _, rfl⟩, ?_⟩
        walk_at "x"
        refine ⟨pb, _, _, A.length, rfl, rfl, ixN_nat (by simp), ?_⟩
        rw [setm, hDe]
        have h := hN _ ⟨pt, pb, ns2, A ++ c :: R, .dt (.int (0 + (i : Int))), .dt (.int (A.length : Int)), .dt wi, .dt w, rfl, ji.one e3 e4⟩
        unfold ow2 at h
        rw [List.map_append, List.map_cons, List.map_append, List.map_cons, e1, e2] at h
        exact h
      have hwc : w = 0 ∨ w = 1 := by omega
      rcases hwc with rfl | rfl
      · walk_at "x"
        exact fin _ (.no a) rfl rfl rfl (Nat.le_refl _) _ _ rfl
      · walk_at "x"
        exact fin _ (.may a) rfl rfl rfl (Nat.le_refl _) _ _ rfl
    · walk_at "x"
      refine ite_dec (fun hl => ?_) (fun hl => ?_)
      · rw [List.length_map] at hl
        have fin : ∀ k : Nat, k + 1 < cds.length → ∀ (w : D) (g : Cd → Cd → Cd), (∀ a b, encT (lsOf encL lvs) (g a b) = .tuple [w, encT (lsOf encL lvs) a, encT (lsOf encL lvs) b]) → (∀ a b, encB (g a b) = .tuple [w, encB a, encB b]) → (∀ a b, leavesC (g a b) = leavesC a ++ leavesC b) → (∀ a b, hC 1 (g a b) ≤ max (hC 1 a) (hC 1 b) + 1) → ∀ (De : DEnds) (wi : D), De.nx = N →
            (sSeq (sSetO 2 (dVar 5) (dTup (dCons (dVar 7) (dCons (dIxO 2 (dVar 5)) (dCons (dIxO 2 (dOp addD (dVar 5) (dC (.int 1)))) dNil))))) (sSeq (sSetO 3 (dVar 5) (dTup (dCons (dVar 7) (dCons (dIxO 3 (dVar 5)) (dCons (dIxO 3 (dOp addD (dVar 5) (dC (.int 1)))) dNil))))) (sSeq (sOwn (dAddN (dN (dSlO 2 dNoPart (dPart (dOp addD (dVar 5) (dC (.int 1)))))) (dN (dSlO 2 (dPart (dOp addD (dVar 5) (dC (.int 2)))) dNoPart))) 2) (sOwn (dAddN (dN (dSlO 3 dNoPart (dPart (dOp addD (dVar 5) (dC (.int 1)))))) (dN (dSlO 3 (dPart (dOp addD (dVar 5) (dC (.int 2)))) dNoPart))) 3)))) De
            [deck p ns2, .dt (.list (lvs.map encLv)), ow2 pt (encT (lsOf encL lvs)) cds, ow2 pb encB cds, .dt (.int (0 + (i : Int))), .dt (.int (k : Int)), .dt wi, .dt w, .un] := by
          intro k hk w g e1 e2 e3 e4 De wi hDe
          obtain ⟨A, a, b, R, rfl, rfl⟩ := split2 hk
          have lr : A.length + R.length + 2 ≤ lvs.length := by
            have := ji.len
            simp at this
            omega
          have lT : ∀ {f : Cd → D} {d : D}, (List.map f A ++ [d]).length + (List.map f R).length ≤ 100000 := fun {f d} => by simp; omega
          walk_at "x"
          refine st_setO ?_
          walk_at "x"
          refine ⟨pt, _, _, _, rfl, rfl, idx_mid (p := pt), ?_⟩
          walk_at "x"
          refine ⟨pt, _, _, _, rfl, rfl, idx_mid1 (p := pt), ?_⟩
          walk_at "x"
          refine ⟨⟨pt, _, rfl⟩, ?_⟩
          walk_at "x"
          refine ⟨pt, _, _, A.length, rfl, rfl, ixN_nat (by simp), ?_⟩
          rw [setm]
          walk_at "x"
          refine st_setO ?_
          walk_at "x"
          refine ⟨pb, _, _, _, rfl, rfl, idx_mid (p := pt), ?_⟩
          walk_at "x"
          refine ⟨pb, _, _, _, rfl, rfl, idx_mid1 (p := pt), ?_⟩
          walk_at "x"
          refine ⟨⟨pb, _, rfl⟩, ?_⟩
          walk_at "x"
          refine ⟨pb, _, _, A.length, rfl, rfl, ixN_nat (by simp), ?_⟩
          rw [setm]
          walk_at "x"
          refine ⟨pt, _, rfl, ?_⟩
          walk_at "x"
          refine ⟨pt, _, rfl, ?_⟩
          rw [cutm1, cutm2]
          refine ⟨_, _, rfl, rfl, lT, ?_⟩
          walk_at "x"
          refine ⟨pb, _, rfl, ?_⟩
          walk_at "x"
          refine ⟨pb, _, rfl, ?_⟩
          rw [cutm1, cutm2]
          refine ⟨_, _, rfl, rfl, lT, ?_⟩
          walk_at "x"
          rw [hDe]
          rename_i p1 p2
          have h := hN _ ⟨p1, p2, ns2, A ++ [g a b] ++ R, .dt (.int (0 + (i : Int))), .dt (.int (A.length : Int)), .dt wi, .dt w, rfl, (ji.two (e3 a b) (e4 a b)).mono (by omega)⟩
          unfold ow2 at h
          rw [List.map_append, List.map_append, List.map_singleton, List.map_append, List.map_append, List.map_singleton, e1, e2] at h
          exact h
        walk_at "x"
        rw [List.length_map]
        have ek : (if (cds.length : Int) - 2 < (k : Int) then (cds.length : Int) - 2 else (k : Int)) = ((min k (cds.length - 2) : Nat) : Int) := by
          split <;> omega
        rw [ek]
        have hwc : w = 2 ∨ w = 3 := by omega
        rcases hwc with rfl | rfl
        · walk_at "x"
          exact fin _ (by omega) _ .and (fun _ _ => rfl) (fun _ _ => rfl) (fun _ _ => rfl) (fun _ _ => Nat.le_refl _) _ _ rfl
        · walk_at "x"
          exact fin _ (by omega) _ .or (fun _ _ => rfl) (fun _ _ => rfl) (fun _ _ => rfl) (fun _ _ => Nat.le_refl _) _ _ rfl
      · walk_at "x"
        exact hN _ ⟨_, _, _, cds, _, _, _, _, rfl, ji.mono (by omega)⟩
  · rintro δ ⟨pt, pb, ns, cds, s4, s5, s6, s7, rfl, ji⟩
    walk_at "x"
    refine while_inv (fun m δ => ∃ (pt pb : Addr) (cds : List Cd), δ = [deck p ns, .dt (.list (lvs.map encLv)), ow2 pt (encT (lsOf encL lvs)) cds, ow2 pb encB cds, s4, s5, s6, s7, .un] ∧ JI lvs.length (1 + lvs.length + 3 * lvs.length) cds ∧ m = cds.length) _ ⟨pt, pb, cds, rfl, ji, rfl⟩ ?_
    rintro m δ ⟨pt, pb, cds, rfl, ji, rfl⟩
    have ne := ji.ne
    have le := ji.len
    walk_at "x"
    rw [List.length_map]
    refine ite_dec (fun hl => ?_) (fun hl => ?_)
    · obtain ⟨A, a, b, R, rfl, hA⟩ := split2 (l := cds) (k := 0) (by omega)
      obtain rfl : A = [] := List.length_eq_zero_iff.mp hA
      have lr : R.length ≤ 5 := by simp at le; omega
      walk_at "x"
      refine ⟨pt, _, _, _, rfl, rfl, idx_mid (p := pt) (A := []), ?_⟩
      walk_at "x"
      refine ⟨pt, _, _, _, rfl, rfl, idx_mid1 (p := pt) (A := []), ?_⟩
      walk_at "x"
      refine ⟨pt, _, rfl, ?_⟩
      rw [show cutA (List.map (encT (lsOf encL lvs)) ([] ++ a :: b :: R)) (some 2) none = List.map (encT (lsOf encL lvs)) R from cut_drop _ 2]
      refine ⟨_, _, rfl, rfl, by simp; omega, ?_⟩
      walk_at "x"
      refine ⟨pb, _, _, _, rfl, rfl, idx_mid (p := pt) (A := []), ?_⟩
      walk_at "x"
      refine ⟨pb, _, _, _, rfl, rfl, idx_mid1 (p := pt) (A := []), ?_⟩
      walk_at "x"
      refine ⟨pb, _, rfl, ?_⟩
      rw [show cutA (List.map encB ([] ++ a :: b :: R)) (some 2) none = List.map encB R from cut_drop _ 2]
      refine ⟨_, _, rfl, rfl, by simp; omega, ?_⟩
      walk_at "x"
      rename_i p1 p2
      exact ⟨_, by simp, p1, p2, [] ++ [.or a b] ++ R, rfl, ji.two rfl (Nat.le_refl _), rfl⟩
    · obtain ⟨A, c, R, rfl, hA⟩ := split1 (l := cds) (k := 0) (by omega)
      obtain rfl : A = [] := List.length_eq_zero_iff.mp hA
      obtain rfl : R = [] := List.length_eq_zero_iff.mp (by simp at hl; omega)
      walk_at "x"
      refine ⟨pt, _, _, _, rfl, rfl, idx_mid (p := pt) (A := []), ?_⟩
      walk_at "x"
      refine ⟨pb, _, _, _, rfl, rfl, idx_mid (p := pt) (A := []), ?_⟩
      walk_at "x"
      walk_at "o"
      have hlv := ji.lv
      simp at hlv
      have hh := ji.ht c (by simp)
      simp at hh
      exact q c ns hlv (by omega)
theorem mrk_X {t : Bool} : ∀ {e : Xp}, kindX t e → ∀ n, hX e ≤ n → Mrk n (encX e) (mrkX e)
  | .num i, _, n, h => by
    obtain ⟨m, rfl⟩ : ∃ m, n = m + 1 := ⟨n - 1, by unfold hX at h; omega⟩
    exact .num
  | .txt x, _, n, h => by
    obtain ⟨m, rfl⟩ : ∃ m, n = m + 1 := ⟨n - 1, by unfold hX at h; omega⟩
    exact .txt
  | .col u c, k, n, h => by
    obtain ⟨m, rfl⟩ : ∃ m, n = m + 1 := ⟨n - 1, by unfold hX at h; omega⟩
    obtain ⟨h1, h2⟩ := kind_col k
    exact .col h1 h2
  | .neg e, k, n, h => by
    obtain ⟨m, rfl⟩ : ∃ m, n = m + 1 := ⟨n - 1, by unfold hX at h; omega⟩
    obtain ⟨rfl, k⟩ := kind_neg k
    unfold hX at h
    exact .one (by decide +kernel) (mrk_X (t := false) (e := e) k m (by omega))
  | .bin o a b, k, n, h => by
    obtain ⟨m, rfl⟩ : ∃ m, n = m + 1 := ⟨n - 1, by unfold hX at h; omega⟩
    obtain ⟨rfl, ka, kb, _⟩ := kind_bin k
    unfold hX at h
    exact .two (by cases o <;> decide +kernel) (mrk_X (t := false) (e := a) ka m (by omega)) (mrk_X (t := false) (e := b) kb m (by omega))
theorem mrk_L {l : Lf} (w : WfL l) {n : Nat} (h : 5 ≤ n) : Mrk n (encL l) (mrkL l) := by
  obtain ⟨m, rfl⟩ : ∃ m, n = m + 1 := ⟨n - 1, by omega⟩
  obtain ⟨t, w⟩ := w
  cases l with
  | nul e => exact .one (by decide +kernel) (mrk_X w.1 m (by have := w.2; omega))
  | cmp o a b => exact .cmp (mrk_X w.1 m (by have := w.2.2.1; omega)) (mrk_X w.2.1 m (by have := w.2.2.2; omega))
theorem mrk_C {lvs : List Lv} (hg : ∀ x ∈ lvs, GoodLv x) : ∀ {c : Cd} {n : Nat}, (∀ k ∈ leavesC c, k < lvs.length) → hC 5 c ≤ n → Mrk n (encT (lsOf encL lvs) c) (encT (lsOf mrkL lvs) c)
  | .leaf k, n, hk, h => by
    have hkl := hk k (by simp [leavesC])
    have ek : lvs[k]? = some lvs[k] := List.getElem?_eq_getElem hkl
    have e1 : encT (lsOf encL lvs) (.leaf k) = encL lvs[k].1 := by
      show lsOf encL lvs k = _
      unfold lsOf
      rw [ek]
    have e2 : encT (lsOf mrkL lvs) (.leaf k) = mrkL lvs[k].1 := by
      show lsOf mrkL lvs k = _
      unfold lsOf
      rw [ek]
    rw [e1, e2]
    exact mrk_L (hg _ (List.getElem_mem hkl)).1 h
  | .no c, n, hk, h => by
    obtain ⟨m, rfl⟩ : ∃ m, n = m + 1 := ⟨n - 1, by unfold hC at h; omega⟩
    unfold hC at h
    exact .one (by decide +kernel) (mrk_C hg hk (by omega))
  | .may c, n, hk, h => by
    obtain ⟨m, rfl⟩ : ∃ m, n = m + 1 := ⟨n - 1, by unfold hC at h; omega⟩
    unfold hC at h
    exact .one (by decide +kernel) (mrk_C hg hk (by omega))
  | .and a b, n, hk, h => by
    obtain ⟨m, rfl⟩ : ∃ m, n = m + 1 := ⟨n - 1, by unfold hC at h; omega⟩
    unfold hC at h
    exact .two (by decide +kernel) (mrk_C hg (fun k z => hk k (List.mem_append_left _ z)) (by omega)) (mrk_C hg (fun k z => hk k (List.mem_append_right _ z)) (by omega))
  | .or a b, n, hk, h => by
    obtain ⟨m, rfl⟩ : ∃ m, n = m + 1 := ⟨n - 1, by unfold hC at h; omega⟩
    unfold hC at h
    exact .two (by decide +kernel) (mrk_C hg (fun k z => hk k (List.mem_append_left _ z)) (by omega)) (mrk_C hg (fun k z => hk k (List.mem_append_right _ z)) (by omega))
theorem hC_shift (m : Nat) : ∀ c : Cd, hC (m + 1) c ≤ hC 1 c + m
  | .leaf _ => by unfold hC; omega
  | .no c => by have := hC_shift m c; unfold hC; omega
  | .may c => by have := hC_shift m c; unfold hC; omega
  | .and a b => by have := hC_shift m a; have := hC_shift m b; unfold hC; omega
  | .or a b => by have := hC_shift m a; have := hC_shift m b; unfold hC; omega
def markStep (cv : Nat → Nat → D) (acc : List (Key × D)) (q : Nat × Nat) : List (Key × D) := if q.1 < 3 then putD acc (mkK q) (cv q.1 q.2) else acc
theorem putD_len {κ : Type} [DecidableEq κ] (kvs : List (κ × D)) (k : κ) (d : D) : (putD kvs k d).length ≤ kvs.length + 1 := by
  unfold putD
  split <;> simp
theorem mark_loop {cv : Nat → Nat → D} {p p7 : Addr} {od : Obj} {r : List (List Key × V)} {s0 s1 s2 s4 s5 s6 s9 s10 s11 s12 s13 s14 : SD} {N : Dl → Prop} : ∀ (qs : List (Nat × Nat)) (acc : List (Key × D)) (s8 : SD), (∀ q ∈ qs, q ∈ uc12) → acc.length + qs.length ≤ 100 →
    (∀ s8, N [s0, s1, s2, .ow p (OD.one (apLT od r (cellsK cv))), s4, s5, s6, .ow p7 (OD.dk (qs.foldl (markStep cv) acc)), s8, s9, s10, s11, s12, s13, s14]) →
    sForGoL 3 (.ow p (OD.one (apLT od r (cellsK cv)))) (dgName 8) (sIf (dTest (dOp ltD (dOp ixD (dVar 8) (dC (.int 0))) (dC (.int 3)))) (sDPutK 7 (dOp addD (dOp mulD (dC (.int 7)) (dOp ixD (dVar 8) (dC (.int 0)))) (dOp mulD (dC (.int 3)) (dOp ixD (dVar 8) (dC (.int 1))))) (dLook 3 (dVar 8))) sNext) N (qs.map encC)
      [s0, s1, s2, .ow p (OD.one (apLT od r (cellsK cv))), s4, s5, s6, .ow p7 (OD.dk acc), s8, s9, s10, s11, s12, s13, s14]
  | [], acc, s8, _, _, q => q s8
  | (u, c) :: qs, acc, s8, hq, hl, q => by
    have hm := hq (u, c) List.mem_cons_self
    have hu : u < 4 ∧ c < 3 := by
      have : ∀ q ∈ uc12, q.1 < 4 ∧ q.2 < 3 := by decide
      exact this _ hm
    rw [List.map_cons]
    unfold sForGoL encC
    rw [List.length_cons] at hl
    walk_at "x"
    refine ite_dec (fun h3 => ?_) (fun h3 => ?_)
    · have h3' : u < 3 := by omega
      walk_at "x"
      refine look_TL (ks := ucK (u, c)) rfl rfl (cells_get hu.1 hu.2) ?_
      walk_at "x"
      refine ⟨p7, _, mkK (u, c), rfl, rfl, by omega, ?_⟩
      refine ⟨rfl, ?_⟩
      have hp := putD_len acc (mkK (u, c)) (cv u c)
      walk_at "x"
      refine mark_loop qs _ _ (fun q h => hq q (List.mem_cons_of_mem _ h)) (by omega) fun s8 => ?_
      have := q s8
      rw [List.foldl_cons] at this
      have e : markStep cv acc (u, c) = putD acc (mkK (u, c)) (cv u c) := if_pos h3'
      rw [e] at this
      exact this
    · have h3' : ¬ u < 3 := by omega
      walk_at "x"
      refine ⟨rfl, ?_⟩
      refine mark_loop qs _ _ (fun q h => hq q (List.mem_cons_of_mem _ h)) (by omega) fun s8 => ?_
      have := q s8
      rw [List.foldl_cons] at this
      have e : markStep cv acc (u, c) = acc := if_neg h3'
      rw [e] at this
      exact this
theorem keyOf_key (k : Key) : keyOf (keyD k) = some k := by cases k <;> rfl
def keptF (cv : Nat → Nat → D) (k : Key) : D := .tuple [keyD k, (getK (marksK cv) k).getD .none]
def keptL (cv : Nat → Nat → D) : List D := (marksK cv).map fun kv => keptF cv kv.1
theorem marks_at {cv : Nat → Nat → D} {k : Key} (h : k ∈ (marksK cv).map (·.1)) : ∃ z, getK (marksK cv) k = some z := by
  unfold marksK at h
  rw [List.map_map] at h
  obtain ⟨q, hq, rfl⟩ := List.mem_map.mp h
  have hm : ∀ q ∈ uc9, q.1 < 3 ∧ q.2 < 3 := by decide
  obtain ⟨h1, h2⟩ := hm q hq
  exact ⟨_, marks_get h1 h2⟩
theorem kept_ok {cv : Nat → Nat → D} {p7 : Addr} {s0 s1 s2 s3 s4 s5 s6 s8 s9 s10 s11 s12 s13 s14 : SD} (h14 : isOw s14 = false) {Q : List D → Dl → Prop} (q : Q (keptL cv) [s0, s1, s2, s3, s4, s5, s6, .ow p7 (OD.dk (marksK cv)), s8, s9, s10, s11, s12, s13, s14]) :
    dLcK 7 14 (dTup (dCons (dVar 14) (dCons (dLook 7 (dVar 14)) dNil))) [s0, s1, s2, s3, s4, s5, s6, .ow p7 (OD.dk (marksK cv)), s8, s9, s10, s11, s12, s13, s14] Q := by
  refine ⟨⟨s14, rfl, h14⟩, p7, marksK cv, rfl, by unfold marksK; simp [uc9], keptF cv, fun od r k hk N hN => ?_, q⟩
  obtain ⟨z, hz⟩ := marks_at hk
  unfold keptF at hN
  rw [hz] at hN
  walk_at "x"
  refine look_KL rfl (keyOf_key k) hz ?_
  walk_at "x"
  exact hN
def exprsL : Lf → List Xp
  | .nul e => [e]
  | .cmp _ a b => [a, b]
theorem keptL_plain {cv : Nat → Nat → D} (g : GoodCv cv) : (PyData.list (keptL cv)).plain = true ∧ (PyData.list (keptL cv)).depth ≤ 10 := by
  have h : ∀ u c, u < 3 → c < 3 → (cv u c).plain = true ∧ (cv u c).depth = 0 := fun u c hu hc => by
    obtain ⟨h1, h2⟩ := g u c (by omega)
    by_cases h3 : c < 2
    · rcases h1 h3 with z | ⟨i, z, _⟩ <;> rw [z] <;> exact ⟨rfl, rfl⟩
    · rcases h2 (by omega) with z | ⟨i, z⟩ <;> rw [z] <;> exact ⟨rfl, rfl⟩
  have e : keptL cv = [.tuple [.int 0, cv 0 0], .tuple [.int 3, cv 0 1], .tuple [.int 6, cv 0 2], .tuple [.int 7, cv 1 0], .tuple [.int 10, cv 1 1], .tuple [.int 13, cv 1 2], .tuple [.int 14, cv 2 0], .tuple [.int 17, cv 2 1], .tuple [.int 20, cv 2 2]] := rfl
  rw [e]
  simp [PyData.plain, PyData.plainAll, PyData.depth, PyData.depthAll, h]
theorem mark_ok {cv : Nat → Nat → D} (g : GoodCv cv) : uc12.foldl (markStep cv) [] = marksK cv := rfl
theorem due_at {lvs : List Lv} {cv : Nat → Nat → D} : (fun k => (lvs.map fun x => atL cv x.1).getD k 0) = atLv cv lvs := by
  funext k
  rw [List.getD_eq_getElem?_getD, List.getElem?_map]
  unfold atLv
  cases lvs[k]? <;> rfl
theorem perm3 {α : Type} (a b c : α) : permL [0, 1, 2] [a, b, c] = [a, b, c] := rfl
theorem perm2 {α : Type} (a b : α) : permL [0, 1] [a, b] = [a, b] := rfl
theorem term_loop {lvs : List Lv} {cv : Nat → Nat → D} (hv : GoodCv cv) {p p7 : Addr} {t : Bool} {De : DEnds} {s0 s1 s2 s4 s5 s6 s8 s9 s11 s12 s14 : SD} : ∀ (es : List Xp) (s13 : SD), (∀ e ∈ es, kindX t e ∧ hX e ≤ 4) →
    (∀ s13, De.nx [s0, s1, s2, .ow p (OD.dt (cellsK cv)), s4, s5, s6, .ow p7 (OD.dk (marksK cv)), s8, s9, .dt (foldsD cv), s11, s12, s13, s14]) →
    sForGo (dgName 13) (sIf (dNot (dTest (dCallF sp_law_same (cCons (dCallF (sp_mark_value 20) (cPerm 3 [0, 1, 2] (cCons (dCallF (sp_law_marked 60) (cCons (dVar 13) cNil)) (cLendT 7 (cCons (dVar 10) cNil))))) (cCons (dCallF (sp_law_value 20) (cCons (dVar 13) (cLendT 3 cNil))) cNil))))) (sRet (dC (.bool false))) sNext) De (es.map encX)
      [s0, s1, s2, .ow p (OD.dt (cellsK cv)), s4, s5, s6, .ow p7 (OD.dk (marksK cv)), s8, s9, .dt (foldsD cv), s11, s12, s13, s14]
  | [], s13, _, q => q s13
  | e :: es, s13, he, q => by
    obtain ⟨hk, hh⟩ := he e List.mem_cons_self
    rw [List.map_cons]
    unfold sForGo
    walk_at "x"
    refine call_ok (by simp [bors]) (by simp [bors]) fun Q2 hQ => ⟨_, _, rfl, mrk_X hk 60 (by omega), hQ _ _ rfl ?_⟩
    walk_at "s"
    walk_at "x"
    refine ⟨rfl, ?_⟩
    rw [perm3]
    refine call_ok (by simp [bors]) (by simp [bors]) fun Q2 hQ => ⟨e, cv, p7, t, rfl, hk, hv, by omega, hQ _ _ rfl ?_⟩
    walk_at "s"
    walk_at "x"
    refine call_ok (by simp [bors]) (by simp [bors]) fun Q2 hQ => ⟨e, cv, p, t, rfl, hk, hv, by omega, hQ _ _ rfl ?_⟩
    walk_at "s"
    walk_at "x"
    refine call_ok (by simp [bors]) (by simp [bors]) fun Q2 hQ => ⟨_, t, rfl, val_kind hv hk, hQ _ _ rfl ?_⟩
    walk_at "s"
    walk_at "x"
    exact term_loop (lvs := lvs) hv es _ (fun f hf => he f (List.mem_cons_of_mem _ hf)) q
theorem rp_law_at_values (as : List SD) (Q : RS → List SD → Prop) (h : sp_law_at_values as Q) : rd_law_at_values 40 60 40 20 20 { nx := fun δ => Q (.dt .none) (outs as δ), rt := fun d δ => Q d (outs as δ) } (startD 15 as) := by
  obtain ⟨lvs, c, cv, p, told, rfl, hg, hc, h5, hh, hv, ht, q⟩ := h
  show rd_law_at_values 40 60 40 20 20 _ [.dt (encT (lsOf encL lvs) c), .dt (encB c), .dt (.list (lvs.map encLv)), .ow p (OD.dt (cellsK cv)), .dt told, .un, .un, .un, .un, .un, .un, .un, .un, .un, .un]
  unfold rd_law_at_values
  have hk : ∀ k ∈ leavesC c, k < lvs.length := fun k hk => by rw [hc] at hk; exact List.mem_range.mp hk
  walk_at "x"
  refine st_lc (own1 rfl rfl) ?_
  walk_at "x"
  refine ⟨own1 rfl rfl, lc_inv (fun k acc δ => δ = [.dt (encT (lsOf encL lvs) c), .dt (encB c), .dt (.list (lvs.map encLv)), .ow p (OD.dt (cellsK cv)), .dt told, .un, .un, .un, .un, .un, .un, .un, .un, .un, .un] ∧ acc = ((lvs.map fun x => atL cv x.1).take k).map fun k : Nat => PyData.int (k : Int)) ⟨rfl, rfl⟩ ?_ ?_⟩
  · rintro k x acc δ N hx ⟨rfl, rfl⟩ hN
    rw [List.getElem?_map] at hx
    obtain ⟨lv, hlv, rfl⟩ := Option.map_eq_some_iff.mp hx
    have hgl := hg lv (List.mem_of_getElem? hlv)
    have hkl := lt_of_get hlv
    unfold encLv
    walk_at "s"
    walk_at "x"
    refine call_ok (by simp [bors]) (by simp [bors]) fun Q2 hQ => ⟨lv.1, cv, p, rfl, hgl.1, hv, hQ _ _ rfl ?_⟩
    walk_at "s"
    refine ⟨by rw [List.length_map, List.length_take]; omega, hN _ _ ⟨rfl, ?_⟩⟩
    rw [List.take_add_one, List.getElem?_map, hlv, List.map_append]
    rfl
  rintro acc δ ⟨rfl, rfl⟩
  rw [List.take_of_length_le (by simp)]
  walk_at "x"
  refine call_ok (by simp [bors]) (by simp [bors]) fun Q2 hQ => ⟨c, lvs.map fun x => atL cv x.1, rfl, fun k z => by rw [List.length_map]; exact hk k z, fun x hx => ?_, hh, hQ _ _ rfl ?_⟩
  · obtain ⟨y, _, rfl⟩ := List.mem_map.mp hx
    exact atL_le cv y.1
  walk_at "s"
  rw [due_at]
  have hle := atC_le (atLv_le cv lvs) c
  have main : ∀ (told : D) (p7 : Addr), (sSeq (sForT 3 (dgName 8) (sIf (dTest (dOp ltD (dOp ixD (dVar 8) (dC (.int 0))) (dC (.int 3)))) (sDPutK 7 (dOp addD (dOp mulD (dC (.int 7)) (dOp ixD (dVar 8) (dC (.int 0)))) (dOp mulD (dC (.int 3)) (dOp ixD (dVar 8) (dC (.int 1))))) (dLook 3 (dVar 8))) sNext)) (sSeq (sAsg (dN (dLcK 7 14 (dTup (dCons (dVar 14) (dCons (dLook 7 (dVar 14)) dNil))))) (dgName 9)) (sSeq (sAsg (dTup (dCons (dLook 3 (dTup (dCons (dC (.int 3)) (dCons (dC (.int 0)) dNil)))) (dCons (dLook 3 (dTup (dCons (dC (.int 3)) (dCons (dC (.int 1)) dNil)))) (dCons (dLook 3 (dTup (dCons (dC (.int 3)) (dCons (dC (.int 2)) dNil)))) dNil)))) (dgName 10)) (sSeq (sIf (dNot (dTest (dCallF sp_law_truth_same (cCons (dCallF (sp_mark_truth 40) (cPerm 3 [0, 1, 2] (cCons (dCallF (sp_law_marked 60) (cCons (dVar 0) cNil)) (cLendT 7 (cCons (dVar 10) cNil))))) (cCons (dOp ixD (dN (dLst (dCons (dC (.bool false)) (dCons (dC .none) (dCons (dC (.bool true)) dNil))))) (dVar 6)) cNil))))) (sRet (dC (.bool false))) sNext) (sSeq (sFor (iLst (dVar 2)) (dgName 11) (sSeq (sAsg (dIf (dTest (dOp eqD (dOp ixD (dOp ixD (dVar 11) (dC (.int 0))) (dC (.int 0))) (dC (.str "null")))) (dN (dCallN listD (dCons (dSl (dOp ixD (dVar 11) (dC (.int 0))) (dPart (dC (.int 1))) dNoPart) dNil))) (dN (dCallN listD (dCons (dSl (dOp ixD (dVar 11) (dC (.int 0))) (dPart (dC (.int 2))) dNoPart) dNil)))) (dgName 12)) (sFor (iLst (dVar 12)) (dgName 13) (sIf (dNot (dTest (dCallF sp_law_same (cCons (dCallF (sp_mark_value 20) (cPerm 3 [0, 1, 2] (cCons (dCallF (sp_law_marked 60) (cCons (dVar 13) cNil)) (cLendT 7 (cCons (dVar 10) cNil))))) (cCons (dCallF (sp_law_value 20) (cCons (dVar 13) (cLendT 3 cNil))) cNil))))) (sRet (dC (.bool false))) sNext)))) (sRet (dOp eqD (dN (dLcK 7 14 (dTup (dCons (dVar 14) (dCons (dLook 7 (dVar 14)) dNil))))) (dVar 9))))))))
      { nx := fun δ => Q (.dt .none) (outs [.dt (encT (lsOf encL lvs) c), .dt (encB c), .dt (.list (lvs.map encLv)), .ow p (OD.dt (cellsK cv)), .dt told] δ), rt := fun d δ => Q d (outs [.dt (encT (lsOf encL lvs) c), .dt (encB c), .dt (.list (lvs.map encLv)), .ow p (OD.dt (cellsK cv)), .dt told] δ) }
      [.dt (encT (lsOf encL lvs) c), .dt (encB c), .dt (.list (lvs.map encLv)), .ow p (OD.dt (cellsK cv)), .dt told, .dt (.list (List.map (fun k : Nat => PyData.int (k : Int)) (lvs.map fun x => atL cv x.1))), .dt (.int (atC (atLv cv lvs) c : Nat)), .ow p7 (OD.dk []), .un, .un, .un, .un, .un, .un, .un] := by
    intro told p7
    walk_at "x"
    refine ⟨p, cellsK cv, rfl, fun od r => ?_⟩
    have ec : (cellsK cv).map (fun kv => PyData.tuple (kv.1.map keyD)) = uc12.map encC := rfl
    rw [ec]
    refine mark_loop uc12 [] _ (fun _ h => h) (by decide) fun s8 => ?_
    rw [mark_ok hv]
    walk_at "x"
    refine kept_ok rfl ?_
    walk_at "x"
    refine look_T (ks := ucK (3, 0)) rfl rfl (cells_get (by omega) (by omega)) ?_
    walk_at "x"
    refine look_T (ks := ucK (3, 1)) rfl rfl (cells_get (by omega) (by omega)) ?_
    walk_at "x"
    refine look_T (ks := ucK (3, 2)) rfl rfl (cells_get (by omega) (by omega)) ?_
    walk_at "x"
    refine call_ok (by simp [bors]) (by simp [bors]) fun Q2 hQ => ⟨_, _, rfl, mrk_C hg (n := 60) hk (by have : hC 5 c ≤ hC 1 c + 4 := hC_shift 4 c; omega), hQ _ _ rfl ?_⟩
    walk_at "s"
    walk_at "x"
    refine ⟨rfl, ?_⟩
    rw [perm3]
    refine call_ok (by simp [bors]) (by simp [bors]) fun Q2 hQ => ⟨lvs, c, cv, p7, rfl, hg, hk, hv, hh, hQ _ _ rfl ?_⟩
    walk_at "s"
    walk_at "x"
    refine st_ixL (d := trD (atC (atLv cv lvs) c)) ?_ ?_
    · rcases lev3 hle with z | z | z <;> rw [z] <;> rfl
    walk_at "x"
    refine call_ok (by simp [bors]) (by simp [bors]) fun Q2 hQ => ⟨_, _, hle, hle, rfl, hQ _ _ rfl ?_⟩
    walk_at "s"
    rw [decide_eq_true rfl]
    walk_at "x"
    refine for_inv (fun i δ => ∃ s11 s12 s13 : SD, δ = [.dt (encT (lsOf encL lvs) c), .dt (encB c), .dt (.list (lvs.map encLv)), .ow p (OD.dt (cellsK cv)), .dt told, .dt (.list (List.map (fun k : Nat => PyData.int (k : Int)) (lvs.map fun x => atL cv x.1))), .dt (.int (atC (atLv cv lvs) c : Nat)), .ow p7 (OD.dk (marksK cv)), s8, .dt (.list (keptL cv)), .dt (foldsD cv), s11, s12, s13, .un]) ⟨.un, .un, .un, rfl⟩ ?_ ?_
    · rintro i x δ N hx ⟨s11, s12, s13, rfl⟩ hN
      rw [List.getElem?_map] at hx
      obtain ⟨lv, hlv, rfl⟩ := Option.map_eq_some_iff.mp hx
      have hgl := hg lv (List.mem_of_getElem? hlv)
      obtain ⟨t, wf⟩ := hgl.1
      unfold encLv
      generalize lv.1 = l at wf ⊢
      cases l with
      | nul e =>
        have e1 : encL (.nul e) = .tuple [.str "null", encX e] := rfl
        rw [e1]
        walk_at "x"
        rw [show cutA [PyData.str "null", encX e] (some 1) none = [encX e] from cut_drop _ 1]
        walk_at "x"
        refine term_loop (lvs := lvs) (t := t) hv [e] _ (fun f hf => ?_) fun s13 => hN _ ⟨_, _, s13, rfl⟩
        simp at hf
        subst hf
        exact wf
      | cmp o a b =>
        have e1 : encL (.cmp o a b) = .tuple [.str "cmp", .str o.word, encX a, encX b] := rfl
        rw [e1]
        walk_at "x"
        rw [show cutA [PyData.str "cmp", .str o.word, encX a, encX b] (some 2) none = [encX a, encX b] from cut_drop _ 2]
        walk_at "x"
        refine term_loop (lvs := lvs) (t := t) hv [a, b] _ (fun f hf => ?_) fun s13 => hN _ ⟨_, _, s13, rfl⟩
        simp at hf
        rcases hf with rfl | rfl
        · exact ⟨wf.1, wf.2.2.1⟩
        · exact ⟨wf.2.1, wf.2.2.2⟩
    · rintro δ ⟨s11, s12, s13, rfl⟩
      walk_at "x"
      refine kept_ok rfl ?_
      walk_at "x"
      obtain ⟨hp, hd⟩ := keptL_plain hv
      refine eq_b (by omega) (PySem.SeqAt.eqv_refl_plain _ hp) ?_
      walk_at "x"
      walk_at "o"
      exact q
  rcases ht with rfl | ⟨s, rfl, hs⟩
  · walk_at "x"
    exact main _ _
  · have m := main (trip s)
    unfold trip at *
    walk_at "x"
    rcases lev3 hle with z | z | z
    all_goals
      rw [z] at hs m ⊢
      walk_at "x"
      refine ite_kF (by rw [hs]; rfl) ?_
      walk_at "x"
      exact m _
theorem val_hit {cv : Nat → Nat → D} {u : Nat} (h : ∀ c, cv u c = .none) : ∀ {e : Xp}, ((colsX e).any fun q => decide ((q.1 : Int) = (u : Int))) = true → valX cv e = .none
  | .num i, z => by simp [colsX] at z
  | .txt x, z => by simp [colsX] at z
  | .col a b, z => by
    simp [colsX] at z
    have : a = u := by omega
    subst this
    exact h b
  | .neg e, z => by
    unfold valX
    rw [val_hit h (e := e) z]
    rfl
  | .bin o a b, z => by
    unfold colsX at z
    rw [List.any_append, Bool.or_eq_true] at z
    unfold valX
    rcases z with z | z
    · rw [val_hit h (e := a) z]
      cases o <;> rfl
    · rw [val_hit h (e := b) z]
      cases o <;> (cases valX cv a <;> rfl)
theorem lev_at {cv : Nat → Nat → D} {u : Nat} (h : ∀ c, cv u c = .none) (l : Lf) : levL (hitL l (u : Int)) l (atL cv l) = true := by
  cases l with
  | nul e =>
    have e1 : atL cv (.nul e) = if isNoneD (valX cv e) then 2 else 0 := rfl
    rw [e1]
    cases hh : hitL (.nul e) (u : Int) with
    | true =>
      rw [val_hit h (e := e) hh]
      rfl
    | false => cases isNoneD (valX cv e) <;> rfl
  | cmp o a b =>
    have e1 : atL cv (.cmp o a b) = cmpN o (valX cv a) (valX cv b) := rfl
    rw [e1]
    cases hh : hitL (.cmp o a b) (u : Int) with
    | true =>
      have hh : ((colsX a ++ colsX b).any fun q => decide ((q.1 : Int) = (u : Int))) = true := hh
      rw [List.any_append, Bool.or_eq_true] at hh
      have e2 : cmpN o (valX cv a) (valX cv b) = 1 := by
        unfold cmpN
        rcases hh with z | z
        · rw [val_hit h z]
          rfl
        · rw [val_hit h z, show isNoneD PyData.none = true from rfl, Bool.or_true, if_pos rfl]
      rw [e2]
      rfl
    | false =>
      unfold cmpN
      cases isNoneD (valX cv a) || isNoneD (valX cv b) <;> cases cmpD o (valX cv a) (valX cv b) <;> rfl
theorem told_ok {lvs : List Lv} {cv : Nat → Nat → D} {u : Nat} {c : Cd} (h : ∀ c, cv u c = .none) (hc : leavesC c = List.range lvs.length) : levC (levOf lvs (u : Int)) c (atC (atLv cv lvs) c) = true := by
  refine (reach _ (fun k l h => levOf_le h) c (by rw [hc]; exact List.nodup_range) _).mpr ⟨atLv cv lvs, fun k hk => ?_, rfl⟩
  rw [hc] at hk
  have hkl := List.mem_range.mp hk
  have ek : lvs[k]? = some lvs[k] := List.getElem?_eq_getElem hkl
  unfold levOf atLv
  rw [ek]
  exact lev_at h _
theorem bool_tr (b : Bool) : PyData.bool b = trD (if b = true then 2 else 0) := (trD_if b).symm
theorem two_le (b : Bool) : (if b = true then 2 else 0) ≤ 2 := by cases b <;> decide
theorem rp_law_unit (as : List SD) (Q : RS → List SD → Prop) (h : sp_law_unit as Q) : rd_law_unit 40 { nx := fun δ => Q (.dt .none) (outs as δ), rt := fun d δ => Q d (outs as δ) } (startD 8 as) := by
  obtain ⟨lvs, c, cv, p, w, rfl, hg, hc, h5, hh, hv, hw, q⟩ := h
  show rd_law_unit 40 _ [.dt (encT (lsOf encL lvs) c), .dt (encB c), .dt (.list (lvs.map encLv)), .dt (.int (w : Int)), .ow p (OD.dt (cellsK cv)), .un, .un, .un]
  unfold rd_law_unit
  have hk : ∀ k ∈ leavesC c, k < lvs.length := fun k hk => by rw [hc] at hk; exact List.mem_range.mp hk
  have tok := told_ok hw hc
  walk_at "x"
  refine ⟨rfl, ?_⟩
  rw [perm2]
  refine call_ok (by simp [bors]) (by simp [bors]) fun Q2 hQ => ⟨lvs, c, w, rfl, hg, hk, hh, hQ _ _ rfl ?_⟩
  walk_at "s"
  generalize hS : levC (levOf lvs (w : Int)) c = S at tok
  unfold trip
  walk_at "x"
  refine call_ok (by simp [bors]) (by simp [bors]) fun Q2 hQ => ⟨lvs, c, w, rfl, hg, hc, h5, hh, hQ _ _ rfl ?_⟩
  rw [hS]
  walk_at "s"
  walk_at "x"
  refine st_lc (own1 rfl rfl) ?_
  walk_at "x"
  refine ⟨_, rfl, by omega, by omega, own1 rfl rfl, lc_opt (fun _ => none) (by decide) (fun x hx Ny Nn h1 h2 => ?_) ?_⟩
  · have hx : x ∈ [PyData.int (0 + ((0 : Nat) : Int)), .int (0 + ((1 : Nat) : Int)), .int (0 + ((2 : Nat) : Int))] := hx
    walk_at "s"
    rcases List.mem_cons.mp hx with rfl | hx
    · walk_at "x"
      refine call_ok (by simp [bors]) (by simp [bors]) fun Q2 hQ => ⟨_, _, two_le (S 2), two_le (S 2), by rw [trD_if]; rfl, hQ _ _ rfl ?_⟩
      walk_at "s"
      rw [decide_eq_true rfl]
      walk_at "x"
      exact h2 _ rfl rfl
    rcases List.mem_cons.mp hx with rfl | hx
    · walk_at "x"
      refine call_ok (by simp [bors]) (by simp [bors]) fun Q2 hQ => ⟨_, _, two_le (S 0), two_le (S 0), by rw [trD_if]; rfl, hQ _ _ rfl ?_⟩
      walk_at "s"
      rw [decide_eq_true rfl]
      walk_at "x"
      exact h2 _ rfl rfl
    rcases List.mem_cons.mp hx with rfl | hx
    · walk_at "x"
      refine call_ok (by simp [bors]) (by simp [bors]) fun Q2 hQ => ⟨_, _, two_le (S 1), two_le (S 1), by rw [trD_if]; rfl, hQ _ _ rfl ?_⟩
      walk_at "s"
      rw [decide_eq_true rfl]
      walk_at "x"
      exact h2 _ rfl rfl
    simp at hx
  have en : (rngD 0 (3 : Int).toNat).filterMap (fun _ => (none : Option D)) = [] := rfl
  rw [en]
  walk_at "x"
  refine ⟨rfl, ?_⟩
  rw [perm2]
  refine call_ok (by simp [bors]) (by simp [bors]) fun Q2 hQ => ⟨lvs, c, w, rfl, hg, hk, hh, hQ _ _ rfl ?_⟩
  rw [hS]
  walk_at "s"
  walk_at "x"
  refine call_ok (by simp [bors]) (by simp [bors]) fun Q2 hQ => ⟨_, _, two_le (!S 2), two_le (!S 2), by rw [trD_if]; rfl, hQ _ _ rfl ?_⟩
  walk_at "s"
  rw [decide_eq_true rfl]
  walk_at "x"
  refine call_ok (by simp [bors]) (by simp [bors]) fun Q2 hQ => ⟨lvs, c, cv, p, _, rfl, hg, hc, h5, hh, hv, .inr ⟨S, rfl, tok⟩, hQ _ _ rfl ?_⟩
  walk_at "s"
  walk_at "x"
  walk_at "o"
  exact q
theorem values_ok {p : Addr} {ns : List Int} {w : Int} {Q2 : RS → List SD → Prop} (q : ∀ (cv : Nat → Nat → D) (ns' : List Int), GoodCv cv → (∀ u c : Nat, (u : Int) = w → cv u c = .none) → Q2 (.obj (apT (cellsK cv))) [deck p ns', .un]) : sp_law_values [deck p ns, .dt (.int w)] Q2 :=
  ⟨_, w, rfl, .inl ⟨p, ns, rfl⟩, fun cv s' hv hw hd => by
    obtain ⟨ns', rfl⟩ := hd.own
    rw [oneOut_dk]
    exact q cv ns' hv hw⟩
theorem st_callTmp {dsp dspG : DSp} {tc1 tcG tc2 : TDC} {δ : Dl} {Q : D → Dl → Prop} (q : tc1 δ fun es1 δ1 => tcG δ1 fun esG δ2 => (bors esG).Nodup ∧ (∀ i ∈ bors esG, i < δ2.length) ∧
  ∀ Q2 : RS → List SD → Prop, (∀ a as', as'.length = esG.length → tmpK dsp es1 tc2 a (back esG as' δ2) Q → Q2 (.obj a) as') → dspG (esG.map (resD δ2)) Q2) : dCallTmp dsp dspG tc1 tcG tc2 δ Q := q
theorem st_cIfOwn {tt : TDB} {i : Nat} {u : TDC} {δ : Dl} {Q : List Ent → Dl → Prop} (q : tt δ fun b δ1 => if b = true then ∃ p o, δ1[i]? = some (.ow p o) ∧ u δ1 fun es δ2 => Q (.inl i :: es) δ2 else u δ1 fun es δ2 => Q (.inr (.list []) :: es) δ2) : cIfOwn tt i u δ Q := q
theorem rp_law (as : List SD) (Q : RS → List SD → Prop) (h : spLaw as Q) : rd_law { nx := fun δ => Q (.dt .none) (outs as δ), rt := fun d δ => Q d (outs as δ) } (startD 9 as) := by
  obtain ⟨ns, rfl, hl, q⟩ := h
  show rd_law _ [.dt (.list (ns.map .int)), .un, .un, .un, .un, .un, .un, .un, .un]
  unfold rd_law
  walk_at "x"
  refine call_ok (by simp [bors]) (by simp [bors]) fun Q2 hQ => ⟨ns, rfl, hl, fun ns1 => hQ _ _ rfl ?_⟩
  walk_at "s"
  walk_at "x"
  rename_i p
  refine ⟨_, rfl, by omega, by omega, ?_⟩
  refine for_rng (fun i δ => ∃ (ns1 : List Int) (s2 s3 s4 s5 s6 s7 : SD), δ = [.dt (.list (ns.map .int)), deck p ns1, s2, s3, s4, s5, s6, s7, .un]) ⟨ns1, .un, .un, .un, .un, .un, .un, rfl⟩ ?_ ?_
  · rintro i δ N hi ⟨ns1, s2, s3, s4, s5, s6, s7, rfl⟩ hN
    walk_at "x"
    refine st_lc (own1 rfl rfl) ?_
    walk_at "x"
    refine call_ok (by simp [bors]) (by simp [bors]) fun Q2 hQ => pick_ok (by omega) fun r ns2 h0 h1 => hQ _ _ rfl ?_
    walk_at "s"
    walk_at "x"
    refine ⟨_, rfl, by omega, by omega, own1 rfl rfl, lc_inv (fun k acc δ => ∃ (ns2 : List Int) (lvs : List Lv), δ = [.dt (.list (ns.map .int)), deck p ns2, .dt (.int (0 + (i : Int))), s3, s4, s5, s6, s7, .un] ∧ acc = lvs.map encLv ∧ lvs.length = k ∧ ∀ x ∈ lvs, GoodLv x) ⟨ns2, [], rfl, rfl, rfl, fun _ h => by simp at h⟩ ?_ ?_⟩
    · rintro k x acc δ N hx ⟨ns2, lvs, rfl, rfl, hk, hg⟩ hN
      have hkl := lt_of_get hx
      rw [rngD_len] at hkl
      walk_at "s"
      walk_at "x"
      refine call_ok (by simp [bors]) (by simp [bors]) fun Q2 hQ => ⟨p, ns2, rfl, fun lv ns3 hlv => hQ _ _ rfl ?_⟩
      walk_at "s"
      refine ⟨by rw [List.length_map]; omega, hN _ _ ⟨ns3, lvs ++ [lv], rfl, by rw [List.map_append]; rfl, by simp; omega, fun x hx => ?_⟩⟩
      rcases List.mem_append.mp hx with z | z
      · exact hg x z
      · simp at z
        subst z
        exact hlv
    rintro acc δ ⟨ns2, lvs, rfl, rfl, hk, hg⟩
    rw [rngD_len] at hk
    walk_at "x"
    refine call_ok (by simp [bors]) (by simp [bors]) fun Q2 hQ => ⟨p, ns2, lvs, rfl, by omega, by omega, fun c ns3 hc hh => hQ _ _ rfl ?_⟩
    walk_at "s"
    walk_at "x"
    refine st_callTmp ?_
    walk_at "x"
    refine call_ok (by simp [bors]) (by simp [bors]) fun Q2 hQ => values_ok fun cv ns4 hv hw => hQ _ _ rfl ?_
    intro pc
    walk_at "x"
    refine call_ok (by simp [bors]) (by simp [bors]) fun Q2 hQ => ⟨lvs, c, cv, pc, .none, rfl, hg, hc, by omega, hh, hv, .inl rfl, hQ _ _ rfl ?_⟩
    simp only [List.cons_append, List.nil_append, List.length_cons, List.length_nil, back, List.set, List.dropLast]
    walk_at "x"
    refine call_ok (by simp [bors]) (by simp [bors]) fun Q2 hQ => pick_ok (by omega) fun one ns5 h2 h3 => hQ _ _ rfl ?_
    walk_at "s"
    walk_at "x"
    refine ⟨_, rfl, by omega, by omega, ?_⟩
    refine for_rng (fun j δ => ∃ (ns6 : List Int) (s6 s7 : SD), δ = [.dt (.list (ns.map .int)), deck p ns6, .dt (.int (0 + (i : Int))), .dt (.list (lvs.map encLv)), .dt (.tuple [encT (lsOf encL lvs) c, encB c]), .dt (.int one), s6, s7, .un]) ⟨ns5, s6, s7, rfl⟩ ?_ ?_
    · rintro j δ N2 hj ⟨ns6, s6, s7, rfl⟩ hN2
      rw [Int.zero_add]
      walk_at "x"
      have fin : ∀ (cv : Nat → Nat → D) (pc : Addr) (ns6 : List Int), GoodCv cv → (∀ u c : Nat, (u : Int) = (j : Int) → cv u c = .none) → ∀ De : DEnds, De.nx = N2 →
          sIf (dNot (dTest (dCallF sp_law_unit (cCons (dOp ixD (dVar 4) (dC (.int 0))) (cCons (dOp ixD (dVar 4) (dC (.int 1))) (cCons (dVar 3) (cCons (dVar 6) (cLendT 7 cNil)))))))) (sRet (dC (.bool false))) sNext De
            [.dt (.list (ns.map .int)), deck p ns6, .dt (.int (0 + (i : Int))), .dt (.list (lvs.map encLv)), .dt (.tuple [encT (lsOf encL lvs) c, encB c]), .dt (.int one), .dt (.int (j : Int)), .ow pc (OD.dt (cellsK cv)), .un] := by
        intro cv pc ns6 hv hw De hDe
        walk_at "x"
        refine call_ok (by simp [bors]) (by simp [bors]) fun Q2 hQ => ⟨lvs, c, cv, pc, j, rfl, hg, hc, by omega, hh, hv, fun c => hw j c rfl, hQ _ _ rfl ?_⟩
        walk_at "s"
        walk_at "x"
        rw [hDe]
        exact hN2 _ ⟨_, _, _, rfl⟩
      refine st_cIfOwn ?_
      walk_at "x"
      refine ite_dec (fun h4 => ?_) (fun h4 => ?_)
      · refine ⟨p, _, rfl, ?_⟩
        walk_at "x"
        refine ⟨by simp [bors], by simp [bors], by simp, fun Q2 hQ => values_ok fun cv ns7 hv hw => hQ _ _ rfl fun pc => ?_⟩
        exact fin cv pc ns7 hv hw _ rfl
      · walk_at "x"
        refine ⟨by simp [bors], by simp [bors], by simp, fun Q2 hQ => ⟨_, _, rfl, .inr rfl, fun cv s' hv hw hd => hQ _ _ rfl fun pc => ?_⟩⟩
        exact fin cv pc ns6 hv hw _ rfl
    · rintro δ ⟨ns6, s6, s7, rfl⟩
      exact hN _ ⟨_, _, _, _, _, _, _, rfl⟩
  · rintro δ ⟨ns1, s2, s3, s4, s5, s6, s7, rfl⟩
    walk_at "x"
    walk_at "o"
    exact q
section
variable {P : Program} {w : World} {K : PySem.W.Frag} {mg : Str → Option Value} {base : Heap}
theorem ok_raw_columns {n_collect_raw_columns : Nat} {dsp : DSp} {k : Nat} (Y : Fs K mg) (T : Bt K mg) {k_collect_raw_columns : Nat} (hk_collect_raw_columns : k_collect_raw_columns ≤ k) (G_collect_raw_columns : FnOk P w K mg base CX0 k_collect_raw_columns Y.a_collect_raw_columns Y.d_collect_raw_columns ["thing", "met"] (spOf K (sp_collect_raw_columns n_collect_raw_columns))) (len : ∀ as Q, dsp as Q → as.length = 1)
    (rp : ∀ (as : List SD) (Q : RS → List SD → Prop), dsp as Q → (rd_raw_columns n_collect_raw_columns) { nx := fun δ => Q (.dt .none) (outs as δ), rt := fun d δ => Q d (outs as δ) } (startD 2 as)) :
    FnOk P w K mg base CX0 (k + 1) Y.a_raw_columns Y.d_raw_columns ["thing"] (spOf K dsp) :=
  fn_ok Y.F_raw_columns sc_raw_columns len (by decide) fun cdv A outer s H E hr => ⟨_, (rd_raw_columns n_collect_raw_columns),
    (js_cons (js_own (i := 1) sc_raw_columns.nd (jn_lst ja_nil)) (js_cons (js_expr (je_call G_collect_raw_columns (hr.mono hk_collect_raw_columns) Y.m_collect_raw_columns Y.F_collect_raw_columns.kp Y.b_collect_raw_columns (jc_cons (je_var 0) (jc_own 1 jc_nil)))) (js_one (js_ret (je_callTy cd_tuple rfl T.b_tuple (by decide +kernel) (ja_cons (je_frz 1) ja_nil)))))), rp⟩
theorem ok_collect_raw_columns {n : Nat} {dsp : DSp} {k : Nat} (Y : Fs K mg) (T : Bt K mg) {k_collect_raw_columns : Nat} (hk_collect_raw_columns : k_collect_raw_columns ≤ k) (G_collect_raw_columns : FnOk P w K mg base CX0 k_collect_raw_columns Y.a_collect_raw_columns Y.d_collect_raw_columns ["thing", "met"] (spOf K (sp_collect_raw_columns n))) (len : ∀ as Q, dsp as Q → as.length = 2)
    (rp : ∀ (as : List SD) (Q : RS → List SD → Prop), dsp as Q → (rd_collect_raw_columns n) { nx := fun δ => Q (.dt .none) (outs as δ), rt := fun d δ => Q d (outs as δ) } (startD 4 as)) :
    FnOk P w K mg base CX0 (k + 1) Y.a_collect_raw_columns Y.d_collect_raw_columns ["thing", "met"] (spOf K dsp) :=
  fn_ok Y.F_collect_raw_columns sc_collect_raw_columns len (by decide) fun cdv A outer s H E hr => ⟨_, (rd_collect_raw_columns n),
    (js_one (js_if (jt_cmp (do_eq (huD hr)) (je_ix (je_var 0) je_int) je_str) (js_cons (js_set (i := 2) sc_collect_raw_columns.nd (je_tup (ja_cons (je_ix (je_var 0) je_int) (ja_cons (je_ix (je_var 0) je_int) ja_nil)))) (js_one (js_if (jt_notInO (huD hr) 1 (je_var 2)) (js_one (js_app 1 (je_var 2))) js_nil))) (js_one (js_if (jt_cmp (do_notIn (huD hr)) (je_ix (je_var 0) je_int) (je_cst T.c_RAW_LEAVES)) (js_one (js_for rfl (ji_tup (je_slice (je_var 0) (jo_some je_int) jo_none)) (jg_name (i := 3) sc_collect_raw_columns.nd) (js_one (js_if (jt_val (je_isi tok_tuple rfl T.b_isinstance rfl T.b_tuple (by decide +kernel) (je_var 3))) (js_one (js_expr (je_call G_collect_raw_columns (hr.mono hk_collect_raw_columns) Y.m_collect_raw_columns Y.F_collect_raw_columns.kp Y.b_collect_raw_columns (jc_cons (je_var 3) (jc_own 1 jc_nil))))) js_nil)))) js_nil)))), rp⟩
theorem ok_negated {dsp : DSp} {k : Nat} (Y : Fs K mg) (T : Bt K mg)  (len : ∀ as Q, dsp as Q → as.length = 1)
    (rp : ∀ (as : List SD) (Q : RS → List SD → Prop), dsp as Q → rd_negated { nx := fun δ => Q (.dt .none) (outs as δ), rt := fun d δ => Q d (outs as δ) } (startD 1 as)) :
    FnOk P w K mg base CX0 (k + 1) Y.a_negated Y.d_negated ["t"] (spOf K dsp) :=
  fn_ok Y.F_negated sc_negated len (by decide) fun cdv A outer s H E hr => ⟨_, rd_negated,
    (js_cons (js_if (jt_isN (je_var 0)) (js_one (js_ret je_non)) js_nil) (js_one (js_ret (je_not (je_var 0))))), rp⟩
theorem ok_perhaps {dsp : DSp} {k : Nat} (Y : Fs K mg) (T : Bt K mg)  (len : ∀ as Q, dsp as Q → as.length = 1)
    (rp : ∀ (as : List SD) (Q : RS → List SD → Prop), dsp as Q → rd_perhaps { nx := fun δ => Q (.dt .none) (outs as δ), rt := fun d δ => Q d (outs as δ) } (startD 1 as)) :
    FnOk P w K mg base CX0 (k + 1) Y.a_perhaps Y.d_perhaps ["t"] (spOf K dsp) :=
  fn_ok Y.F_perhaps sc_perhaps len (by decide) fun cdv A outer s H E hr => ⟨_, rd_perhaps,
    (js_one (js_ret (je_notB (je_var 0)))), rp⟩
theorem ok_both {dsp : DSp} {k : Nat} (Y : Fs K mg) (T : Bt K mg)  (len : ∀ as Q, dsp as Q → as.length = 2)
    (rp : ∀ (as : List SD) (Q : RS → List SD → Prop), dsp as Q → rd_both { nx := fun δ => Q (.dt .none) (outs as δ), rt := fun d δ => Q d (outs as δ) } (startD 2 as)) :
    FnOk P w K mg base CX0 (k + 1) Y.a_both Y.d_both ["s", "t"] (spOf K dsp) :=
  fn_ok Y.F_both sc_both len (by decide) fun cdv A outer s H E hr => ⟨_, rd_both,
    (js_cons (js_if (JW.jt (jw_or (jt_isB (je_var 0)) (jw_or1 (jt_isB (je_var 1))))) (js_one (js_ret je_bl)) js_nil) (js_cons (js_if (JW.jt (jw_or (jt_isN (je_var 0)) (jw_or1 (jt_isN (je_var 1))))) (js_one (js_ret je_non)) js_nil) (js_one (js_ret je_bl)))), rp⟩
theorem ok_either {dsp : DSp} {k : Nat} (Y : Fs K mg) (T : Bt K mg)  (len : ∀ as Q, dsp as Q → as.length = 2)
    (rp : ∀ (as : List SD) (Q : RS → List SD → Prop), dsp as Q → rd_either { nx := fun δ => Q (.dt .none) (outs as δ), rt := fun d δ => Q d (outs as δ) } (startD 2 as)) :
    FnOk P w K mg base CX0 (k + 1) Y.a_either Y.d_either ["s", "t"] (spOf K dsp) :=
  fn_ok Y.F_either sc_either len (by decide) fun cdv A outer s H E hr => ⟨_, rd_either,
    (js_cons (js_if (JW.jt (jw_or (jt_isB (je_var 0)) (jw_or1 (jt_isB (je_var 1))))) (js_one (js_ret je_bl)) js_nil) (js_cons (js_if (JW.jt (jw_or (jt_isN (je_var 0)) (jw_or1 (jt_isN (je_var 1))))) (js_one (js_ret je_non)) js_nil) (js_one (js_ret je_bl)))), rp⟩
theorem ok_compared {dsp : DSp} {k : Nat} (Y : Fs K mg) (T : Bt K mg)  (len : ∀ as Q, dsp as Q → as.length = 3)
    (rp : ∀ (as : List SD) (Q : RS → List SD → Prop), dsp as Q → rd_compared { nx := fun δ => Q (.dt .none) (outs as δ), rt := fun d δ => Q d (outs as δ) } (startD 3 as)) :
    FnOk P w K mg base CX0 (k + 1) Y.a_compared Y.d_compared ["op", "one", "other"] (spOf K dsp) :=
  fn_ok Y.F_compared sc_compared len (by decide) fun cdv A outer s H E hr => ⟨_, rd_compared,
    (js_cons (js_if (JW.jt (jw_or (jt_isN (je_var 1)) (jw_or1 (jt_isN (je_var 2))))) (js_one (js_ret je_non)) js_nil) (js_cons (js_if (jt_cmp (do_eq (huD hr)) (je_var 0) je_str) (js_one (js_ret (je_cmp (do_eq (huD hr)) (je_var 1) (je_var 2)))) js_nil) (js_cons (js_if (jt_cmp (do_eq (huD hr)) (je_var 0) je_str) (js_one (js_ret (je_cmp (do_ne (huD hr)) (je_var 1) (je_var 2)))) js_nil) (js_cons (js_if (jt_cmp (do_eq (huD hr)) (je_var 0) je_str) (js_one (js_ret (je_cmp (do_lt (huD hr)) (je_var 1) (je_var 2)))) js_nil) (js_cons (js_if (jt_cmp (do_eq (huD hr)) (je_var 0) je_str) (js_one (js_ret (je_cmp (do_le (huD hr)) (je_var 1) (je_var 2)))) js_nil) (js_cons (js_if (jt_cmp (do_eq (huD hr)) (je_var 0) je_str) (js_one (js_ret (je_cmp (do_gt (huD hr)) (je_var 1) (je_var 2)))) js_nil) (js_one (js_ret (je_cmp (do_ge (huD hr)) (je_var 1) (je_var 2)))))))))), rp⟩
theorem ok_possible {n : Nat} {dsp : DSp} {k : Nat} (Y : Fs K mg) (T : Bt K mg) {k_reads_unit : Nat} (hk_reads_unit : k_reads_unit ≤ k) (G_reads_unit : FnOk P w K mg base CX0 k_reads_unit Y.a_reads_unit Y.d_reads_unit ["thing", "unit"] (spOf K sp_reads_unit)) {k_possible : Nat} (hk_possible : k_possible ≤ k) (G_possible : FnOk P w K mg base CX0 k_possible Y.a_possible Y.d_possible ["cond", "unit"] (spOf K (sp_possible n))) {k_truths_told : Nat} (hk_truths_told : k_truths_told ≤ k) (G_truths_told : FnOk P w K mg base CX0 k_truths_told Y.a_truths_told Y.d_truths_told ["triple"] (spOf K sp_truths_told)) {k_negated : Nat} (hk_negated : k_negated ≤ k) (G_negated : FnOk P w K mg base CX0 k_negated Y.a_negated Y.d_negated ["t"] (spOf K sp_negated)) {k_told_truths : Nat} (hk_told_truths : k_told_truths ≤ k) (G_told_truths : FnOk P w K mg base CX0 k_told_truths Y.a_told_truths Y.d_told_truths ["truths"] (spOf K sp_told_truths)) {k_perhaps : Nat} (hk_perhaps : k_perhaps ≤ k) (G_perhaps : FnOk P w K mg base CX0 k_perhaps Y.a_perhaps Y.d_perhaps ["t"] (spOf K sp_perhaps)) {k_both : Nat} (hk_both : k_both ≤ k) (G_both : FnOk P w K mg base CX0 k_both Y.a_both Y.d_both ["s", "t"] (spOf K sp_both)) {k_either : Nat} (hk_either : k_either ≤ k) (G_either : FnOk P w K mg base CX0 k_either Y.a_either Y.d_either ["s", "t"] (spOf K sp_either)) (len : ∀ as Q, dsp as Q → as.length = 2)
    (rp : ∀ (as : List SD) (Q : RS → List SD → Prop), dsp as Q → (rd_possible n) { nx := fun δ => Q (.dt .none) (outs as δ), rt := fun d δ => Q d (outs as δ) } (startD 8 as)) :
    FnOk P w K mg base CX0 (k + 1) Y.a_possible Y.d_possible ["cond", "unit"] (spOf K dsp) :=
  fn_ok Y.F_possible sc_possible len (by decide) fun cdv A outer s H E hr => ⟨_, (rd_possible n),
    (js_cons (js_set (i := 2) sc_possible.nd (je_ix (je_var 0) je_int)) (js_cons (js_if (jt_cmp (do_eq (huD hr)) (je_var 2) je_str) (js_cons (js_set (i := 3) sc_possible.nd (je_call G_reads_unit (hr.mono hk_reads_unit) Y.m_reads_unit Y.F_reads_unit.kp Y.b_reads_unit (jc_cons (je_var 0) (jc_cons (je_var 1) jc_nil)))) (js_one (js_ret (je_tup (ja_cons (je_not (je_var 3)) (ja_cons (je_not (je_var 3)) (ja_cons je_bl ja_nil))))))) js_nil) (js_cons (js_if (jt_cmp (do_eq (huD hr)) (je_var 2) je_str) (js_one (js_ret (je_tup (ja_cons je_bl (ja_cons (je_not (je_call G_reads_unit (hr.mono hk_reads_unit) Y.m_reads_unit Y.F_reads_unit.kp Y.b_reads_unit (jc_cons (je_var 0) (jc_cons (je_var 1) jc_nil)))) (ja_cons je_bl ja_nil)))))) js_nil) (js_cons (js_set (i := 4) sc_possible.nd (je_call G_truths_told (hr.mono hk_truths_told) Y.m_truths_told Y.F_truths_told.kp Y.b_truths_told (jc_cons (je_call G_possible (hr.mono hk_possible) Y.m_possible Y.F_possible.kp Y.b_possible (jc_cons (je_ix (je_var 0) je_int) (jc_cons (je_var 1) jc_nil))) jc_nil))) (js_cons (js_if (jt_cmp (do_eq (huD hr)) (je_var 2) je_str) (js_one (js_ret (je_call G_told_truths (hr.mono hk_told_truths) Y.m_told_truths Y.F_told_truths.kp Y.b_told_truths (jc_cons (je_new (jn_lc (i := 6) rfl sc_possible.nd (ji_list (je_var 4)) (blkOk_by (N := ["cond", "unit", "word", "reads", "first", "second", "one", "other"]) (sc := defScope s_possible) (by decide +kernel)) (fun _ _ _ _ _ => pg_name (i := 6) sc_possible.nd rfl (Or.inl rfl)) (fun _ _ _ _ _ => by exact (je_call G_negated (hr.mono hk_negated) Y.m_negated Y.F_negated.kp Y.b_negated (jc_cons (je_var 6) jc_nil))))) jc_nil)))) js_nil) (js_cons (js_if (jt_cmp (do_eq (huD hr)) (je_var 2) je_str) (js_one (js_ret (je_call G_told_truths (hr.mono hk_told_truths) Y.m_told_truths Y.F_told_truths.kp Y.b_told_truths (jc_cons (je_new (jn_lc (i := 6) rfl sc_possible.nd (ji_list (je_var 4)) (blkOk_by (N := ["cond", "unit", "word", "reads", "first", "second", "one", "other"]) (sc := defScope s_possible) (by decide +kernel)) (fun _ _ _ _ _ => pg_name (i := 6) sc_possible.nd rfl (Or.inl rfl)) (fun _ _ _ _ _ => by exact (je_call G_perhaps (hr.mono hk_perhaps) Y.m_perhaps Y.F_perhaps.kp Y.b_perhaps (jc_cons (je_var 6) jc_nil))))) jc_nil)))) js_nil) (js_cons (js_set (i := 5) sc_possible.nd (je_call G_truths_told (hr.mono hk_truths_told) Y.m_truths_told Y.F_truths_told.kp Y.b_truths_told (jc_cons (je_call G_possible (hr.mono hk_possible) Y.m_possible Y.F_possible.kp Y.b_possible (jc_cons (je_ix (je_var 0) je_int) (jc_cons (je_var 1) jc_nil))) jc_nil))) (js_cons (js_if (jt_cmp (do_eq (huD hr)) (je_var 2) je_str) (js_one (js_ret (je_call G_told_truths (hr.mono hk_told_truths) Y.m_told_truths Y.F_told_truths.kp Y.b_told_truths (jc_cons (je_new (jn_lc2 (own := [("one", 6), ("other", 7)]) (vs1 := [7]) rfl sc_possible.nd (ji_list (je_var 4)) (blkOk_by (N := ["cond", "unit", "word", "reads", "first", "second", "one", "other"]) (sc := defScope s_possible) (by decide +kernel)) (fun _ _ _ _ _ => (pg_name (i := 6) sc_possible.nd rfl (Or.inl rfl))) (gw_name (i := 6) (by decide)) (fun _ _ _ _ _ => by exact (ji_list (je_var 5))) (fun _ _ _ _ _ => (pg_name (i := 7) sc_possible.nd rfl (Or.inl rfl))) (gw_name (i := 7) (by decide)) (fun _ _ _ _ _ => by exact (je_call G_both (hr.mono hk_both) Y.m_both Y.F_both.kp Y.b_both (jc_cons (je_var 6) (jc_cons (je_var 7) jc_nil)))))) jc_nil)))) js_nil) (js_one (js_ret (je_call G_told_truths (hr.mono hk_told_truths) Y.m_told_truths Y.F_told_truths.kp Y.b_told_truths (jc_cons (je_new (jn_lc2 (own := [("one", 6), ("other", 7)]) (vs1 := [7]) rfl sc_possible.nd (ji_list (je_var 4)) (blkOk_by (N := ["cond", "unit", "word", "reads", "first", "second", "one", "other"]) (sc := defScope s_possible) (by decide +kernel)) (fun _ _ _ _ _ => (pg_name (i := 6) sc_possible.nd rfl (Or.inl rfl))) (gw_name (i := 6) (by decide)) (fun _ _ _ _ _ => by exact (ji_list (je_var 5))) (fun _ _ _ _ _ => (pg_name (i := 7) sc_possible.nd rfl (Or.inl rfl))) (gw_name (i := 7) (by decide)) (fun _ _ _ _ _ => by exact (je_call G_either (hr.mono hk_either) Y.m_either Y.F_either.kp Y.b_either (jc_cons (je_var 6) (jc_cons (je_var 7) jc_nil)))))) jc_nil)))))))))))), rp⟩
theorem ok_never_on_nulls {n_possible : Nat} {dsp : DSp} {k : Nat} (Y : Fs K mg) (T : Bt K mg) {k_possible : Nat} (hk_possible : k_possible ≤ k) (G_possible : FnOk P w K mg base CX0 k_possible Y.a_possible Y.d_possible ["cond", "unit"] (spOf K (sp_possible n_possible))) (len : ∀ as Q, dsp as Q → as.length = 2)
    (rp : ∀ (as : List SD) (Q : RS → List SD → Prop), dsp as Q → (rd_never_on_nulls n_possible) { nx := fun δ => Q (.dt .none) (outs as δ), rt := fun d δ => Q d (outs as δ) } (startD 2 as)) :
    FnOk P w K mg base CX0 (k + 1) Y.a_never_on_nulls Y.d_never_on_nulls ["cond", "unit"] (spOf K dsp) :=
  fn_ok Y.F_never_on_nulls sc_never_on_nulls len (by decide) fun cdv A outer s H E hr => ⟨_, (rd_never_on_nulls n_possible),
    (js_one (js_ret (je_not (je_ix (je_call G_possible (hr.mono hk_possible) Y.m_possible Y.F_possible.kp Y.b_possible (jc_cons (je_var 0) (jc_cons (je_var 1) jc_nil))) je_int)))), rp⟩
theorem ok_reads_unit {dsp : DSp} {k : Nat} (Y : Fs K mg) (T : Bt K mg) {k_raw_columns : Nat} (hk_raw_columns : k_raw_columns ≤ k) (G_raw_columns : FnOk P w K mg base CX0 k_raw_columns Y.a_raw_columns Y.d_raw_columns ["thing"] (spOf K sp_raw_columns)) (len : ∀ as Q, dsp as Q → as.length = 2)
    (rp : ∀ (as : List SD) (Q : RS → List SD → Prop), dsp as Q → rd_reads_unit { nx := fun δ => Q (.dt .none) (outs as δ), rt := fun d δ => Q d (outs as δ) } (startD 4 as)) :
    FnOk P w K mg base CX0 (k + 1) Y.a_reads_unit Y.d_reads_unit ["thing", "unit"] (spOf K dsp) :=
  fn_ok Y.F_reads_unit sc_reads_unit len (by decide) fun cdv A outer s H E hr => ⟨_, rd_reads_unit,
    (js_one (js_ret (je_callB (cd_any rfl) rfl T.b_any (by decide +kernel) (ja_cons (je_new (jn_lcG (own := [("u", 2), ("_", 3)]) rfl sc_reads_unit.nd (ji_tup (je_call G_raw_columns (hr.mono hk_raw_columns) Y.m_raw_columns Y.F_raw_columns.kp Y.b_raw_columns (jc_cons (je_var 0) jc_nil))) (blkOk_by (N := ["thing", "unit", "u", "_"]) (sc := defScope s_reads_unit) (by decide +kernel)) (fun _ _ _ _ _ => (pg_tup rfl (pgs_cons (pg_name (i := 2) sc_reads_unit.nd rfl (Or.inl rfl)) (pgs_cons (pg_name (i := 3) sc_reads_unit.nd rfl (Or.inl rfl)) pgs_nil)))) (gw_two (i := 2) (j := 3) (by decide) (by decide)) (fun _ _ _ _ _ => by exact (je_cmp (do_eq (huD hr)) (je_var 2) (je_var 1))))) ja_nil)))), rp⟩
theorem ok_truths_told {dsp : DSp} {k : Nat} (Y : Fs K mg) (T : Bt K mg)  (len : ∀ as Q, dsp as Q → as.length = 1)
    (rp : ∀ (as : List SD) (Q : RS → List SD → Prop), dsp as Q → rd_truths_told { nx := fun δ => Q (.dt .none) (outs as δ), rt := fun d δ => Q d (outs as δ) } (startD 3 as)) :
    FnOk P w K mg base CX0 (k + 1) Y.a_truths_told Y.d_truths_told ["triple"] (spOf K dsp) :=
  fn_ok Y.F_truths_told sc_truths_told len (by decide) fun cdv A outer s H E hr => ⟨_, rd_truths_told,
    (js_one (js_ret (je_new (jn_lcGIf (own := [("truth", 1), ("may", 2)]) rfl sc_truths_told.nd (ji_zip rfl T.b_zip (ja_cons (je_tup (ja_cons je_bl (ja_cons je_bl (ja_cons je_non ja_nil)))) (ja_cons (je_var 0) ja_nil))) (blkOk_by (N := ["triple", "truth", "may"]) (sc := defScope s_truths_told) (by decide +kernel)) (fun _ _ _ _ _ => (pg_tup rfl (pgs_cons (pg_name (i := 1) sc_truths_told.nd rfl (Or.inl rfl)) (pgs_cons (pg_name (i := 2) sc_truths_told.nd rfl (Or.inl rfl)) pgs_nil)))) (gw_two (i := 1) (j := 2) (by decide) (by decide)) (fun _ _ _ _ _ => by exact (jt_val (je_var 2))) (fun _ _ _ _ _ => by exact (je_var 1)))))), rp⟩
theorem ok_told_truths {dsp : DSp} {k : Nat} (Y : Fs K mg) (T : Bt K mg)  (len : ∀ as Q, dsp as Q → as.length = 1)
    (rp : ∀ (as : List SD) (Q : RS → List SD → Prop), dsp as Q → rd_told_truths { nx := fun δ => Q (.dt .none) (outs as δ), rt := fun d δ => Q d (outs as δ) } (startD 2 as)) :
    FnOk P w K mg base CX0 (k + 1) Y.a_told_truths Y.d_told_truths ["truths"] (spOf K dsp) :=
  fn_ok Y.F_told_truths sc_told_truths len (by decide) fun cdv A outer s H E hr => ⟨_, rd_told_truths,
    (js_one (js_ret (je_tup (ja_cons (je_callB (cd_any rfl) rfl T.b_any (by decide +kernel) (ja_cons (je_new (jn_lc (i := 1) rfl sc_told_truths.nd (ji_list (je_var 0)) (blkOk_by (N := ["truths", "one"]) (sc := defScope s_told_truths) (by decide +kernel)) (fun _ _ _ _ _ => pg_name (i := 1) sc_told_truths.nd rfl (Or.inl rfl)) (fun _ _ _ _ _ => by exact (je_isB (je_var 1))))) ja_nil)) (ja_cons (je_callB (cd_any rfl) rfl T.b_any (by decide +kernel) (ja_cons (je_new (jn_lc (i := 1) rfl sc_told_truths.nd (ji_list (je_var 0)) (blkOk_by (N := ["truths", "one"]) (sc := defScope s_told_truths) (by decide +kernel)) (fun _ _ _ _ _ => pg_name (i := 1) sc_told_truths.nd rfl (Or.inl rfl)) (fun _ _ _ _ _ => by exact (je_isB (je_var 1))))) ja_nil)) (ja_cons (je_callB (cd_any rfl) rfl T.b_any (by decide +kernel) (ja_cons (je_new (jn_lc (i := 1) rfl sc_told_truths.nd (ji_list (je_var 0)) (blkOk_by (N := ["truths", "one"]) (sc := defScope s_told_truths) (by decide +kernel)) (fun _ _ _ _ _ => pg_name (i := 1) sc_told_truths.nd rfl (Or.inl rfl)) (fun _ _ _ _ _ => by exact (je_isN (je_var 1))))) ja_nil)) ja_nil)))))), rp⟩
theorem ok_mark_value {n : Nat} {dsp : DSp} {k : Nat} (Y : Fs K mg) (T : Bt K mg) {k_mark_value : Nat} (hk_mark_value : k_mark_value ≤ k) (G_mark_value : FnOk P w K mg base CX0 k_mark_value Y.a_mark_value Y.d_mark_value ["expr", "worth", "folds"] (spOf K (sp_mark_value n))) (len : ∀ as Q, dsp as Q → as.length = 3)
    (rp : ∀ (as : List SD) (Q : RS → List SD → Prop), dsp as Q → (rd_mark_value n) { nx := fun δ => Q (.dt .none) (outs as δ), rt := fun d δ => Q d (outs as δ) } (startD 6 as)) :
    FnOk P w K mg base CX0 (k + 1) Y.a_mark_value Y.d_mark_value ["expr", "worth", "folds"] (spOf K dsp) :=
  fn_ok Y.F_mark_value sc_mark_value len (by decide) fun cdv A outer s H E hr => ⟨_, (rd_mark_value n),
    (js_cons (js_set (i := 3) sc_mark_value.nd (je_ix (je_var 0) je_int)) (js_cons (js_if (jt_cmp (do_eq (huD hr)) (je_var 3) je_str) (js_one (js_ret (je_look (huD hr) 1 (je_ix (je_var 0) je_int)))) js_nil) (js_cons (js_if (jt_cmp (do_eq (huD hr)) (je_var 3) je_str) (js_one (js_ret (je_ix (je_var 2) (je_ix (je_var 0) je_int)))) js_nil) (js_cons (js_if (JW.jt (jw_or (jt_cmp (do_eq (huD hr)) (je_var 3) je_str) (jw_or1 (jt_cmp (do_eq (huD hr)) (je_var 3) je_str)))) (js_one (js_ret (je_ix (je_var 0) je_int))) js_nil) (js_cons (js_set (i := 4) sc_mark_value.nd (je_call G_mark_value (hr.mono hk_mark_value) Y.m_mark_value Y.F_mark_value.kp Y.b_mark_value (jc_cons (je_ix (je_var 0) je_int) (jc_own 1 (jc_cons (je_var 2) jc_nil))))) (js_cons (js_if (jt_cmp (do_eq (huD hr)) (je_var 3) je_str) (js_one (js_ret (je_ifExp (jt_isN (je_var 4)) je_non (je_neg (je_var 4))))) js_nil) (js_cons (js_set (i := 5) sc_mark_value.nd (je_call G_mark_value (hr.mono hk_mark_value) Y.m_mark_value Y.F_mark_value.kp Y.b_mark_value (jc_cons (je_ix (je_var 0) je_int) (jc_own 1 (jc_cons (je_var 2) jc_nil))))) (js_cons (js_if (JW.jt (jw_or (jt_isN (je_var 4)) (jw_or1 (jt_isN (je_var 5))))) (js_one (js_ret je_non)) js_nil) (js_cons (js_if (jt_cmp (do_eq (huD hr)) (je_var 3) je_str) (js_one (js_ret (je_op do_add (je_var 4) (je_var 5)))) js_nil) (js_cons (js_if (jt_cmp (do_eq (huD hr)) (je_var 3) je_str) (js_one (js_ret (je_op do_sub (je_var 4) (je_var 5)))) js_nil) (js_one (js_ret (je_op do_mul (je_var 4) (je_var 5)))))))))))))), rp⟩
theorem ok_mark_truth {n : Nat} {n_mark_value : Nat} {dsp : DSp} {k : Nat} (Y : Fs K mg) (T : Bt K mg) {k_mark_value : Nat} (hk_mark_value : k_mark_value ≤ k) (G_mark_value : FnOk P w K mg base CX0 k_mark_value Y.a_mark_value Y.d_mark_value ["expr", "worth", "folds"] (spOf K (sp_mark_value n_mark_value))) {k_compared : Nat} (hk_compared : k_compared ≤ k) (G_compared : FnOk P w K mg base CX0 k_compared Y.a_compared Y.d_compared ["op", "one", "other"] (spOf K sp_compared)) {k_mark_truth : Nat} (hk_mark_truth : k_mark_truth ≤ k) (G_mark_truth : FnOk P w K mg base CX0 k_mark_truth Y.a_mark_truth Y.d_mark_truth ["cond", "worth", "folds"] (spOf K (sp_mark_truth n))) {k_negated : Nat} (hk_negated : k_negated ≤ k) (G_negated : FnOk P w K mg base CX0 k_negated Y.a_negated Y.d_negated ["t"] (spOf K sp_negated)) {k_perhaps : Nat} (hk_perhaps : k_perhaps ≤ k) (G_perhaps : FnOk P w K mg base CX0 k_perhaps Y.a_perhaps Y.d_perhaps ["t"] (spOf K sp_perhaps)) {k_both : Nat} (hk_both : k_both ≤ k) (G_both : FnOk P w K mg base CX0 k_both Y.a_both Y.d_both ["s", "t"] (spOf K sp_both)) {k_either : Nat} (hk_either : k_either ≤ k) (G_either : FnOk P w K mg base CX0 k_either Y.a_either Y.d_either ["s", "t"] (spOf K sp_either)) (len : ∀ as Q, dsp as Q → as.length = 3)
    (rp : ∀ (as : List SD) (Q : RS → List SD → Prop), dsp as Q → (rd_mark_truth n n_mark_value) { nx := fun δ => Q (.dt .none) (outs as δ), rt := fun d δ => Q d (outs as δ) } (startD 6 as)) :
    FnOk P w K mg base CX0 (k + 1) Y.a_mark_truth Y.d_mark_truth ["cond", "worth", "folds"] (spOf K dsp) :=
  fn_ok Y.F_mark_truth sc_mark_truth len (by decide) fun cdv A outer s H E hr => ⟨_, (rd_mark_truth n n_mark_value),
    (js_cons (js_set (i := 3) sc_mark_truth.nd (je_ix (je_var 0) je_int)) (js_cons (js_if (jt_cmp (do_eq (huD hr)) (je_var 3) je_str) (js_one (js_ret (je_call G_compared (hr.mono hk_compared) Y.m_compared Y.F_compared.kp Y.b_compared (jc_cons (je_ix (je_var 0) je_int) (jc_cons (je_call G_mark_value (hr.mono hk_mark_value) Y.m_mark_value Y.F_mark_value.kp Y.b_mark_value (jc_cons (je_ix (je_var 0) je_int) (jc_own 1 (jc_cons (je_var 2) jc_nil)))) (jc_cons (je_call G_mark_value (hr.mono hk_mark_value) Y.m_mark_value Y.F_mark_value.kp Y.b_mark_value (jc_cons (je_ix (je_var 0) je_int) (jc_own 1 (jc_cons (je_var 2) jc_nil)))) jc_nil)))))) js_nil) (js_cons (js_if (jt_cmp (do_eq (huD hr)) (je_var 3) je_str) (js_one (js_ret (je_isN (je_call G_mark_value (hr.mono hk_mark_value) Y.m_mark_value Y.F_mark_value.kp Y.b_mark_value (jc_cons (je_ix (je_var 0) je_int) (jc_own 1 (jc_cons (je_var 2) jc_nil))))))) js_nil) (js_cons (js_set (i := 4) sc_mark_truth.nd (je_call G_mark_truth (hr.mono hk_mark_truth) Y.m_mark_truth Y.F_mark_truth.kp Y.b_mark_truth (jc_cons (je_ix (je_var 0) je_int) (jc_own 1 (jc_cons (je_var 2) jc_nil))))) (js_cons (js_if (jt_cmp (do_eq (huD hr)) (je_var 3) je_str) (js_one (js_ret (je_call G_negated (hr.mono hk_negated) Y.m_negated Y.F_negated.kp Y.b_negated (jc_cons (je_var 4) jc_nil)))) js_nil) (js_cons (js_if (jt_cmp (do_eq (huD hr)) (je_var 3) je_str) (js_one (js_ret (je_call G_perhaps (hr.mono hk_perhaps) Y.m_perhaps Y.F_perhaps.kp Y.b_perhaps (jc_cons (je_var 4) jc_nil)))) js_nil) (js_cons (js_set (i := 5) sc_mark_truth.nd (je_call G_mark_truth (hr.mono hk_mark_truth) Y.m_mark_truth Y.F_mark_truth.kp Y.b_mark_truth (jc_cons (je_ix (je_var 0) je_int) (jc_own 1 (jc_cons (je_var 2) jc_nil))))) (js_cons (js_if (jt_cmp (do_eq (huD hr)) (je_var 3) je_str) (js_one (js_ret (je_call G_both (hr.mono hk_both) Y.m_both Y.F_both.kp Y.b_both (jc_cons (je_var 4) (jc_cons (je_var 5) jc_nil))))) js_nil) (js_one (js_ret (je_call G_either (hr.mono hk_either) Y.m_either Y.F_either.kp Y.b_either (jc_cons (je_var 4) (jc_cons (je_var 5) jc_nil))))))))))))), rp⟩
theorem ok_law_deck {dsp : DSp} {k : Nat} (Y : Fs K mg) (T : Bt K mg)  (len : ∀ as Q, dsp as Q → as.length = 1)
    (rp : ∀ (as : List SD) (Q : RS → List SD → Prop), dsp as Q → rd_law_deck { nx := fun δ => Q (.dt .none) (outs as δ), rt := fun d δ => Q d (outs as δ) } (startD 6 as)) :
    FnOk P w K mg base CX0 (k + 1) Y.a_law_deck Y.d_law_deck ["_law_script"] (spOf K dsp) :=
  fn_ok Y.F_law_deck sc_law_deck len (by decide) fun cdv A outer s H E hr => ⟨_, rd_law_deck,
    (js_cons (js_own (i := 1) sc_law_deck.nd (jn_lst ja_nil)) (js_cons (js_set (i := 2) sc_law_deck.nd (je_op do_add je_int (je_op do_mul je_int (je_callB cd_len rfl T.b_len PySem.boot_len (ja_cons (je_var 0) ja_nil))))) (js_cons (js_for rfl (ji_list (je_var 0)) (jg_name (i := 3) sc_law_deck.nd) (js_cons (js_set (i := 4) sc_law_deck.nd (je_callB cd_abs rfl T.b_abs (by decide +kernel) (ja_cons (je_callTy cd_int rfl T.b_int (by decide +kernel) (ja_cons (je_var 3) ja_nil)) ja_nil))) (js_cons (js_set (i := 2) sc_law_deck.nd (je_op do_mod (je_callTy cd_int rfl T.b_int (by decide +kernel) (ja_cons (je_op do_add (je_op do_add (je_op do_mul (je_var 2) je_int) (je_op do_mod (je_var 4) je_int)) (je_op do_mul je_int (je_callTy cd_int rfl T.b_int (by decide +kernel) (ja_cons (je_cmp (do_lt (huD hr)) (je_var 3) je_int) ja_nil)))) ja_nil)) je_int)) (js_one (js_if (jt_cmp (do_ge (huD hr)) (je_var 4) (je_op do_pow je_int je_int)) (js_one (js_for rfl (ji_range1 rfl T.b_range (ja_cons je_int ja_nil)) (jg_name (i := 5) sc_law_deck.nd) (js_one (js_if (jt_cmp (do_gt (huD hr)) (je_var 4) je_int) (js_cons (js_app 1 (je_op do_mod (je_callTy cd_int rfl T.b_int (by decide +kernel) (ja_cons (je_var 4) ja_nil)) je_int)) (js_one (js_set (i := 4) sc_law_deck.nd (je_op do_fdiv (je_var 4) je_int)))) js_nil)))) js_nil))))) (js_cons (js_for rfl (ji_range1 rfl T.b_range (ja_cons je_int ja_nil)) (jg_name (i := 5) sc_law_deck.nd) (js_cons (js_set (i := 2) sc_law_deck.nd (je_op do_mod (je_callTy cd_int rfl T.b_int (by decide +kernel) (ja_cons (je_op do_add (je_op do_add (je_op do_mul (je_var 2) je_int) (je_op do_mul je_int (je_var 5))) je_int) ja_nil)) je_int)) (js_one (js_app 1 (je_op do_mod (je_callTy cd_int rfl T.b_int (by decide +kernel) (ja_cons (je_op do_fdiv (je_var 2) je_int) ja_nil)) je_int))))) (js_cons (js_revO 1) (js_one (js_retOwn 1))))))), rp⟩
theorem ok_law_pick {dsp : DSp} {k : Nat} (Y : Fs K mg) (T : Bt K mg)  (len : ∀ as Q, dsp as Q → as.length = 2)
    (rp : ∀ (as : List SD) (Q : RS → List SD → Prop), dsp as Q → rd_law_pick { nx := fun δ => Q (.dt .none) (outs as δ), rt := fun d δ => Q d (outs as δ) } (startD 2 as)) :
    FnOk P w K mg base CX0 (k + 1) Y.a_law_pick Y.d_law_pick ["_law_deck_here", "_law_many"] (spOf K dsp) :=
  fn_ok Y.F_law_pick sc_law_pick len (by decide) fun cdv A outer s H E hr => ⟨_, rd_law_pick,
    (js_cons (js_if (jt_not (jt_truA 0)) (js_one (js_ret je_int)) js_nil) (js_one (js_ret (je_op do_mod (je_callTy cd_int rfl T.b_int (by decide +kernel) (ja_cons (je_pop 0) ja_nil)) (je_var 1))))), rp⟩
theorem ok_law_number {dsp : DSp} {k : Nat} (Y : Fs K mg) (T : Bt K mg) {k_law_pick : Nat} (hk_law_pick : k_law_pick ≤ k) (G_law_pick : FnOk P w K mg base CX0 k_law_pick Y.a_law_pick Y.d_law_pick ["_law_deck_here", "_law_many"] (spOf K sp_law_pick)) (len : ∀ as Q, dsp as Q → as.length = 1)
    (rp : ∀ (as : List SD) (Q : RS → List SD → Prop), dsp as Q → rd_law_number { nx := fun δ => Q (.dt .none) (outs as δ), rt := fun d δ => Q d (outs as δ) } (startD 1 as)) :
    FnOk P w K mg base CX0 (k + 1) Y.a_law_number Y.d_law_number ["_law_deck_here"] (spOf K dsp) :=
  fn_ok Y.F_law_number sc_law_number len (by decide) fun cdv A outer s H E hr => ⟨_, rd_law_number,
    (js_cons (js_if (jt_cmp (do_eq (huD hr)) (je_call G_law_pick (hr.mono hk_law_pick) Y.m_law_pick Y.F_law_pick.kp Y.b_law_pick (jc_any 0 (jc_cons je_int jc_nil))) je_int) (js_one (js_ret (je_op do_sub je_int (je_call G_law_pick (hr.mono hk_law_pick) Y.m_law_pick Y.F_law_pick.kp Y.b_law_pick (jc_any 0 (jc_cons je_int jc_nil)))))) js_nil) (js_one (js_ret (je_call G_law_pick (hr.mono hk_law_pick) Y.m_law_pick Y.F_law_pick.kp Y.b_law_pick (jc_any 0 (jc_cons je_int jc_nil)))))), rp⟩
theorem ok_law_word {dsp : DSp} {k : Nat} (Y : Fs K mg) (T : Bt K mg) {k_law_pick : Nat} (hk_law_pick : k_law_pick ≤ k) (G_law_pick : FnOk P w K mg base CX0 k_law_pick Y.a_law_pick Y.d_law_pick ["_law_deck_here", "_law_many"] (spOf K sp_law_pick)) (len : ∀ as Q, dsp as Q → as.length = 1)
    (rp : ∀ (as : List SD) (Q : RS → List SD → Prop), dsp as Q → rd_law_word { nx := fun δ => Q (.dt .none) (outs as δ), rt := fun d δ => Q d (outs as δ) } (startD 1 as)) :
    FnOk P w K mg base CX0 (k + 1) Y.a_law_word Y.d_law_word ["_law_deck_here"] (spOf K dsp) :=
  fn_ok Y.F_law_word sc_law_word len (by decide) fun cdv A outer s H E hr => ⟨_, rd_law_word,
    (js_one (js_ret (je_ix (je_new (jn_lst (ja_cons je_str (ja_cons je_str (ja_cons je_str (ja_cons je_str (ja_cons je_str ja_nil))))))) (je_call G_law_pick (hr.mono hk_law_pick) Y.m_law_pick Y.F_law_pick.kp Y.b_law_pick (jc_any 0 (jc_cons je_int jc_nil)))))), rp⟩
theorem ok_law_part {dsp : DSp} {k : Nat} (Y : Fs K mg) (T : Bt K mg) {k_law_pick : Nat} (hk_law_pick : k_law_pick ≤ k) (G_law_pick : FnOk P w K mg base CX0 k_law_pick Y.a_law_pick Y.d_law_pick ["_law_deck_here", "_law_many"] (spOf K sp_law_pick)) {k_law_word : Nat} (hk_law_word : k_law_word ≤ k) (G_law_word : FnOk P w K mg base CX0 k_law_word Y.a_law_word Y.d_law_word ["_law_deck_here"] (spOf K sp_law_word)) {k_law_number : Nat} (hk_law_number : k_law_number ≤ k) (G_law_number : FnOk P w K mg base CX0 k_law_number Y.a_law_number Y.d_law_number ["_law_deck_here"] (spOf K sp_law_number)) (len : ∀ as Q, dsp as Q → as.length = 3)
    (rp : ∀ (as : List SD) (Q : RS → List SD → Prop), dsp as Q → rd_law_part { nx := fun δ => Q (.dt .none) (outs as δ), rt := fun d δ => Q d (outs as δ) } (startD 5 as)) :
    FnOk P w K mg base CX0 (k + 1) Y.a_law_part Y.d_law_part ["_law_deck_here", "_law_text", "_law_cols"] (spOf K dsp) :=
  fn_ok Y.F_law_part sc_law_part len (by decide) fun cdv A outer s H E hr => ⟨_, rd_law_part,
    (js_cons (js_if (jt_cmp (do_eq (huD hr)) (je_call G_law_pick (hr.mono hk_law_pick) Y.m_law_pick Y.F_law_pick.kp Y.b_law_pick (jc_own 0 (jc_cons je_int jc_nil))) je_int) (js_cons (js_if (jt_val (je_var 1)) (js_one (js_ret (je_tup (ja_cons je_str (ja_cons (je_call G_law_word (hr.mono hk_law_word) Y.m_law_word Y.F_law_word.kp Y.b_law_word (jc_own 0 jc_nil)) ja_nil))))) js_nil) (js_one (js_ret (je_tup (ja_cons je_str (ja_cons (je_call G_law_number (hr.mono hk_law_number) Y.m_law_number Y.F_law_number.kp Y.b_law_number (jc_own 0 jc_nil)) ja_nil)))))) js_nil) (js_cons (js_set (i := 3) sc_law_part.nd (je_call G_law_pick (hr.mono hk_law_pick) Y.m_law_pick Y.F_law_pick.kp Y.b_law_pick (jc_own 0 (jc_cons je_int jc_nil)))) (js_cons (js_set (i := 4) sc_law_part.nd (je_ifExp (jt_val (je_var 1)) je_int (je_call G_law_pick (hr.mono hk_law_pick) Y.m_law_pick Y.F_law_pick.kp Y.b_law_pick (jc_own 0 (jc_cons je_int jc_nil))))) (js_cons (js_app 2 (je_tup (ja_cons (je_var 3) (ja_cons (je_var 4) ja_nil)))) (js_one (js_ret (je_tup (ja_cons je_str (ja_cons (je_var 3) (ja_cons (je_var 4) ja_nil)))))))))), rp⟩
theorem ok_law_expr {dsp : DSp} {k : Nat} (Y : Fs K mg) (T : Bt K mg) {k_law_part : Nat} (hk_law_part : k_law_part ≤ k) (G_law_part : FnOk P w K mg base CX0 k_law_part Y.a_law_part Y.d_law_part ["_law_deck_here", "_law_text", "_law_cols"] (spOf K sp_law_part)) {k_law_pick : Nat} (hk_law_pick : k_law_pick ≤ k) (G_law_pick : FnOk P w K mg base CX0 k_law_pick Y.a_law_pick Y.d_law_pick ["_law_deck_here", "_law_many"] (spOf K sp_law_pick)) (len : ∀ as Q, dsp as Q → as.length = 3)
    (rp : ∀ (as : List SD) (Q : RS → List SD → Prop), dsp as Q → rd_law_expr { nx := fun δ => Q (.dt .none) (outs as δ), rt := fun d δ => Q d (outs as δ) } (startD 6 as)) :
    FnOk P w K mg base CX0 (k + 1) Y.a_law_expr Y.d_law_expr ["_law_deck_here", "_law_text", "_law_cols"] (spOf K dsp) :=
  fn_ok Y.F_law_expr sc_law_expr len (by decide) fun cdv A outer s H E hr => ⟨_, rd_law_expr,
    (js_cons (js_set (i := 3) sc_law_expr.nd (je_call G_law_part (hr.mono hk_law_part) Y.m_law_part Y.F_law_part.kp Y.b_law_part (jc_own 0 (jc_cons (je_var 1) (jc_own 2 jc_nil))))) (js_cons (js_if (jt_val (je_var 1)) (js_one (js_ret (je_var 3))) js_nil) (js_cons (js_for rfl (ji_range1 rfl T.b_range (ja_cons (je_ix (je_new (jn_lst (ja_cons je_int (ja_cons je_int (ja_cons je_int (ja_cons je_int (ja_cons je_int (ja_cons je_int (ja_cons je_int ja_nil))))))))) (je_call G_law_pick (hr.mono hk_law_pick) Y.m_law_pick Y.F_law_pick.kp Y.b_law_pick (jc_own 0 (jc_cons je_int jc_nil)))) ja_nil)) (jg_name (i := 4) sc_law_expr.nd) (js_cons (js_set (i := 5) sc_law_expr.nd (je_call G_law_pick (hr.mono hk_law_pick) Y.m_law_pick Y.F_law_pick.kp Y.b_law_pick (jc_own 0 (jc_cons je_int jc_nil)))) (js_one (js_if (jt_cmp (do_eq (huD hr)) (je_var 5) je_int) (js_one (js_set (i := 3) sc_law_expr.nd (je_tup (ja_cons je_str (ja_cons (je_var 3) ja_nil))))) (js_one (js_if (jt_cmp (do_eq (huD hr)) (je_var 5) je_int) (js_one (js_set (i := 3) sc_law_expr.nd (je_tup (ja_cons je_str (ja_cons (je_call G_law_part (hr.mono hk_law_part) Y.m_law_part Y.F_law_part.kp Y.b_law_part (jc_own 0 (jc_cons je_bl (jc_own 2 jc_nil)))) (ja_cons (je_var 3) ja_nil)))))) (js_one (js_set (i := 3) sc_law_expr.nd (je_tup (ja_cons (je_ix (je_new (jn_lst (ja_cons je_str (ja_cons je_str (ja_cons je_str ja_nil))))) (je_var 5)) (ja_cons (je_var 3) (ja_cons (je_call G_law_part (hr.mono hk_law_part) Y.m_law_part Y.F_law_part.kp Y.b_law_part (jc_own 0 (jc_cons je_bl (jc_own 2 jc_nil)))) ja_nil)))))))))))) (js_one (js_ret (je_var 3)))))), rp⟩
theorem ok_law_leaf {dsp : DSp} {k : Nat} (Y : Fs K mg) (T : Bt K mg) {k_law_pick : Nat} (hk_law_pick : k_law_pick ≤ k) (G_law_pick : FnOk P w K mg base CX0 k_law_pick Y.a_law_pick Y.d_law_pick ["_law_deck_here", "_law_many"] (spOf K sp_law_pick)) {k_law_expr : Nat} (hk_law_expr : k_law_expr ≤ k) (G_law_expr : FnOk P w K mg base CX0 k_law_expr Y.a_law_expr Y.d_law_expr ["_law_deck_here", "_law_text", "_law_cols"] (spOf K sp_law_expr)) (len : ∀ as Q, dsp as Q → as.length = 1)
    (rp : ∀ (as : List SD) (Q : RS → List SD → Prop), dsp as Q → rd_law_leaf { nx := fun δ => Q (.dt .none) (outs as δ), rt := fun d δ => Q d (outs as δ) } (startD 5 as)) :
    FnOk P w K mg base CX0 (k + 1) Y.a_law_leaf Y.d_law_leaf ["_law_deck_here"] (spOf K dsp) :=
  fn_ok Y.F_law_leaf sc_law_leaf len (by decide) fun cdv A outer s H E hr => ⟨_, rd_law_leaf,
    (js_cons (js_own (i := 1) sc_law_leaf.nd (jn_lst ja_nil)) (js_cons (js_set (i := 2) sc_law_leaf.nd (je_cmp (do_eq (huD hr)) (je_call G_law_pick (hr.mono hk_law_pick) Y.m_law_pick Y.F_law_pick.kp Y.b_law_pick (jc_own 0 (jc_cons je_int jc_nil))) je_int)) (js_cons (js_if (jt_cmp (do_eq (huD hr)) (je_call G_law_pick (hr.mono hk_law_pick) Y.m_law_pick Y.F_law_pick.kp Y.b_law_pick (jc_own 0 (jc_cons je_int jc_nil))) je_int) (js_one (js_ret (je_tup (ja_cons (je_tup (ja_cons je_str (ja_cons (je_call G_law_expr (hr.mono hk_law_expr) Y.m_law_expr Y.F_law_expr.kp Y.b_law_expr (jc_own 0 (jc_cons (je_var 2) (jc_own 1 jc_nil)))) ja_nil))) (ja_cons (je_frz 1) ja_nil))))) js_nil) (js_cons (js_set (i := 3) sc_law_leaf.nd (je_call G_law_expr (hr.mono hk_law_expr) Y.m_law_expr Y.F_law_expr.kp Y.b_law_expr (jc_own 0 (jc_cons (je_var 2) (jc_own 1 jc_nil))))) (js_cons (js_set (i := 4) sc_law_leaf.nd (je_call G_law_expr (hr.mono hk_law_expr) Y.m_law_expr Y.F_law_expr.kp Y.b_law_expr (jc_own 0 (jc_cons (je_var 2) (jc_own 1 jc_nil))))) (js_one (js_ret (je_tup (ja_cons (je_tup (ja_cons je_str (ja_cons (je_ix (je_new (jn_lst (ja_cons je_str (ja_cons je_str (ja_cons je_str (ja_cons je_str (ja_cons je_str (ja_cons je_str ja_nil)))))))) (je_call G_law_pick (hr.mono hk_law_pick) Y.m_law_pick Y.F_law_pick.kp Y.b_law_pick (jc_own 0 (jc_cons je_int jc_nil)))) (ja_cons (je_var 3) (ja_cons (je_var 4) ja_nil))))) (ja_cons (je_frz 1) ja_nil)))))))))), rp⟩
theorem ok_law_joined {dsp : DSp} {k : Nat} (Y : Fs K mg) (T : Bt K mg) {k_law_pick : Nat} (hk_law_pick : k_law_pick ≤ k) (G_law_pick : FnOk P w K mg base CX0 k_law_pick Y.a_law_pick Y.d_law_pick ["_law_deck_here", "_law_many"] (spOf K sp_law_pick)) (len : ∀ as Q, dsp as Q → as.length = 2)
    (rp : ∀ (as : List SD) (Q : RS → List SD → Prop), dsp as Q → rd_law_joined { nx := fun δ => Q (.dt .none) (outs as δ), rt := fun d δ => Q d (outs as δ) } (startD 9 as)) :
    FnOk P w K mg base CX0 (k + 1) Y.a_law_joined Y.d_law_joined ["_law_deck_here", "_law_leaves"] (spOf K dsp) :=
  fn_ok Y.F_law_joined sc_law_joined len (by decide) fun cdv A outer s H E hr => ⟨_, rd_law_joined,
    (js_cons (js_ownLc (i := 8) rfl sc_law_joined.nd (ji_list (je_var 1)) (blkOk_by (N := ["_law_deck_here", "_law_leaves", "_law_trees", "_law_bones", "_law_turn", "_law_k", "_law_way", "_law_word_here", "_law_leaf_here"]) (sc := defScope s_law_joined) (by decide +kernel)) (fun _ _ _ _ _ => pg_name (i := 8) sc_law_joined.nd rfl (Or.inl rfl)) (fun _ _ _ _ _ => by exact (je_ix (je_var 8) je_int)) (n := 2)) (js_cons (js_ownLc (i := 5) rfl sc_law_joined.nd (ji_range1 rfl T.b_range (ja_cons (je_callB cd_len rfl T.b_len PySem.boot_len (ja_cons (je_var 1) ja_nil)) ja_nil)) (blkOk_by (N := ["_law_deck_here", "_law_leaves", "_law_trees", "_law_bones", "_law_turn", "_law_k", "_law_way", "_law_word_here", "_law_leaf_here"]) (sc := defScope s_law_joined) (by decide +kernel)) (fun _ _ _ _ _ => pg_name (i := 5) sc_law_joined.nd rfl (Or.inl rfl)) (fun _ _ _ _ _ => by exact (je_tup (ja_cons je_str (ja_cons (je_var 5) ja_nil)))) (n := 3)) (js_cons (js_for rfl (ji_range1 rfl T.b_range (ja_cons (je_op do_mul je_int (je_callB cd_len rfl T.b_len PySem.boot_len (ja_cons (je_var 1) ja_nil))) ja_nil)) (jg_name (i := 4) sc_law_joined.nd) (js_cons (js_set (i := 5) sc_law_joined.nd (je_call G_law_pick (hr.mono hk_law_pick) Y.m_law_pick Y.F_law_pick.kp Y.b_law_pick (jc_own 0 (jc_cons (je_lenO 2 rfl T.b_len) jc_nil)))) (js_cons (js_set (i := 6) sc_law_joined.nd (je_call G_law_pick (hr.mono hk_law_pick) Y.m_law_pick Y.F_law_pick.kp Y.b_law_pick (jc_own 0 (jc_cons je_int jc_nil)))) (js_one (js_if (jt_cmp (do_lt (huD hr)) (je_var 6) je_int) (js_cons (js_set (i := 7) sc_law_joined.nd (je_ix (je_new (jn_lst (ja_cons je_str (ja_cons je_str ja_nil)))) (je_var 6))) (js_cons (js_setO 2 (je_var 5) (je_tup (ja_cons (je_var 7) (ja_cons (je_ixO 2 (je_var 5)) ja_nil)))) (js_one (js_setO 3 (je_var 5) (je_tup (ja_cons (je_var 7) (ja_cons (je_ixO 3 (je_var 5)) ja_nil))))))) (js_one (js_if (jt_cmp (do_gt (huD hr)) (je_lenO 2 rfl T.b_len) je_int) (js_cons (js_set (i := 5) sc_law_joined.nd (je_callB (cd_min2 rfl) rfl T.b_min (by decide +kernel) (ja_cons (je_var 5) (ja_cons (je_op do_sub (je_lenO 2 rfl T.b_len) je_int) ja_nil)))) (js_cons (js_set (i := 7) sc_law_joined.nd (je_ix (je_new (jn_lst (ja_cons je_str (ja_cons je_str ja_nil)))) (je_op do_sub (je_var 6) je_int))) (js_cons (js_setO 2 (je_var 5) (je_tup (ja_cons (je_var 7) (ja_cons (je_ixO 2 (je_var 5)) (ja_cons (je_ixO 2 (je_op do_add (je_var 5) je_int)) ja_nil))))) (js_cons (js_setO 3 (je_var 5) (je_tup (ja_cons (je_var 7) (ja_cons (je_ixO 3 (je_var 5)) (ja_cons (je_ixO 3 (je_op do_add (je_var 5) je_int)) ja_nil))))) (js_cons (js_own (i := 2) sc_law_joined.nd (jn_add (je_new (jn_sliceO 2 jo_none (jo_some (je_op do_add (je_var 5) je_int)))) (je_new (jn_sliceO 2 (jo_some (je_op do_add (je_var 5) je_int)) jo_none)))) (js_one (js_own (i := 3) sc_law_joined.nd (jn_add (je_new (jn_sliceO 3 jo_none (jo_some (je_op do_add (je_var 5) je_int)))) (je_new (jn_sliceO 3 (jo_some (je_op do_add (je_var 5) je_int)) jo_none)))))))))) js_nil))))))) (js_cons (js_while (jt_cmp (do_gt (huD hr)) (je_lenO 2 rfl T.b_len) je_int) (js_cons (js_own (i := 2) sc_law_joined.nd (jn_add (je_new (jn_lst (ja_cons (je_tup (ja_cons je_str (ja_cons (je_ixO 2 je_int) (ja_cons (je_ixO 2 je_int) ja_nil)))) ja_nil))) (je_new (jn_sliceO 2 (jo_some je_int) jo_none)))) (js_one (js_own (i := 3) sc_law_joined.nd (jn_add (je_new (jn_lst (ja_cons (je_tup (ja_cons je_str (ja_cons (je_ixO 3 je_int) (ja_cons (je_ixO 3 je_int) ja_nil)))) ja_nil))) (je_new (jn_sliceO 3 (jo_some je_int) jo_none))))))) (js_one (js_ret (je_tup (ja_cons (je_ixO 2 je_int) (ja_cons (je_ixO 3 je_int) ja_nil))))))))), rp⟩
theorem ok_law_level {n : Nat} {dsp : DSp} {k : Nat} (Y : Fs K mg) (T : Bt K mg) {k_law_level : Nat} (hk_law_level : k_law_level ≤ k) (G_law_level : FnOk P w K mg base CX0 k_law_level Y.a_law_level Y.d_law_level ["_law_bone", "_law_levels"] (spOf K (sp_law_level n))) (len : ∀ as Q, dsp as Q → as.length = 2)
    (rp : ∀ (as : List SD) (Q : RS → List SD → Prop), dsp as Q → (rd_law_level n) { nx := fun δ => Q (.dt .none) (outs as δ), rt := fun d δ => Q d (outs as δ) } (startD 4 as)) :
    FnOk P w K mg base CX0 (k + 1) Y.a_law_level Y.d_law_level ["_law_bone", "_law_levels"] (spOf K dsp) :=
  fn_ok Y.F_law_level sc_law_level len (by decide) fun cdv A outer s H E hr => ⟨_, (rd_law_level n),
    (js_cons (js_if (jt_cmp (do_eq (huD hr)) (je_ix (je_var 0) je_int) je_str) (js_one (js_ret (je_ix (je_var 1) (je_ix (je_var 0) je_int)))) js_nil) (js_cons (js_set (i := 2) sc_law_level.nd (je_call G_law_level (hr.mono hk_law_level) Y.m_law_level Y.F_law_level.kp Y.b_law_level (jc_cons (je_ix (je_var 0) je_int) (jc_cons (je_var 1) jc_nil)))) (js_cons (js_if (jt_cmp (do_eq (huD hr)) (je_ix (je_var 0) je_int) je_str) (js_one (js_ret (je_op do_sub je_int (je_var 2)))) js_nil) (js_cons (js_if (jt_cmp (do_eq (huD hr)) (je_ix (je_var 0) je_int) je_str) (js_one (js_ret (je_op do_mul je_int (je_callTy cd_int rfl T.b_int (by decide +kernel) (ja_cons (je_cmp (do_gt (huD hr)) (je_var 2) je_int) ja_nil))))) js_nil) (js_cons (js_set (i := 3) sc_law_level.nd (je_call G_law_level (hr.mono hk_law_level) Y.m_law_level Y.F_law_level.kp Y.b_law_level (jc_cons (je_ix (je_var 0) je_int) (jc_cons (je_var 1) jc_nil)))) (js_one (js_ret (je_ifExp (jt_cmp (do_eq (huD hr)) (je_ix (je_var 0) je_int) je_str) (je_callB (cd_min2 rfl) rfl T.b_min (by decide +kernel) (ja_cons (je_var 2) (ja_cons (je_var 3) ja_nil))) (je_callB (cd_max2 rfl) rfl T.b_max (by decide +kernel) (ja_cons (je_var 2) (ja_cons (je_var 3) ja_nil))))))))))), rp⟩
theorem ok_law_told {n_law_level : Nat} {dsp : DSp} {k : Nat} (Y : Fs K mg) (T : Bt K mg) {k_law_level : Nat} (hk_law_level : k_law_level ≤ k) (G_law_level : FnOk P w K mg base CX0 k_law_level Y.a_law_level Y.d_law_level ["_law_bone", "_law_levels"] (spOf K (sp_law_level n_law_level))) (len : ∀ as Q, dsp as Q → as.length = 3)
    (rp : ∀ (as : List SD) (Q : RS → List SD → Prop), dsp as Q → (rd_law_told n_law_level) { nx := fun δ => Q (.dt .none) (outs as δ), rt := fun d δ => Q d (outs as δ) } (startD 13 as)) :
    FnOk P w K mg base CX0 (k + 1) Y.a_law_told Y.d_law_told ["_law_leaves", "_law_bone", "_law_which"] (spOf K dsp) :=
  fn_ok Y.F_law_told sc_law_told len (by decide) fun cdv A outer s H E hr => ⟨_, (rd_law_told n_law_level),
    (js_cons (js_own (i := 3) sc_law_told.nd (jn_lst ja_nil)) (js_cons (js_for rfl (ji_list (je_var 0)) (jg_name (i := 4) sc_law_told.nd) (js_cons (js_set (i := 5) sc_law_told.nd (je_cmp (do_gt (huD hr)) (je_callB cd_len rfl T.b_len PySem.boot_len (ja_cons (je_new (jn_lcIf (i := 12) rfl sc_law_told.nd (ji_list (je_ix (je_var 4) je_int)) (blkOk_by (N := ["_law_leaves", "_law_bone", "_law_which", "_law_ways", "_law_leaf_here", "_law_hit", "_law_total", "_law_way", "_law_seen", "_law_code", "_law_rest", "_law_levels", "_law_col"]) (sc := defScope s_law_told) (by decide +kernel)) (fun _ _ _ _ _ => pg_name (i := 12) sc_law_told.nd rfl (Or.inl rfl)) (fun _ _ _ _ _ => by exact (jt_cmp (do_eq (huD hr)) (je_ix (je_var 12) je_int) (je_var 2))) (fun _ _ _ _ _ => by exact (je_var 12)))) ja_nil)) je_int)) (js_one (js_if (jt_cmp (do_eq (huD hr)) (je_ix (je_ix (je_var 4) je_int) je_int) je_str) (js_one (js_app 3 (je_ifExp (jt_val (je_var 5)) (je_new (jn_lst (ja_cons je_int ja_nil))) (je_new (jn_lst (ja_cons je_int (ja_cons je_int ja_nil))))))) (js_one (js_app 3 (je_ifExp (jt_val (je_var 5)) (je_new (jn_lst (ja_cons je_int ja_nil))) (je_new (jn_lst (ja_cons je_int (ja_cons je_int (ja_cons je_int ja_nil)))))))))))) (js_frz 3 (js_cons (js_set (i := 6) sc_law_told.nd je_int) (js_cons (js_for rfl (ji_list (je_var 3)) (jg_name (i := 7) sc_law_told.nd) (js_one (js_set (i := 6) sc_law_told.nd (je_op do_mul (je_var 6) (je_callB cd_len rfl T.b_len PySem.boot_len (ja_cons (je_var 7) ja_nil)))))) (js_cons (js_own (i := 8) sc_law_told.nd (jn_lst (ja_cons je_bl (ja_cons je_bl (ja_cons je_bl ja_nil))))) (js_cons (js_for rfl (ji_range1 rfl T.b_range (ja_cons (je_var 6) ja_nil)) (jg_name (i := 9) sc_law_told.nd) (js_cons (js_set (i := 10) sc_law_told.nd (je_var 9)) (js_cons (js_own (i := 11) sc_law_told.nd (jn_lst ja_nil)) (js_cons (js_for rfl (ji_list (je_var 3)) (jg_name (i := 7) sc_law_told.nd) (js_cons (js_app 11 (je_ix (je_var 7) (je_op do_mod (je_var 10) (je_callB cd_len rfl T.b_len PySem.boot_len (ja_cons (je_var 7) ja_nil))))) (js_one (js_set (i := 10) sc_law_told.nd (je_op do_fdiv (je_var 10) (je_callB cd_len rfl T.b_len PySem.boot_len (ja_cons (je_var 7) ja_nil))))))) (js_one (js_setO 8 (je_call G_law_level (hr.mono hk_law_level) Y.m_law_level Y.F_law_level.kp Y.b_law_level (jc_cons (je_var 1) (jc_cons (je_frz 11) jc_nil))) je_bl)))))) (js_one (js_ret (je_new (jn_lst (ja_cons (je_ixO 8 je_int) (ja_cons (je_ixO 8 je_int) (ja_cons (je_ixO 8 je_int) ja_nil)))))))))))))), rp⟩
theorem ok_law_value {n : Nat} {dsp : DSp} {k : Nat} (Y : Fs K mg) (T : Bt K mg) {k_law_value : Nat} (hk_law_value : k_law_value ≤ k) (G_law_value : FnOk P w K mg base CX0 k_law_value Y.a_law_value Y.d_law_value ["_law_term", "_law_cells"] (spOf K (sp_law_value n))) (len : ∀ as Q, dsp as Q → as.length = 2)
    (rp : ∀ (as : List SD) (Q : RS → List SD → Prop), dsp as Q → (rd_law_value n) { nx := fun δ => Q (.dt .none) (outs as δ), rt := fun d δ => Q d (outs as δ) } (startD 4 as)) :
    FnOk P w K mg base CX0 (k + 1) Y.a_law_value Y.d_law_value ["_law_term", "_law_cells"] (spOf K dsp) :=
  fn_ok Y.F_law_value sc_law_value len (by decide) fun cdv A outer s H E hr => ⟨_, (rd_law_value n),
    (js_cons (js_if (JW.jt (jw_or (jt_cmp (do_eq (huD hr)) (je_ix (je_var 0) je_int) je_str) (jw_or1 (jt_cmp (do_eq (huD hr)) (je_ix (je_var 0) je_int) je_str)))) (js_one (js_ret (je_ix (je_var 0) je_int))) js_nil) (js_cons (js_if (jt_cmp (do_eq (huD hr)) (je_ix (je_var 0) je_int) je_str) (js_one (js_ret (je_look (huD hr) 1 (je_tup (ja_cons (je_ix (je_var 0) je_int) (ja_cons (je_ix (je_var 0) je_int) ja_nil)))))) js_nil) (js_cons (js_set (i := 2) sc_law_value.nd (je_call G_law_value (hr.mono hk_law_value) Y.m_law_value Y.F_law_value.kp Y.b_law_value (jc_cons (je_ix (je_var 0) je_int) (jc_own 1 jc_nil)))) (js_cons (js_set (i := 3) sc_law_value.nd (je_ifExp (jt_cmp (do_eq (huD hr)) (je_ix (je_var 0) je_int) je_str) je_int (je_call G_law_value (hr.mono hk_law_value) Y.m_law_value Y.F_law_value.kp Y.b_law_value (jc_cons (je_ix (je_var 0) je_int) (jc_own 1 jc_nil))))) (js_cons (js_if (JW.jt (jw_or (jt_isN (je_var 2)) (jw_or1 (jt_isN (je_var 3))))) (js_one (js_ret je_non)) js_nil) (js_cons (js_if (JW.jt (jw_or (jt_cmp (do_eq (huD hr)) (je_ix (je_var 0) je_int) je_str) (jw_or1 (jt_cmp (do_eq (huD hr)) (je_ix (je_var 0) je_int) je_str)))) (js_one (js_ret (je_ifExp (jt_cmp (do_eq (huD hr)) (je_ix (je_var 0) je_int) je_str) (je_op do_sub (je_var 2) (je_var 3)) (je_op do_sub je_int (je_var 2))))) js_nil) (js_one (js_ret (je_ifExp (jt_cmp (do_eq (huD hr)) (je_ix (je_var 0) je_int) je_str) (je_op do_add (je_var 2) (je_var 3)) (je_op do_mul (je_var 2) (je_var 3))))))))))), rp⟩
theorem ok_law_leaf_level {n_law_value : Nat} {dsp : DSp} {k : Nat} (Y : Fs K mg) (T : Bt K mg) {k_law_value : Nat} (hk_law_value : k_law_value ≤ k) (G_law_value : FnOk P w K mg base CX0 k_law_value Y.a_law_value Y.d_law_value ["_law_term", "_law_cells"] (spOf K (sp_law_value n_law_value))) (len : ∀ as Q, dsp as Q → as.length = 2)
    (rp : ∀ (as : List SD) (Q : RS → List SD → Prop), dsp as Q → (rd_law_leaf_level n_law_value) { nx := fun δ => Q (.dt .none) (outs as δ), rt := fun d δ => Q d (outs as δ) } (startD 5 as)) :
    FnOk P w K mg base CX0 (k + 1) Y.a_law_leaf_level Y.d_law_leaf_level ["_law_leaf_here", "_law_cells"] (spOf K dsp) :=
  fn_ok Y.F_law_leaf_level sc_law_leaf_level len (by decide) fun cdv A outer s H E hr => ⟨_, (rd_law_leaf_level n_law_value),
    (js_cons (js_if (jt_cmp (do_eq (huD hr)) (je_ix (je_var 0) je_int) je_str) (js_one (js_ret (je_op do_mul je_int (je_callTy cd_int rfl T.b_int (by decide +kernel) (ja_cons (je_isN (je_call G_law_value (hr.mono hk_law_value) Y.m_law_value Y.F_law_value.kp Y.b_law_value (jc_cons (je_ix (je_var 0) je_int) (jc_own 1 jc_nil)))) ja_nil))))) js_nil) (js_cons (js_set (i := 2) sc_law_leaf_level.nd (je_call G_law_value (hr.mono hk_law_value) Y.m_law_value Y.F_law_value.kp Y.b_law_value (jc_cons (je_ix (je_var 0) je_int) (jc_own 1 jc_nil)))) (js_cons (js_set (i := 3) sc_law_leaf_level.nd (je_call G_law_value (hr.mono hk_law_value) Y.m_law_value Y.F_law_value.kp Y.b_law_value (jc_cons (je_ix (je_var 0) je_int) (jc_own 1 jc_nil)))) (js_cons (js_if (JW.jt (jw_or (jt_isN (je_var 2)) (jw_or1 (jt_isN (je_var 3))))) (js_one (js_ret je_int)) js_nil) (js_cons (js_dispK (i := 4) sc_law_leaf_level.nd (jp_cons (je_cmp (do_eq (huD hr)) (je_var 2) (je_var 3)) (jp_cons (je_cmp (do_ne (huD hr)) (je_var 2) (je_var 3)) (jp_cons (je_cmp (do_lt (huD hr)) (je_var 2) (je_var 3)) (jp_cons (je_cmp (do_gt (huD hr)) (je_var 2) (je_var 3)) (jp_cons (je_not (je_cmp (do_gt (huD hr)) (je_var 2) (je_var 3))) (jp_cons (je_not (je_cmp (do_lt (huD hr)) (je_var 2) (je_var 3))) jp_nil))))))) (js_one (js_ret (je_op do_mul je_int (je_callTy cd_int rfl T.b_int (by decide +kernel) (ja_cons (je_look (huD hr) 4 (je_ix (je_var 0) je_int)) ja_nil)))))))))), rp⟩
theorem ok_law_marked {n : Nat} {dsp : DSp} {k : Nat} (Y : Fs K mg) (T : Bt K mg) {k_law_marked : Nat} (hk_law_marked : k_law_marked ≤ k) (G_law_marked : FnOk P w K mg base CX0 k_law_marked Y.a_law_marked Y.d_law_marked ["_law_thing"] (spOf K (sp_law_marked n))) (len : ∀ as Q, dsp as Q → as.length = 1)
    (rp : ∀ (as : List SD) (Q : RS → List SD → Prop), dsp as Q → (rd_law_marked n) { nx := fun δ => Q (.dt .none) (outs as δ), rt := fun d δ => Q d (outs as δ) } (startD 1 as)) :
    FnOk P w K mg base CX0 (k + 1) Y.a_law_marked Y.d_law_marked ["_law_thing"] (spOf K dsp) :=
  fn_ok Y.F_law_marked sc_law_marked len (by decide) fun cdv A outer s H E hr => ⟨_, (rd_law_marked n),
    (js_cons (js_if (jt_cmp (do_eq (huD hr)) (je_ix (je_var 0) je_int) je_str) (js_one (js_ret (je_ifExp (jt_cmp (do_eq (huD hr)) (je_ix (je_var 0) je_int) je_int) (je_tup (ja_cons je_str (ja_cons (je_ix (je_var 0) je_int) ja_nil))) (je_tup (ja_cons je_str (ja_cons (je_op do_add (je_op do_mul je_int (je_ix (je_var 0) je_int)) (je_op do_mul je_int (je_ix (je_var 0) je_int))) ja_nil)))))) js_nil) (js_cons (js_if (jt_cmp (do_eq (huD hr)) (je_ix (je_var 0) je_int) je_str) (js_one (js_ret (je_tup (ja_cons je_str (ja_cons (je_ix (je_var 0) je_int) (ja_cons (je_call G_law_marked (hr.mono hk_law_marked) Y.m_law_marked Y.F_law_marked.kp Y.b_law_marked (jc_cons (je_ix (je_var 0) je_int) jc_nil)) (ja_cons (je_call G_law_marked (hr.mono hk_law_marked) Y.m_law_marked Y.F_law_marked.kp Y.b_law_marked (jc_cons (je_ix (je_var 0) je_int) jc_nil)) ja_nil))))))) js_nil) (js_cons (js_if (JW.jt (jw_or (jt_cmp (do_eq (huD hr)) (je_ix (je_var 0) je_int) je_str) (jw_or1 (jt_cmp (do_eq (huD hr)) (je_ix (je_var 0) je_int) je_str)))) (js_one (js_ret (je_var 0))) js_nil) (js_cons (js_if (jt_cmp (do_eq (huD hr)) (je_callB cd_len rfl T.b_len PySem.boot_len (ja_cons (je_var 0) ja_nil)) je_int) (js_one (js_ret (je_tup (ja_cons (je_ix (je_var 0) je_int) (ja_cons (je_call G_law_marked (hr.mono hk_law_marked) Y.m_law_marked Y.F_law_marked.kp Y.b_law_marked (jc_cons (je_ix (je_var 0) je_int) jc_nil)) ja_nil))))) js_nil) (js_one (js_ret (je_tup (ja_cons (je_ix (je_var 0) je_int) (ja_cons (je_call G_law_marked (hr.mono hk_law_marked) Y.m_law_marked Y.F_law_marked.kp Y.b_law_marked (jc_cons (je_ix (je_var 0) je_int) jc_nil)) (ja_cons (je_call G_law_marked (hr.mono hk_law_marked) Y.m_law_marked Y.F_law_marked.kp Y.b_law_marked (jc_cons (je_ix (je_var 0) je_int) jc_nil)) ja_nil)))))))))), rp⟩
theorem ok_law_same {dsp : DSp} {k : Nat} (Y : Fs K mg) (T : Bt K mg)  (len : ∀ as Q, dsp as Q → as.length = 2)
    (rp : ∀ (as : List SD) (Q : RS → List SD → Prop), dsp as Q → rd_law_same { nx := fun δ => Q (.dt .none) (outs as δ), rt := fun d δ => Q d (outs as δ) } (startD 2 as)) :
    FnOk P w K mg base CX0 (k + 1) Y.a_law_same Y.d_law_same ["_law_actual", "_law_due"] (spOf K dsp) :=
  fn_ok Y.F_law_same sc_law_same len (by decide) fun cdv A outer s H E hr => ⟨_, rd_law_same,
    (js_cons (js_if (jt_isN (je_var 1)) (js_one (js_ret (je_isN (je_var 0)))) js_nil) (js_cons (js_if (jt_val (je_isi tok_str rfl T.b_isinstance rfl T.b_str (by decide +kernel) (je_var 1))) (js_one (js_ret (je_and (je_isi tok_str rfl T.b_isinstance rfl T.b_str (by decide +kernel) (je_var 0)) (je_one (je_cmp (do_eq (huD hr)) (je_var 0) (je_var 1)))))) js_nil) (js_one (js_ret (je_and (je_isi tok_int rfl T.b_isinstance rfl T.b_int (by decide +kernel) (je_var 0)) (je_and (je_not (je_isi tok_bool rfl T.b_isinstance rfl T.b_bool (by decide +kernel) (je_var 0))) (je_one (je_cmp (do_eq (huD hr)) (je_var 0) (je_var 1))))))))), rp⟩
theorem ok_law_truth_same {dsp : DSp} {k : Nat} (Y : Fs K mg) (T : Bt K mg)  (len : ∀ as Q, dsp as Q → as.length = 2)
    (rp : ∀ (as : List SD) (Q : RS → List SD → Prop), dsp as Q → rd_law_truth_same { nx := fun δ => Q (.dt .none) (outs as δ), rt := fun d δ => Q d (outs as δ) } (startD 2 as)) :
    FnOk P w K mg base CX0 (k + 1) Y.a_law_truth_same Y.d_law_truth_same ["_law_actual", "_law_due"] (spOf K dsp) :=
  fn_ok Y.F_law_truth_same sc_law_truth_same len (by decide) fun cdv A outer s H E hr => ⟨_, rd_law_truth_same,
    (js_cons (js_if (jt_isN (je_var 1)) (js_one (js_ret (je_isN (je_var 0)))) js_nil) (js_cons (js_if (jt_val (je_var 1)) (js_one (js_ret (je_isB (je_var 0)))) js_nil) (js_one (js_ret (je_isB (je_var 0)))))), rp⟩
theorem ok_law_values {dsp : DSp} {k : Nat} (Y : Fs K mg) (T : Bt K mg) {k_law_word : Nat} (hk_law_word : k_law_word ≤ k) (G_law_word : FnOk P w K mg base CX0 k_law_word Y.a_law_word Y.d_law_word ["_law_deck_here"] (spOf K sp_law_word)) {k_law_number : Nat} (hk_law_number : k_law_number ≤ k) (G_law_number : FnOk P w K mg base CX0 k_law_number Y.a_law_number Y.d_law_number ["_law_deck_here"] (spOf K sp_law_number)) {k_law_pick : Nat} (hk_law_pick : k_law_pick ≤ k) (G_law_pick : FnOk P w K mg base CX0 k_law_pick Y.a_law_pick Y.d_law_pick ["_law_deck_here", "_law_many"] (spOf K sp_law_pick)) (len : ∀ as Q, dsp as Q → as.length = 2)
    (rp : ∀ (as : List SD) (Q : RS → List SD → Prop), dsp as Q → rd_law_values { nx := fun δ => Q (.dt .none) (outs as δ), rt := fun d δ => Q d (outs as δ) } (startD 6 as)) :
    FnOk P w K mg base CX0 (k + 1) Y.a_law_values Y.d_law_values ["_law_deck_here", "_law_which"] (spOf K dsp) :=
  fn_ok Y.F_law_values sc_law_values len (by decide) fun cdv A outer s H E hr => ⟨_, rd_law_values,
    (js_cons (js_dictT (i := 2) sc_law_values.nd) (js_cons (js_for rfl (ji_range1 rfl T.b_range (ja_cons je_int ja_nil)) (jg_name (i := 3) sc_law_values.nd) (js_one (js_for rfl (ji_range1 rfl T.b_range (ja_cons je_int ja_nil)) (jg_name (i := 4) sc_law_values.nd) (js_cons (js_set (i := 5) sc_law_values.nd (je_ifExp (jt_cmp (do_eq (huD hr)) (je_var 4) je_int) (je_call G_law_word (hr.mono hk_law_word) Y.m_law_word Y.F_law_word.kp Y.b_law_word (jc_any 0 jc_nil)) (je_call G_law_number (hr.mono hk_law_number) Y.m_law_number Y.F_law_number.kp Y.b_law_number (jc_any 0 jc_nil)))) (js_cons (js_if (JW.jt (jw_or (jt_cmp (do_eq (huD hr)) (je_var 3) (je_var 1)) (jw_or1 (jt_cmp (do_eq (huD hr)) (je_call G_law_pick (hr.mono hk_law_pick) Y.m_law_pick Y.F_law_pick.kp Y.b_law_pick (jc_any 0 (jc_cons je_int jc_nil))) je_int)))) (js_one (js_set (i := 5) sc_law_values.nd je_non)) (js_one (js_if (JW.jt (jw_and (jt_cmp (do_lt (huD hr)) (je_var 4) je_int) (jw_and1 (jt_cmp (do_eq (huD hr)) (je_call G_law_pick (hr.mono hk_law_pick) Y.m_law_pick Y.F_law_pick.kp Y.b_law_pick (jc_any 0 (jc_cons je_int jc_nil))) je_int)))) (js_one (js_set (i := 5) sc_law_values.nd (je_op do_sub je_int (je_var 5)))) js_nil))) (js_one (js_dputT (huD hr) 2 (ja_cons (je_var 3) (ja_cons (je_var 4) ja_nil)) (je_var 5)))))))) (js_one (js_retObj 2)))), rp⟩
theorem ok_law_at_values {n_law_level : Nat} {n_law_marked : Nat} {n_mark_truth : Nat} {n_law_value : Nat} {n_mark_value : Nat} {dsp : DSp} {k : Nat} (Y : Fs K mg) (T : Bt K mg) {k_law_leaf_level : Nat} (hk_law_leaf_level : k_law_leaf_level ≤ k) (G_law_leaf_level : FnOk P w K mg base CX0 k_law_leaf_level Y.a_law_leaf_level Y.d_law_leaf_level ["_law_leaf_here", "_law_cells"] (spOf K sp_law_leaf_level)) {k_law_level : Nat} (hk_law_level : k_law_level ≤ k) (G_law_level : FnOk P w K mg base CX0 k_law_level Y.a_law_level Y.d_law_level ["_law_bone", "_law_levels"] (spOf K (sp_law_level n_law_level))) {k_law_marked : Nat} (hk_law_marked : k_law_marked ≤ k) (G_law_marked : FnOk P w K mg base CX0 k_law_marked Y.a_law_marked Y.d_law_marked ["_law_thing"] (spOf K (sp_law_marked n_law_marked))) {k_mark_truth : Nat} (hk_mark_truth : k_mark_truth ≤ k) (G_mark_truth : FnOk P w K mg base CX0 k_mark_truth Y.a_mark_truth Y.d_mark_truth ["cond", "worth", "folds"] (spOf K (sp_mark_truth n_mark_truth))) {k_law_truth_same : Nat} (hk_law_truth_same : k_law_truth_same ≤ k) (G_law_truth_same : FnOk P w K mg base CX0 k_law_truth_same Y.a_law_truth_same Y.d_law_truth_same ["_law_actual", "_law_due"] (spOf K sp_law_truth_same)) {k_law_value : Nat} (hk_law_value : k_law_value ≤ k) (G_law_value : FnOk P w K mg base CX0 k_law_value Y.a_law_value Y.d_law_value ["_law_term", "_law_cells"] (spOf K (sp_law_value n_law_value))) {k_mark_value : Nat} (hk_mark_value : k_mark_value ≤ k) (G_mark_value : FnOk P w K mg base CX0 k_mark_value Y.a_mark_value Y.d_mark_value ["expr", "worth", "folds"] (spOf K (sp_mark_value n_mark_value))) {k_law_same : Nat} (hk_law_same : k_law_same ≤ k) (G_law_same : FnOk P w K mg base CX0 k_law_same Y.a_law_same Y.d_law_same ["_law_actual", "_law_due"] (spOf K sp_law_same)) (len : ∀ as Q, dsp as Q → as.length = 5)
    (rp : ∀ (as : List SD) (Q : RS → List SD → Prop), dsp as Q → (rd_law_at_values n_law_level n_law_marked n_mark_truth n_law_value n_mark_value) { nx := fun δ => Q (.dt .none) (outs as δ), rt := fun d δ => Q d (outs as δ) } (startD 15 as)) :
    FnOk P w K mg base CX0 (k + 1) Y.a_law_at_values Y.d_law_at_values ["_law_test", "_law_bone", "_law_leaves", "_law_cells", "_law_told_here"] (spOf K dsp) :=
  fn_ok Y.F_law_at_values sc_law_at_values len (by decide) fun cdv A outer s H E hr => ⟨_, (rd_law_at_values n_law_level n_law_marked n_mark_truth n_law_value n_mark_value),
    (js_cons (js_setLc (i := 11) rfl sc_law_at_values.nd (ji_list (je_var 2)) (blkOk_by (N := ["_law_test", "_law_bone", "_law_leaves", "_law_cells", "_law_told_here", "_law_levels", "_law_due", "_law_marks", "_law_key", "_law_kept", "_law_sums", "_law_leaf_here", "_law_exprs", "_law_term", "_law_m"]) (sc := defScope s_law_at_values) (by decide +kernel)) (fun _ _ _ _ _ => pg_name (i := 11) sc_law_at_values.nd rfl (Or.inl rfl)) (fun _ _ _ _ _ => by exact (je_call G_law_leaf_level (hr.mono hk_law_leaf_level) Y.m_law_leaf_level Y.F_law_leaf_level.kp Y.b_law_leaf_level (jc_cons (je_ix (je_var 11) je_int) (jc_own 3 jc_nil)))) (n := 5)) (js_cons (js_set (i := 6) sc_law_at_values.nd (je_call G_law_level (hr.mono hk_law_level) Y.m_law_level Y.F_law_level.kp Y.b_law_level (jc_cons (je_var 1) (jc_cons (je_var 5) jc_nil)))) (js_cons (js_if (JW.jt (jw_and (jt_notN (je_var 4)) (jw_and1 (jt_notB (je_ix (je_var 4) (je_ix (je_new (jn_lst (ja_cons je_int (ja_cons je_int (ja_cons je_int ja_nil))))) (je_var 6))))))) (js_one (js_ret je_bl)) js_nil) (js_cons (js_dictK (i := 7) sc_law_at_values.nd) (js_cons (js_forT rfl 3 (jg_name (i := 8) sc_law_at_values.nd) (js_one (js_if (jt_cmp (do_lt (huD hr)) (je_ix (je_var 8) je_int) je_int) (js_one (js_dputK (huD hr) 7 (je_op do_add (je_op do_mul je_int (je_ix (je_var 8) je_int)) (je_op do_mul je_int (je_ix (je_var 8) je_int))) (je_look (huD hr) 3 (je_var 8)))) js_nil))) (js_cons (js_setLcK rfl sc_law_at_values.nd 7 14 (blkOk_by (N := ["_law_test", "_law_bone", "_law_leaves", "_law_cells", "_law_told_here", "_law_levels", "_law_due", "_law_marks", "_law_key", "_law_kept", "_law_sums", "_law_leaf_here", "_law_exprs", "_law_term", "_law_m"]) (sc := defScope s_law_at_values) (by decide +kernel)) (fun _ _ _ _ _ => pg_name (i := 14) sc_law_at_values.nd rfl (Or.inl rfl)) (fun _ _ _ _ _ => by exact (je_tup (ja_cons (je_var 14) (ja_cons (je_look (huD hr) 7 (je_var 14)) ja_nil)))) (n := 9)) (js_cons (js_set (i := 10) sc_law_at_values.nd (je_tup (ja_cons (je_look (huD hr) 3 (je_tup (ja_cons je_int (ja_cons je_int ja_nil)))) (ja_cons (je_look (huD hr) 3 (je_tup (ja_cons je_int (ja_cons je_int ja_nil)))) (ja_cons (je_look (huD hr) 3 (je_tup (ja_cons je_int (ja_cons je_int ja_nil)))) ja_nil))))) (js_cons (js_if (jt_not (jt_val (je_call G_law_truth_same (hr.mono hk_law_truth_same) Y.m_law_truth_same Y.F_law_truth_same.kp Y.b_law_truth_same (jc_cons (je_callKw G_mark_truth (hr.mono hk_mark_truth) Y.m_mark_truth Y.F_mark_truth.kp (Fun_kb (ks := ["cond", "worth", "folds"]) (ix := [0, 1, 2]) Y.F_mark_truth (by decide) fun _ _ _ _ _ _ ws hl => match ws, hl with | [_, _, _], _ => rfl) (jk_cons (je_call G_law_marked (hr.mono hk_law_marked) Y.m_law_marked Y.F_law_marked.kp Y.b_law_marked (jc_cons (je_var 0) jc_nil)) (jk_own 7 (jk_cons (je_var 10) jk_nil)))) (jc_cons (je_ix (je_new (jn_lst (ja_cons je_bl (ja_cons je_non (ja_cons je_bl ja_nil))))) (je_var 6)) jc_nil))))) (js_one (js_ret je_bl)) js_nil) (js_cons (js_for rfl (ji_list (je_var 2)) (jg_name (i := 11) sc_law_at_values.nd) (js_cons (js_set (i := 12) sc_law_at_values.nd (je_ifExp (jt_cmp (do_eq (huD hr)) (je_ix (je_ix (je_var 11) je_int) je_int) je_str) (je_new (jn_callTy cn_list rfl T.b_list (by decide +kernel) (ja_cons (je_slice (je_ix (je_var 11) je_int) (jo_some je_int) jo_none) ja_nil))) (je_new (jn_callTy cn_list rfl T.b_list (by decide +kernel) (ja_cons (je_slice (je_ix (je_var 11) je_int) (jo_some je_int) jo_none) ja_nil))))) (js_one (js_for rfl (ji_list (je_var 12)) (jg_name (i := 13) sc_law_at_values.nd) (js_one (js_if (jt_not (jt_val (je_call G_law_same (hr.mono hk_law_same) Y.m_law_same Y.F_law_same.kp Y.b_law_same (jc_cons (je_callKw G_mark_value (hr.mono hk_mark_value) Y.m_mark_value Y.F_mark_value.kp (Fun_kb (ks := ["expr", "worth", "folds"]) (ix := [0, 1, 2]) Y.F_mark_value (by decide) fun _ _ _ _ _ _ ws hl => match ws, hl with | [_, _, _], _ => rfl) (jk_cons (je_call G_law_marked (hr.mono hk_law_marked) Y.m_law_marked Y.F_law_marked.kp Y.b_law_marked (jc_cons (je_var 13) jc_nil)) (jk_own 7 (jk_cons (je_var 10) jk_nil)))) (jc_cons (je_call G_law_value (hr.mono hk_law_value) Y.m_law_value Y.F_law_value.kp Y.b_law_value (jc_cons (je_var 13) (jc_own 3 jc_nil))) jc_nil))))) (js_one (js_ret je_bl)) js_nil)))))) (js_one (js_ret (je_cmp (do_eq (huD hr)) (by exact (je_new (jn_lcK rfl sc_law_at_values.nd 7 14 (blkOk_by (N := ["_law_test", "_law_bone", "_law_leaves", "_law_cells", "_law_told_here", "_law_levels", "_law_due", "_law_marks", "_law_key", "_law_kept", "_law_sums", "_law_leaf_here", "_law_exprs", "_law_term", "_law_m"]) (sc := defScope s_law_at_values) (by decide +kernel)) (fun _ _ _ _ _ => pg_name (i := 14) sc_law_at_values.nd rfl (Or.inl rfl)) (fun _ _ _ _ _ => by exact (je_tup (ja_cons (je_var 14) (ja_cons (je_look (huD hr) 7 (je_var 14)) ja_nil))))))) (je_var 9))))))))))))), rp⟩
theorem ok_law_unit {n_possible : Nat} {dsp : DSp} {k : Nat} (Y : Fs K mg) (T : Bt K mg) {k_possible : Nat} (hk_possible : k_possible ≤ k) (G_possible : FnOk P w K mg base CX0 k_possible Y.a_possible Y.d_possible ["cond", "unit"] (spOf K (sp_possible n_possible))) {k_law_told : Nat} (hk_law_told : k_law_told ≤ k) (G_law_told : FnOk P w K mg base CX0 k_law_told Y.a_law_told Y.d_law_told ["_law_leaves", "_law_bone", "_law_which"] (spOf K sp_law_told)) {k_law_truth_same : Nat} (hk_law_truth_same : k_law_truth_same ≤ k) (G_law_truth_same : FnOk P w K mg base CX0 k_law_truth_same Y.a_law_truth_same Y.d_law_truth_same ["_law_actual", "_law_due"] (spOf K sp_law_truth_same)) {k_never_on_nulls : Nat} (hk_never_on_nulls : k_never_on_nulls ≤ k) (G_never_on_nulls : FnOk P w K mg base CX0 k_never_on_nulls Y.a_never_on_nulls Y.d_never_on_nulls ["cond", "unit"] (spOf K sp_never_on_nulls)) {k_law_at_values : Nat} (hk_law_at_values : k_law_at_values ≤ k) (G_law_at_values : FnOk P w K mg base CX0 k_law_at_values Y.a_law_at_values Y.d_law_at_values ["_law_test", "_law_bone", "_law_leaves", "_law_cells", "_law_told_here"] (spOf K sp_law_at_values)) (len : ∀ as Q, dsp as Q → as.length = 5)
    (rp : ∀ (as : List SD) (Q : RS → List SD → Prop), dsp as Q → (rd_law_unit n_possible) { nx := fun δ => Q (.dt .none) (outs as δ), rt := fun d δ => Q d (outs as δ) } (startD 8 as)) :
    FnOk P w K mg base CX0 (k + 1) Y.a_law_unit Y.d_law_unit ["_law_test", "_law_bone", "_law_leaves", "_law_which", "_law_cells"] (spOf K dsp) :=
  fn_ok Y.F_law_unit sc_law_unit len (by decide) fun cdv A outer s H E hr => ⟨_, (rd_law_unit n_possible),
    (js_cons (js_set (i := 5) sc_law_unit.nd (je_callKw G_possible (hr.mono hk_possible) Y.m_possible Y.F_possible.kp (Fun_kb (ks := ["cond", "unit"]) (ix := [0, 1]) Y.F_possible (by decide) fun _ _ _ _ _ _ ws hl => match ws, hl with | [_, _], _ => rfl) (jk_cons (je_var 0) (jk_cons (je_var 3) jk_nil)))) (js_cons (js_if (JW.jt (jw_or (jt_not (jt_val (je_isi tok_tuple rfl T.b_isinstance rfl T.b_tuple (by decide +kernel) (je_var 5)))) (jw_or1 (jt_cmp (do_ne (huD hr)) (je_callB cd_len rfl T.b_len PySem.boot_len (ja_cons (je_var 5) ja_nil)) je_int)))) (js_one (js_ret je_bl)) js_nil) (js_cons (js_set (i := 6) sc_law_unit.nd (je_call G_law_told (hr.mono hk_law_told) Y.m_law_told Y.F_law_told.kp Y.b_law_told (jc_cons (je_var 2) (jc_cons (je_var 1) (jc_cons (je_var 3) jc_nil))))) (js_cons (js_if (jt_cmp (do_gt (huD hr)) (je_callB cd_len rfl T.b_len PySem.boot_len (ja_cons (je_new (jn_lcIf (i := 7) rfl sc_law_unit.nd (ji_range1 rfl T.b_range (ja_cons je_int ja_nil)) (blkOk_by (N := ["_law_test", "_law_bone", "_law_leaves", "_law_which", "_law_cells", "_law_told_here", "_law_due", "_law_k"]) (sc := defScope s_law_unit) (by decide +kernel)) (fun _ _ _ _ _ => pg_name (i := 7) sc_law_unit.nd rfl (Or.inl rfl)) (fun _ _ _ _ _ => by exact (jt_not (jt_val (je_call G_law_truth_same (hr.mono hk_law_truth_same) Y.m_law_truth_same Y.F_law_truth_same.kp Y.b_law_truth_same (jc_cons (je_ix (je_var 5) (je_var 7)) (jc_cons (je_ix (je_var 6) (je_var 7)) jc_nil)))))) (fun _ _ _ _ _ => by exact (je_var 7)))) ja_nil)) je_int) (js_one (js_ret je_bl)) js_nil) (js_cons (js_if (jt_not (jt_val (je_call G_law_truth_same (hr.mono hk_law_truth_same) Y.m_law_truth_same Y.F_law_truth_same.kp Y.b_law_truth_same (jc_cons (je_callKw G_never_on_nulls (hr.mono hk_never_on_nulls) Y.m_never_on_nulls Y.F_never_on_nulls.kp (Fun_kb (ks := ["cond", "unit"]) (ix := [0, 1]) Y.F_never_on_nulls (by decide) fun _ _ _ _ _ _ ws hl => match ws, hl with | [_, _], _ => rfl) (jk_cons (je_var 0) (jk_cons (je_var 3) jk_nil))) (jc_cons (je_not (je_ix (je_var 6) je_int)) jc_nil))))) (js_one (js_ret je_bl)) js_nil) (js_one (js_ret (je_call G_law_at_values (hr.mono hk_law_at_values) Y.m_law_at_values Y.F_law_at_values.kp Y.b_law_at_values (jc_cons (je_var 0) (jc_cons (je_var 1) (jc_cons (je_var 2) (jc_own 4 (jc_cons (je_var 5) jc_nil))))))))))))), rp⟩
theorem ok_law {dsp : DSp} {k : Nat} (Y : Fs K mg) (T : Bt K mg) {k_law_deck : Nat} (hk_law_deck : k_law_deck ≤ k) (G_law_deck : FnOk P w K mg base CX0 k_law_deck Y.a_law_deck Y.d_law_deck ["_law_script"] (spOf K sp_law_deck)) {k_law_pick : Nat} (hk_law_pick : k_law_pick ≤ k) (G_law_pick : FnOk P w K mg base CX0 k_law_pick Y.a_law_pick Y.d_law_pick ["_law_deck_here", "_law_many"] (spOf K sp_law_pick)) {k_law_leaf : Nat} (hk_law_leaf : k_law_leaf ≤ k) (G_law_leaf : FnOk P w K mg base CX0 k_law_leaf Y.a_law_leaf Y.d_law_leaf ["_law_deck_here"] (spOf K sp_law_leaf)) {k_law_joined : Nat} (hk_law_joined : k_law_joined ≤ k) (G_law_joined : FnOk P w K mg base CX0 k_law_joined Y.a_law_joined Y.d_law_joined ["_law_deck_here", "_law_leaves"] (spOf K sp_law_joined)) {k_law_values : Nat} (hk_law_values : k_law_values ≤ k) (G_law_values : FnOk P w K mg base CX0 k_law_values Y.a_law_values Y.d_law_values ["_law_deck_here", "_law_which"] (spOf K sp_law_values)) {k_law_at_values : Nat} (hk_law_at_values : k_law_at_values ≤ k) (G_law_at_values : FnOk P w K mg base CX0 k_law_at_values Y.a_law_at_values Y.d_law_at_values ["_law_test", "_law_bone", "_law_leaves", "_law_cells", "_law_told_here"] (spOf K sp_law_at_values)) {k_law_unit : Nat} (hk_law_unit : k_law_unit ≤ k) (G_law_unit : FnOk P w K mg base CX0 k_law_unit Y.a_law_unit Y.d_law_unit ["_law_test", "_law_bone", "_law_leaves", "_law_which", "_law_cells"] (spOf K sp_law_unit)) (len : ∀ as Q, dsp as Q → as.length = 1)
    (rp : ∀ (as : List SD) (Q : RS → List SD → Prop), dsp as Q → rd_law { nx := fun δ => Q (.dt .none) (outs as δ), rt := fun d δ => Q d (outs as δ) } (startD 9 as)) :
    FnOk P w K mg base CX0 (k + 1) Y.a_law Y.d_law ["_law_script"] (spOf K dsp) :=
  fn_ok Y.F_law sc_law len (by decide) fun cdv A outer s H E hr => ⟨_, rd_law,
    (js_cons (js_own (i := 1) sc_law.nd (jn_call G_law_deck (hr.mono hk_law_deck) Y.m_law_deck Y.F_law_deck.kp Y.b_law_deck (jc_cons (je_var 0) jc_nil))) (js_cons (js_for rfl (ji_range1 rfl T.b_range (ja_cons je_int ja_nil)) (jg_name (i := 2) sc_law.nd) (js_cons (js_setLc (i := 8) rfl sc_law.nd (ji_range1 rfl T.b_range (ja_cons (je_op do_add je_int (je_call G_law_pick (hr.mono hk_law_pick) Y.m_law_pick Y.F_law_pick.kp Y.b_law_pick (jc_own 1 (jc_cons je_int jc_nil)))) ja_nil)) (blkOk_by (N := ["_law_script", "_law_deck_here", "_law_turn", "_law_leaves", "_law_made", "_law_one", "_law_which", "_law_cells", "_law_k"]) (sc := defScope s_law) (by decide +kernel)) (fun _ _ _ _ _ => pg_name (i := 8) sc_law.nd rfl (Or.inl rfl)) (fun _ _ _ _ _ => by exact (je_call G_law_leaf (hr.mono hk_law_leaf) Y.m_law_leaf Y.F_law_leaf.kp Y.b_law_leaf (jc_own 1 jc_nil))) (n := 3)) (js_cons (js_set (i := 4) sc_law.nd (je_call G_law_joined (hr.mono hk_law_joined) Y.m_law_joined Y.F_law_joined.kp Y.b_law_joined (jc_own 1 (jc_cons (je_var 3) jc_nil)))) (js_cons (js_if (jt_not (jt_val (je_callTmpK 3 G_law_at_values (hr.mono hk_law_at_values) Y.m_law_at_values Y.F_law_at_values.kp Y.b_law_at_values (pa_cons (JE.p (by exact (je_ix (je_var 4) je_int))) (pa_cons (JE.p (by exact (je_ix (je_var 4) je_int))) (pa_cons (JE.p (by exact (je_var 3))) (pa_cons (pe_call G_law_values (hr.mono hk_law_values) rfl Y.m_law_values Y.F_law_values.kp Y.b_law_values .nil pass0 (pa_cons (pv 1) (pa_cons (JE.p (by exact je_int)) pa_nil))) (pa_cons (JE.p (by exact je_non)) pa_nil))))) (by exact (jc_cons (je_ix (je_var 4) je_int) (jc_cons (je_ix (je_var 4) je_int) (jc_cons (je_var 3) jc_nil)))) (by exact (jc_own 1 (jc_cons je_int jc_nil))) (by exact (jc_cons je_non jc_nil))))) (js_one (js_ret je_bl)) js_nil) (js_cons (js_set (i := 5) sc_law.nd (je_call G_law_pick (hr.mono hk_law_pick) Y.m_law_pick Y.F_law_pick.kp Y.b_law_pick (jc_own 1 (jc_cons je_int jc_nil)))) (js_one (js_for rfl (ji_range1 rfl T.b_range (ja_cons je_int ja_nil)) (jg_name (i := 6) sc_law.nd) (js_cons (js_ownC (i := 7) G_law_values (hr.mono hk_law_values) Y.m_law_values Y.F_law_values.kp Y.b_law_values (jc_ifOwn 1 (jt_cmp (do_eq (huD hr)) (je_var 6) (je_var 5)) (jc_cons (je_var 6) jc_nil)) sc_law.nd) (js_one (js_if (jt_not (jt_val (je_call G_law_unit (hr.mono hk_law_unit) Y.m_law_unit Y.F_law_unit.kp Y.b_law_unit (jc_cons (je_ix (je_var 4) je_int) (jc_cons (je_ix (je_var 4) je_int) (jc_cons (je_var 3) (jc_cons (je_var 6) (jc_own 7 jc_nil)))))))) (js_one (js_ret je_bl)) js_nil)))))))))) (js_one (js_ret je_bl)))), rp⟩
end
theorem hC_pos : ∀ c : Cd, 1 ≤ hC 1 c
  | .leaf _ => by unfold hC; omega
  | .no c => by unfold hC; omega
  | .may c => by unfold hC; omega
  | .and a b => by unfold hC; omega
  | .or a b => by unfold hC; omega
theorem hX_pos : ∀ e : Xp, 1 ≤ hX e
  | .num _ => by unfold hX; omega
  | .txt _ => by unfold hX; omega
  | .col _ _ => by unfold hX; omega
  | .neg e => by unfold hX; omega
  | .bin _ a b => by unfold hX; omega
local macro_rules | `(tactic| walk_at "l") => `(tactic| (intro as Q h; (repeat (obtain ⟨_, h⟩ := h)); subst_vars; rfl))
section
variable {P : Program} {w : World} {K : PySem.W.Frag} {mg : Str → Option Value} {base : Heap}
theorem ch_law_deck (Y : Fs K mg) (T : Bt K mg) : FnOk P w K mg base CX0 1 Y.a_law_deck Y.d_law_deck ["_law_script"] (spOf K sp_law_deck) :=
  ok_law_deck (k := 0) Y T  (by walk_at "l") rp_law_deck
theorem ch_law_pick (Y : Fs K mg) (T : Bt K mg) : FnOk P w K mg base CX0 1 Y.a_law_pick Y.d_law_pick ["_law_deck_here", "_law_many"] (spOf K sp_law_pick) :=
  ok_law_pick (k := 0) Y T  (by walk_at "l") rp_law_pick
theorem ch_law_word (Y : Fs K mg) (T : Bt K mg) : FnOk P w K mg base CX0 2 Y.a_law_word Y.d_law_word ["_law_deck_here"] (spOf K sp_law_word) :=
  ok_law_word (k := 1) Y T (by omega) (ch_law_pick Y T) (by walk_at "l") rp_law_word
theorem ch_law_number (Y : Fs K mg) (T : Bt K mg) : FnOk P w K mg base CX0 2 Y.a_law_number Y.d_law_number ["_law_deck_here"] (spOf K sp_law_number) :=
  ok_law_number (k := 1) Y T (by omega) (ch_law_pick Y T) (by walk_at "l") rp_law_number
theorem ch_law_part (Y : Fs K mg) (T : Bt K mg) : FnOk P w K mg base CX0 3 Y.a_law_part Y.d_law_part ["_law_deck_here", "_law_text", "_law_cols"] (spOf K sp_law_part) :=
  ok_law_part (k := 2) Y T (by omega) (ch_law_pick Y T) (by omega) (ch_law_word Y T) (by omega) (ch_law_number Y T) (by walk_at "l") rp_law_part
theorem ch_law_expr (Y : Fs K mg) (T : Bt K mg) : FnOk P w K mg base CX0 4 Y.a_law_expr Y.d_law_expr ["_law_deck_here", "_law_text", "_law_cols"] (spOf K sp_law_expr) :=
  ok_law_expr (k := 3) Y T (by omega) (ch_law_part Y T) (by omega) (ch_law_pick Y T) (by walk_at "l") rp_law_expr
theorem ch_law_leaf (Y : Fs K mg) (T : Bt K mg) : FnOk P w K mg base CX0 5 Y.a_law_leaf Y.d_law_leaf ["_law_deck_here"] (spOf K sp_law_leaf) :=
  ok_law_leaf (k := 4) Y T (by omega) (ch_law_pick Y T) (by omega) (ch_law_expr Y T) (by walk_at "l") rp_law_leaf
theorem ch_law_joined (Y : Fs K mg) (T : Bt K mg) : FnOk P w K mg base CX0 2 Y.a_law_joined Y.d_law_joined ["_law_deck_here", "_law_leaves"] (spOf K sp_law_joined) :=
  ok_law_joined (k := 1) Y T (by omega) (ch_law_pick Y T) (by walk_at "l") rp_law_joined
theorem ch_law_values (Y : Fs K mg) (T : Bt K mg) : FnOk P w K mg base CX0 3 Y.a_law_values Y.d_law_values ["_law_deck_here", "_law_which"] (spOf K sp_law_values) :=
  ok_law_values (k := 2) Y T (by omega) (ch_law_word Y T) (by omega) (ch_law_number Y T) (by omega) (ch_law_pick Y T) (by walk_at "l") rp_law_values
theorem ch_law_value (Y : Fs K mg) (T : Bt K mg) : ∀ n, FnOk P w K mg base CX0 (0 + n + 1) Y.a_law_value Y.d_law_value ["_law_term", "_law_cells"] (spOf K (sp_law_value n))
  | 0 => fn_never (fun _ _ ⟨e, _, _, _, _, _, _, h, _⟩ => absurd h (by have := hX_pos e; omega))
  | n + 1 => ok_law_value (k := 0 + n + 1) Y T (Nat.le_refl _) (ch_law_value Y T n) (by walk_at "l") (rp_law_value n)
theorem ch_law_leaf_level (Y : Fs K mg) (T : Bt K mg) : FnOk P w K mg base CX0 22 Y.a_law_leaf_level Y.d_law_leaf_level ["_law_leaf_here", "_law_cells"] (spOf K sp_law_leaf_level) :=
  ok_law_leaf_level (k := 21) Y T (by omega) (ch_law_value Y T 20) (by walk_at "l") rp_law_leaf_level
theorem ch_law_level (Y : Fs K mg) (T : Bt K mg) : ∀ n, FnOk P w K mg base CX0 (0 + n + 1) Y.a_law_level Y.d_law_level ["_law_bone", "_law_levels"] (spOf K (sp_law_level n))
  | 0 => fn_never (fun _ _ ⟨c, _, _, _, _, h, _⟩ => absurd h (by have := hC_pos c; omega))
  | n + 1 => ok_law_level (k := 0 + n + 1) Y T (Nat.le_refl _) (ch_law_level Y T n) (by walk_at "l") (rp_law_level n)
theorem ch_law_marked (Y : Fs K mg) (T : Bt K mg) : ∀ n, FnOk P w K mg base CX0 (0 + n + 1) Y.a_law_marked Y.d_law_marked ["_law_thing"] (spOf K (sp_law_marked n))
  | 0 => fn_never (fun _ _ ⟨_, _, _, h, _⟩ => nomatch h)
  | n + 1 => ok_law_marked (k := 0 + n + 1) Y T (Nat.le_refl _) (ch_law_marked Y T n) (by walk_at "l") (rp_law_marked n)
theorem ch_mark_value (Y : Fs K mg) (T : Bt K mg) : ∀ n, FnOk P w K mg base CX0 (0 + n + 1) Y.a_mark_value Y.d_mark_value ["expr", "worth", "folds"] (spOf K (sp_mark_value n))
  | 0 => fn_never (fun _ _ ⟨e, _, _, _, _, _, _, h, _⟩ => absurd h (by have := hX_pos e; omega))
  | n + 1 => ok_mark_value (k := 0 + n + 1) Y T (Nat.le_refl _) (ch_mark_value Y T n) (by walk_at "l") (rp_mark_value n)
theorem ch_compared (Y : Fs K mg) (T : Bt K mg) : FnOk P w K mg base CX0 1 Y.a_compared Y.d_compared ["op", "one", "other"] (spOf K sp_compared) :=
  ok_compared (k := 0) Y T  (by walk_at "l") rp_compared
theorem ch_negated (Y : Fs K mg) (T : Bt K mg) : FnOk P w K mg base CX0 1 Y.a_negated Y.d_negated ["t"] (spOf K sp_negated) :=
  ok_negated (k := 0) Y T  (by walk_at "l") rp_negated
theorem ch_perhaps (Y : Fs K mg) (T : Bt K mg) : FnOk P w K mg base CX0 1 Y.a_perhaps Y.d_perhaps ["t"] (spOf K sp_perhaps) :=
  ok_perhaps (k := 0) Y T  (by walk_at "l") rp_perhaps
theorem ch_both (Y : Fs K mg) (T : Bt K mg) : FnOk P w K mg base CX0 1 Y.a_both Y.d_both ["s", "t"] (spOf K sp_both) :=
  ok_both (k := 0) Y T  (by walk_at "l") rp_both
theorem ch_either (Y : Fs K mg) (T : Bt K mg) : FnOk P w K mg base CX0 1 Y.a_either Y.d_either ["s", "t"] (spOf K sp_either) :=
  ok_either (k := 0) Y T  (by walk_at "l") rp_either
theorem ch_mark_truth (Y : Fs K mg) (T : Bt K mg) : ∀ n, FnOk P w K mg base CX0 (21 + n + 1) Y.a_mark_truth Y.d_mark_truth ["cond", "worth", "folds"] (spOf K (sp_mark_truth n))
  | 0 => fn_never (fun _ _ ⟨_, c, _, _, _, _, _, _, h, _⟩ => absurd h (by have := hC_pos c; omega))
  | n + 1 => ok_mark_truth (k := 21 + n + 1) Y T (by omega) (ch_mark_value Y T 20) (by omega) (ch_compared Y T) (Nat.le_refl _) (ch_mark_truth Y T n) (by omega) (ch_negated Y T) (by omega) (ch_perhaps Y T) (by omega) (ch_both Y T) (by omega) (ch_either Y T) (by walk_at "l") (rp_mark_truth n)
theorem ch_law_truth_same (Y : Fs K mg) (T : Bt K mg) : FnOk P w K mg base CX0 1 Y.a_law_truth_same Y.d_law_truth_same ["_law_actual", "_law_due"] (spOf K sp_law_truth_same) :=
  ok_law_truth_same (k := 0) Y T  (by walk_at "l") rp_law_truth_same
theorem ch_law_same (Y : Fs K mg) (T : Bt K mg) : FnOk P w K mg base CX0 1 Y.a_law_same Y.d_law_same ["_law_actual", "_law_due"] (spOf K sp_law_same) :=
  ok_law_same (k := 0) Y T  (by walk_at "l") rp_law_same
theorem ch_law_at_values (Y : Fs K mg) (T : Bt K mg) : FnOk P w K mg base CX0 63 Y.a_law_at_values Y.d_law_at_values ["_law_test", "_law_bone", "_law_leaves", "_law_cells", "_law_told_here"] (spOf K sp_law_at_values) :=
  ok_law_at_values (k := 62) Y T (by omega) (ch_law_leaf_level Y T) (by omega) (ch_law_level Y T 40) (by omega) (ch_law_marked Y T 60) (by omega) (ch_mark_truth Y T 40) (by omega) (ch_law_truth_same Y T) (by omega) (ch_law_value Y T 20) (by omega) (ch_mark_value Y T 20) (by omega) (ch_law_same Y T) (by walk_at "l") rp_law_at_values
theorem ch_collect_raw_columns (Y : Fs K mg) (T : Bt K mg) : ∀ n, FnOk P w K mg base CX0 (0 + n + 1) Y.a_collect_raw_columns Y.d_collect_raw_columns ["thing", "met"] (spOf K (sp_collect_raw_columns n))
  | 0 => fn_never (fun _ _ ⟨_, _, _, _, _, h, _⟩ => nomatch h)
  | n + 1 => ok_collect_raw_columns (k := 0 + n + 1) Y T (Nat.le_refl _) (ch_collect_raw_columns Y T n) (by walk_at "l") (rp_collect_raw_columns n)
theorem ch_raw_columns (Y : Fs K mg) (T : Bt K mg) : FnOk P w K mg base CX0 22 Y.a_raw_columns Y.d_raw_columns ["thing"] (spOf K sp_raw_columns) :=
  ok_raw_columns (k := 21) Y T (by omega) (ch_collect_raw_columns Y T 20) (by walk_at "l") rp_raw_columns
theorem ch_reads_unit (Y : Fs K mg) (T : Bt K mg) : FnOk P w K mg base CX0 23 Y.a_reads_unit Y.d_reads_unit ["thing", "unit"] (spOf K sp_reads_unit) :=
  ok_reads_unit (k := 22) Y T (by omega) (ch_raw_columns Y T) (by walk_at "l") rp_reads_unit
theorem ch_truths_told (Y : Fs K mg) (T : Bt K mg) : FnOk P w K mg base CX0 1 Y.a_truths_told Y.d_truths_told ["triple"] (spOf K sp_truths_told) :=
  ok_truths_told (k := 0) Y T  (by walk_at "l") rp_truths_told
theorem ch_told_truths (Y : Fs K mg) (T : Bt K mg) : FnOk P w K mg base CX0 1 Y.a_told_truths Y.d_told_truths ["truths"] (spOf K sp_told_truths) :=
  ok_told_truths (k := 0) Y T  (by walk_at "l") rp_told_truths
theorem ch_possible (Y : Fs K mg) (T : Bt K mg) : ∀ n, FnOk P w K mg base CX0 (23 + n + 1) Y.a_possible Y.d_possible ["cond", "unit"] (spOf K (sp_possible n))
  | 0 => fn_never (fun _ _ ⟨_, c, _, _, _, _, h, _⟩ => absurd h (by have := hC_pos c; omega))
  | n + 1 => ok_possible (k := 23 + n + 1) Y T (by omega) (ch_reads_unit Y T) (Nat.le_refl _) (ch_possible Y T n) (by omega) (ch_truths_told Y T) (by omega) (ch_negated Y T) (by omega) (ch_told_truths Y T) (by omega) (ch_perhaps Y T) (by omega) (ch_both Y T) (by omega) (ch_either Y T) (by walk_at "l") (rp_possible n)
theorem ch_law_told (Y : Fs K mg) (T : Bt K mg) : FnOk P w K mg base CX0 42 Y.a_law_told Y.d_law_told ["_law_leaves", "_law_bone", "_law_which"] (spOf K sp_law_told) :=
  ok_law_told (k := 41) Y T (by omega) (ch_law_level Y T 40) (by walk_at "l") rp_law_told
theorem ch_never_on_nulls (Y : Fs K mg) (T : Bt K mg) : FnOk P w K mg base CX0 65 Y.a_never_on_nulls Y.d_never_on_nulls ["cond", "unit"] (spOf K sp_never_on_nulls) :=
  ok_never_on_nulls (k := 64) Y T (by omega) (ch_possible Y T 40) (by walk_at "l") rp_never_on_nulls
theorem ch_law_unit (Y : Fs K mg) (T : Bt K mg) : FnOk P w K mg base CX0 66 Y.a_law_unit Y.d_law_unit ["_law_test", "_law_bone", "_law_leaves", "_law_which", "_law_cells"] (spOf K sp_law_unit) :=
  ok_law_unit (k := 65) Y T (by omega) (ch_possible Y T 40) (by omega) (ch_law_told Y T) (by omega) (ch_law_truth_same Y T) (by omega) (ch_never_on_nulls Y T) (by omega) (ch_law_at_values Y T) (by walk_at "l") rp_law_unit
def topLevel : Nat := 67
theorem chain (Y : Fs K mg) (T : Bt K mg) : FnOk P w K mg base CX0 topLevel Y.a_law Y.d_law ["_law_script"] (spOf K spLaw) :=
  ok_law (k := 66) Y T (by omega) (ch_law_deck Y T) (by omega) (ch_law_pick Y T) (by omega) (ch_law_leaf Y T) (by omega) (ch_law_joined Y T) (by omega) (ch_law_values Y T) (by omega) (ch_law_at_values Y T) (by omega) (ch_law_unit Y T) (by walk_at "l") rp_law
end
theorem all_mk {l : PySem.W.OpenLaw} {w : World} {K : PySem.W.Frag} {h : Heap} {mg : Str → Option Value} {fa : Addr} (X : K.In h) (G : h.Ns mainGlobals mg) (hfa : mg "law" = some (.ref fa))
    {f0 : Addr} {od0 an0 : Option Addr} {sl0 : Array (Option Value)} {oc0 kV0 dc0 pm0 cd0 ct0 : Value} (a0 : PySem.W.nsIn K mainGlobals "raw_columns" = some (some (.ref f0))) (l0 : K.lookup f0 = some ⟨oc0, od0, .func (PySem.W.fnOf "raw_columns" "raw_columns" (defArgs s_raw_columns) (defBody s_raw_columns) (defScope s_raw_columns) .none kV0 dc0 pm0 an0 cd0 ct0), sl0⟩) (c0 : PySem.W.codeIn K cd0 "raw_columns" = true) (k0 : PySem.W.keepIn K (.ref f0) = true)
    {f1 : Addr} {od1 an1 : Option Addr} {sl1 : Array (Option Value)} {oc1 kV1 dc1 pm1 cd1 ct1 : Value} (a1 : PySem.W.nsIn K mainGlobals "_collect_raw_columns" = some (some (.ref f1))) (l1 : K.lookup f1 = some ⟨oc1, od1, .func (PySem.W.fnOf "_collect_raw_columns" "_collect_raw_columns" (defArgs s_collect_raw_columns) (defBody s_collect_raw_columns) (defScope s_collect_raw_columns) .none kV1 dc1 pm1 an1 cd1 ct1), sl1⟩) (c1 : PySem.W.codeIn K cd1 "_collect_raw_columns" = true) (k1 : PySem.W.keepIn K (.ref f1) = true)
    {f2 : Addr} {od2 an2 : Option Addr} {sl2 : Array (Option Value)} {oc2 kV2 dc2 pm2 cd2 ct2 : Value} (a2 : PySem.W.nsIn K mainGlobals "negated" = some (some (.ref f2))) (l2 : K.lookup f2 = some ⟨oc2, od2, .func (PySem.W.fnOf "negated" "negated" (defArgs s_negated) (defBody s_negated) (defScope s_negated) .none kV2 dc2 pm2 an2 cd2 ct2), sl2⟩) (c2 : PySem.W.codeIn K cd2 "negated" = true) (k2 : PySem.W.keepIn K (.ref f2) = true)
    {f3 : Addr} {od3 an3 : Option Addr} {sl3 : Array (Option Value)} {oc3 kV3 dc3 pm3 cd3 ct3 : Value} (a3 : PySem.W.nsIn K mainGlobals "perhaps" = some (some (.ref f3))) (l3 : K.lookup f3 = some ⟨oc3, od3, .func (PySem.W.fnOf "perhaps" "perhaps" (defArgs s_perhaps) (defBody s_perhaps) (defScope s_perhaps) .none kV3 dc3 pm3 an3 cd3 ct3), sl3⟩) (c3 : PySem.W.codeIn K cd3 "perhaps" = true) (k3 : PySem.W.keepIn K (.ref f3) = true)
    {f4 : Addr} {od4 an4 : Option Addr} {sl4 : Array (Option Value)} {oc4 kV4 dc4 pm4 cd4 ct4 : Value} (a4 : PySem.W.nsIn K mainGlobals "both" = some (some (.ref f4))) (l4 : K.lookup f4 = some ⟨oc4, od4, .func (PySem.W.fnOf "both" "both" (defArgs s_both) (defBody s_both) (defScope s_both) .none kV4 dc4 pm4 an4 cd4 ct4), sl4⟩) (c4 : PySem.W.codeIn K cd4 "both" = true) (k4 : PySem.W.keepIn K (.ref f4) = true)
    {f5 : Addr} {od5 an5 : Option Addr} {sl5 : Array (Option Value)} {oc5 kV5 dc5 pm5 cd5 ct5 : Value} (a5 : PySem.W.nsIn K mainGlobals "either" = some (some (.ref f5))) (l5 : K.lookup f5 = some ⟨oc5, od5, .func (PySem.W.fnOf "either" "either" (defArgs s_either) (defBody s_either) (defScope s_either) .none kV5 dc5 pm5 an5 cd5 ct5), sl5⟩) (c5 : PySem.W.codeIn K cd5 "either" = true) (k5 : PySem.W.keepIn K (.ref f5) = true)
    {f6 : Addr} {od6 an6 : Option Addr} {sl6 : Array (Option Value)} {oc6 kV6 dc6 pm6 cd6 ct6 : Value} (a6 : PySem.W.nsIn K mainGlobals "compared" = some (some (.ref f6))) (l6 : K.lookup f6 = some ⟨oc6, od6, .func (PySem.W.fnOf "compared" "compared" (defArgs s_compared) (defBody s_compared) (defScope s_compared) .none kV6 dc6 pm6 an6 cd6 ct6), sl6⟩) (c6 : PySem.W.codeIn K cd6 "compared" = true) (k6 : PySem.W.keepIn K (.ref f6) = true)
    {f7 : Addr} {od7 an7 : Option Addr} {sl7 : Array (Option Value)} {oc7 kV7 dc7 pm7 cd7 ct7 : Value} (a7 : PySem.W.nsIn K mainGlobals "possible" = some (some (.ref f7))) (l7 : K.lookup f7 = some ⟨oc7, od7, .func (PySem.W.fnOf "possible" "possible" (defArgs s_possible) (defBody s_possible) (defScope s_possible) .none kV7 dc7 pm7 an7 cd7 ct7), sl7⟩) (c7 : PySem.W.codeIn K cd7 "possible" = true) (k7 : PySem.W.keepIn K (.ref f7) = true)
    {f8 : Addr} {od8 an8 : Option Addr} {sl8 : Array (Option Value)} {oc8 kV8 dc8 pm8 cd8 ct8 : Value} (a8 : PySem.W.nsIn K mainGlobals "never_on_nulls" = some (some (.ref f8))) (l8 : K.lookup f8 = some ⟨oc8, od8, .func (PySem.W.fnOf "never_on_nulls" "never_on_nulls" (defArgs s_never_on_nulls) (defBody s_never_on_nulls) (defScope s_never_on_nulls) .none kV8 dc8 pm8 an8 cd8 ct8), sl8⟩) (c8 : PySem.W.codeIn K cd8 "never_on_nulls" = true) (k8 : PySem.W.keepIn K (.ref f8) = true)
    {f9 : Addr} {od9 an9 : Option Addr} {sl9 : Array (Option Value)} {oc9 kV9 dc9 pm9 cd9 ct9 : Value} (a9 : PySem.W.nsIn K mainGlobals "_reads_unit" = some (some (.ref f9))) (l9 : K.lookup f9 = some ⟨oc9, od9, .func (PySem.W.fnOf "_reads_unit" "_reads_unit" (defArgs s_reads_unit) (defBody s_reads_unit) (defScope s_reads_unit) .none kV9 dc9 pm9 an9 cd9 ct9), sl9⟩) (c9 : PySem.W.codeIn K cd9 "_reads_unit" = true) (k9 : PySem.W.keepIn K (.ref f9) = true)
    {f10 : Addr} {od10 an10 : Option Addr} {sl10 : Array (Option Value)} {oc10 kV10 dc10 pm10 cd10 ct10 : Value} (a10 : PySem.W.nsIn K mainGlobals "_truths_told" = some (some (.ref f10))) (l10 : K.lookup f10 = some ⟨oc10, od10, .func (PySem.W.fnOf "_truths_told" "_truths_told" (defArgs s_truths_told) (defBody s_truths_told) (defScope s_truths_told) .none kV10 dc10 pm10 an10 cd10 ct10), sl10⟩) (c10 : PySem.W.codeIn K cd10 "_truths_told" = true) (k10 : PySem.W.keepIn K (.ref f10) = true)
    {f11 : Addr} {od11 an11 : Option Addr} {sl11 : Array (Option Value)} {oc11 kV11 dc11 pm11 cd11 ct11 : Value} (a11 : PySem.W.nsIn K mainGlobals "_told_truths" = some (some (.ref f11))) (l11 : K.lookup f11 = some ⟨oc11, od11, .func (PySem.W.fnOf "_told_truths" "_told_truths" (defArgs s_told_truths) (defBody s_told_truths) (defScope s_told_truths) .none kV11 dc11 pm11 an11 cd11 ct11), sl11⟩) (c11 : PySem.W.codeIn K cd11 "_told_truths" = true) (k11 : PySem.W.keepIn K (.ref f11) = true)
    {f12 : Addr} {od12 an12 : Option Addr} {sl12 : Array (Option Value)} {oc12 kV12 dc12 pm12 cd12 ct12 : Value} (a12 : PySem.W.nsIn K mainGlobals "mark_value" = some (some (.ref f12))) (l12 : K.lookup f12 = some ⟨oc12, od12, .func (PySem.W.fnOf "mark_value" "mark_value" (defArgs s_mark_value) (defBody s_mark_value) (defScope s_mark_value) .none kV12 dc12 pm12 an12 cd12 ct12), sl12⟩) (c12 : PySem.W.codeIn K cd12 "mark_value" = true) (k12 : PySem.W.keepIn K (.ref f12) = true)
    {f13 : Addr} {od13 an13 : Option Addr} {sl13 : Array (Option Value)} {oc13 kV13 dc13 pm13 cd13 ct13 : Value} (a13 : PySem.W.nsIn K mainGlobals "mark_truth" = some (some (.ref f13))) (l13 : K.lookup f13 = some ⟨oc13, od13, .func (PySem.W.fnOf "mark_truth" "mark_truth" (defArgs s_mark_truth) (defBody s_mark_truth) (defScope s_mark_truth) .none kV13 dc13 pm13 an13 cd13 ct13), sl13⟩) (c13 : PySem.W.codeIn K cd13 "mark_truth" = true) (k13 : PySem.W.keepIn K (.ref f13) = true)
    {f14 : Addr} {od14 an14 : Option Addr} {sl14 : Array (Option Value)} {oc14 kV14 dc14 pm14 cd14 ct14 : Value} (a14 : PySem.W.nsIn K mainGlobals "_law_deck" = some (some (.ref f14))) (l14 : K.lookup f14 = some ⟨oc14, od14, .func (PySem.W.fnOf "_law_deck" "_law_deck" (defArgs s_law_deck) (defBody s_law_deck) (defScope s_law_deck) .none kV14 dc14 pm14 an14 cd14 ct14), sl14⟩) (c14 : PySem.W.codeIn K cd14 "_law_deck" = true) (k14 : PySem.W.keepIn K (.ref f14) = true)
    {f15 : Addr} {od15 an15 : Option Addr} {sl15 : Array (Option Value)} {oc15 kV15 dc15 pm15 cd15 ct15 : Value} (a15 : PySem.W.nsIn K mainGlobals "_law_pick" = some (some (.ref f15))) (l15 : K.lookup f15 = some ⟨oc15, od15, .func (PySem.W.fnOf "_law_pick" "_law_pick" (defArgs s_law_pick) (defBody s_law_pick) (defScope s_law_pick) .none kV15 dc15 pm15 an15 cd15 ct15), sl15⟩) (c15 : PySem.W.codeIn K cd15 "_law_pick" = true) (k15 : PySem.W.keepIn K (.ref f15) = true)
    {f16 : Addr} {od16 an16 : Option Addr} {sl16 : Array (Option Value)} {oc16 kV16 dc16 pm16 cd16 ct16 : Value} (a16 : PySem.W.nsIn K mainGlobals "_law_number" = some (some (.ref f16))) (l16 : K.lookup f16 = some ⟨oc16, od16, .func (PySem.W.fnOf "_law_number" "_law_number" (defArgs s_law_number) (defBody s_law_number) (defScope s_law_number) .none kV16 dc16 pm16 an16 cd16 ct16), sl16⟩) (c16 : PySem.W.codeIn K cd16 "_law_number" = true) (k16 : PySem.W.keepIn K (.ref f16) = true)
    {f17 : Addr} {od17 an17 : Option Addr} {sl17 : Array (Option Value)} {oc17 kV17 dc17 pm17 cd17 ct17 : Value} (a17 : PySem.W.nsIn K mainGlobals "_law_word" = some (some (.ref f17))) (l17 : K.lookup f17 = some ⟨oc17, od17, .func (PySem.W.fnOf "_law_word" "_law_word" (defArgs s_law_word) (defBody s_law_word) (defScope s_law_word) .none kV17 dc17 pm17 an17 cd17 ct17), sl17⟩) (c17 : PySem.W.codeIn K cd17 "_law_word" = true) (k17 : PySem.W.keepIn K (.ref f17) = true)
    {f18 : Addr} {od18 an18 : Option Addr} {sl18 : Array (Option Value)} {oc18 kV18 dc18 pm18 cd18 ct18 : Value} (a18 : PySem.W.nsIn K mainGlobals "_law_part" = some (some (.ref f18))) (l18 : K.lookup f18 = some ⟨oc18, od18, .func (PySem.W.fnOf "_law_part" "_law_part" (defArgs s_law_part) (defBody s_law_part) (defScope s_law_part) .none kV18 dc18 pm18 an18 cd18 ct18), sl18⟩) (c18 : PySem.W.codeIn K cd18 "_law_part" = true) (k18 : PySem.W.keepIn K (.ref f18) = true)
    {f19 : Addr} {od19 an19 : Option Addr} {sl19 : Array (Option Value)} {oc19 kV19 dc19 pm19 cd19 ct19 : Value} (a19 : PySem.W.nsIn K mainGlobals "_law_expr" = some (some (.ref f19))) (l19 : K.lookup f19 = some ⟨oc19, od19, .func (PySem.W.fnOf "_law_expr" "_law_expr" (defArgs s_law_expr) (defBody s_law_expr) (defScope s_law_expr) .none kV19 dc19 pm19 an19 cd19 ct19), sl19⟩) (c19 : PySem.W.codeIn K cd19 "_law_expr" = true) (k19 : PySem.W.keepIn K (.ref f19) = true)
    {f20 : Addr} {od20 an20 : Option Addr} {sl20 : Array (Option Value)} {oc20 kV20 dc20 pm20 cd20 ct20 : Value} (a20 : PySem.W.nsIn K mainGlobals "_law_leaf" = some (some (.ref f20))) (l20 : K.lookup f20 = some ⟨oc20, od20, .func (PySem.W.fnOf "_law_leaf" "_law_leaf" (defArgs s_law_leaf) (defBody s_law_leaf) (defScope s_law_leaf) .none kV20 dc20 pm20 an20 cd20 ct20), sl20⟩) (c20 : PySem.W.codeIn K cd20 "_law_leaf" = true) (k20 : PySem.W.keepIn K (.ref f20) = true)
    {f21 : Addr} {od21 an21 : Option Addr} {sl21 : Array (Option Value)} {oc21 kV21 dc21 pm21 cd21 ct21 : Value} (a21 : PySem.W.nsIn K mainGlobals "_law_joined" = some (some (.ref f21))) (l21 : K.lookup f21 = some ⟨oc21, od21, .func (PySem.W.fnOf "_law_joined" "_law_joined" (defArgs s_law_joined) (defBody s_law_joined) (defScope s_law_joined) .none kV21 dc21 pm21 an21 cd21 ct21), sl21⟩) (c21 : PySem.W.codeIn K cd21 "_law_joined" = true) (k21 : PySem.W.keepIn K (.ref f21) = true)
    {f22 : Addr} {od22 an22 : Option Addr} {sl22 : Array (Option Value)} {oc22 kV22 dc22 pm22 cd22 ct22 : Value} (a22 : PySem.W.nsIn K mainGlobals "_law_level" = some (some (.ref f22))) (l22 : K.lookup f22 = some ⟨oc22, od22, .func (PySem.W.fnOf "_law_level" "_law_level" (defArgs s_law_level) (defBody s_law_level) (defScope s_law_level) .none kV22 dc22 pm22 an22 cd22 ct22), sl22⟩) (c22 : PySem.W.codeIn K cd22 "_law_level" = true) (k22 : PySem.W.keepIn K (.ref f22) = true)
    {f23 : Addr} {od23 an23 : Option Addr} {sl23 : Array (Option Value)} {oc23 kV23 dc23 pm23 cd23 ct23 : Value} (a23 : PySem.W.nsIn K mainGlobals "_law_told" = some (some (.ref f23))) (l23 : K.lookup f23 = some ⟨oc23, od23, .func (PySem.W.fnOf "_law_told" "_law_told" (defArgs s_law_told) (defBody s_law_told) (defScope s_law_told) .none kV23 dc23 pm23 an23 cd23 ct23), sl23⟩) (c23 : PySem.W.codeIn K cd23 "_law_told" = true) (k23 : PySem.W.keepIn K (.ref f23) = true)
    {f24 : Addr} {od24 an24 : Option Addr} {sl24 : Array (Option Value)} {oc24 kV24 dc24 pm24 cd24 ct24 : Value} (a24 : PySem.W.nsIn K mainGlobals "_law_value" = some (some (.ref f24))) (l24 : K.lookup f24 = some ⟨oc24, od24, .func (PySem.W.fnOf "_law_value" "_law_value" (defArgs s_law_value) (defBody s_law_value) (defScope s_law_value) .none kV24 dc24 pm24 an24 cd24 ct24), sl24⟩) (c24 : PySem.W.codeIn K cd24 "_law_value" = true) (k24 : PySem.W.keepIn K (.ref f24) = true)
    {f25 : Addr} {od25 an25 : Option Addr} {sl25 : Array (Option Value)} {oc25 kV25 dc25 pm25 cd25 ct25 : Value} (a25 : PySem.W.nsIn K mainGlobals "_law_leaf_level" = some (some (.ref f25))) (l25 : K.lookup f25 = some ⟨oc25, od25, .func (PySem.W.fnOf "_law_leaf_level" "_law_leaf_level" (defArgs s_law_leaf_level) (defBody s_law_leaf_level) (defScope s_law_leaf_level) .none kV25 dc25 pm25 an25 cd25 ct25), sl25⟩) (c25 : PySem.W.codeIn K cd25 "_law_leaf_level" = true) (k25 : PySem.W.keepIn K (.ref f25) = true)
    {f26 : Addr} {od26 an26 : Option Addr} {sl26 : Array (Option Value)} {oc26 kV26 dc26 pm26 cd26 ct26 : Value} (a26 : PySem.W.nsIn K mainGlobals "_law_marked" = some (some (.ref f26))) (l26 : K.lookup f26 = some ⟨oc26, od26, .func (PySem.W.fnOf "_law_marked" "_law_marked" (defArgs s_law_marked) (defBody s_law_marked) (defScope s_law_marked) .none kV26 dc26 pm26 an26 cd26 ct26), sl26⟩) (c26 : PySem.W.codeIn K cd26 "_law_marked" = true) (k26 : PySem.W.keepIn K (.ref f26) = true)
    {f27 : Addr} {od27 an27 : Option Addr} {sl27 : Array (Option Value)} {oc27 kV27 dc27 pm27 cd27 ct27 : Value} (a27 : PySem.W.nsIn K mainGlobals "_law_same" = some (some (.ref f27))) (l27 : K.lookup f27 = some ⟨oc27, od27, .func (PySem.W.fnOf "_law_same" "_law_same" (defArgs s_law_same) (defBody s_law_same) (defScope s_law_same) .none kV27 dc27 pm27 an27 cd27 ct27), sl27⟩) (c27 : PySem.W.codeIn K cd27 "_law_same" = true) (k27 : PySem.W.keepIn K (.ref f27) = true)
    {f28 : Addr} {od28 an28 : Option Addr} {sl28 : Array (Option Value)} {oc28 kV28 dc28 pm28 cd28 ct28 : Value} (a28 : PySem.W.nsIn K mainGlobals "_law_truth_same" = some (some (.ref f28))) (l28 : K.lookup f28 = some ⟨oc28, od28, .func (PySem.W.fnOf "_law_truth_same" "_law_truth_same" (defArgs s_law_truth_same) (defBody s_law_truth_same) (defScope s_law_truth_same) .none kV28 dc28 pm28 an28 cd28 ct28), sl28⟩) (c28 : PySem.W.codeIn K cd28 "_law_truth_same" = true) (k28 : PySem.W.keepIn K (.ref f28) = true)
    {f29 : Addr} {od29 an29 : Option Addr} {sl29 : Array (Option Value)} {oc29 kV29 dc29 pm29 cd29 ct29 : Value} (a29 : PySem.W.nsIn K mainGlobals "_law_values" = some (some (.ref f29))) (l29 : K.lookup f29 = some ⟨oc29, od29, .func (PySem.W.fnOf "_law_values" "_law_values" (defArgs s_law_values) (defBody s_law_values) (defScope s_law_values) .none kV29 dc29 pm29 an29 cd29 ct29), sl29⟩) (c29 : PySem.W.codeIn K cd29 "_law_values" = true) (k29 : PySem.W.keepIn K (.ref f29) = true)
    {f30 : Addr} {od30 an30 : Option Addr} {sl30 : Array (Option Value)} {oc30 kV30 dc30 pm30 cd30 ct30 : Value} (a30 : PySem.W.nsIn K mainGlobals "_law_at_values" = some (some (.ref f30))) (l30 : K.lookup f30 = some ⟨oc30, od30, .func (PySem.W.fnOf "_law_at_values" "_law_at_values" (defArgs s_law_at_values) (defBody s_law_at_values) (defScope s_law_at_values) .none kV30 dc30 pm30 an30 cd30 ct30), sl30⟩) (c30 : PySem.W.codeIn K cd30 "_law_at_values" = true) (k30 : PySem.W.keepIn K (.ref f30) = true)
    {f31 : Addr} {od31 an31 : Option Addr} {sl31 : Array (Option Value)} {oc31 kV31 dc31 pm31 cd31 ct31 : Value} (a31 : PySem.W.nsIn K mainGlobals "_law_unit" = some (some (.ref f31))) (l31 : K.lookup f31 = some ⟨oc31, od31, .func (PySem.W.fnOf "_law_unit" "_law_unit" (defArgs s_law_unit) (defBody s_law_unit) (defScope s_law_unit) .none kV31 dc31 pm31 an31 cd31 ct31), sl31⟩) (c31 : PySem.W.codeIn K cd31 "_law_unit" = true) (k31 : PySem.W.keepIn K (.ref f31) = true)
    {f32 : Addr} {od32 an32 : Option Addr} {sl32 : Array (Option Value)} {oc32 kV32 dc32 pm32 cd32 ct32 : Value} (a32 : PySem.W.nsIn K mainGlobals "law" = some (some (.ref f32))) (l32 : K.lookup f32 = some ⟨oc32, od32, .func (PySem.W.fnOf "law" "law" (defArgs s_law) (defBody s_law) (defScope s_law) .none kV32 dc32 pm32 an32 cd32 ct32), sl32⟩) (c32 : PySem.W.codeIn K cd32 "law" = true) (k32 : PySem.W.keepIn K (.ref f32) = true)
    {g_RAW_LEAVES : Addr} {o_RAW_LEAVES : Obj} {i_RAW_LEAVES : Array Value} {n_RAW_LEAVES : Nat} (y_RAW_LEAVES : PySem.W.nsIn K mainGlobals "RAW_LEAVES" = some (some (.ref g_RAW_LEAVES))) (w_RAW_LEAVES : K.lookup g_RAW_LEAVES = some o_RAW_LEAVES) (x_RAW_LEAVES : o_RAW_LEAVES.cls = .type "tuple") (d_RAW_LEAVES : o_RAW_LEAVES.data = .seq i_RAW_LEAVES n_RAW_LEAVES) (e_RAW_LEAVES : i_RAW_LEAVES.size ≤ sizeLine) (v_RAW_LEAVES : Vals ((["num", "text", "agg", "mark"] : List Str).map V.str) i_RAW_LEAVES.toList)
    (z_abs : PySem.W.nsIn K mainGlobals "abs" = some none)
    (z_any : PySem.W.nsIn K mainGlobals "any" = some none)
    (z_bool : PySem.W.nsIn K mainGlobals "bool" = some none)
    (z_int : PySem.W.nsIn K mainGlobals "int" = some none)
    (z_isinstance : PySem.W.nsIn K mainGlobals "isinstance" = some none)
    (z_len : PySem.W.nsIn K mainGlobals "len" = some none)
    (z_list : PySem.W.nsIn K mainGlobals "list" = some none)
    (z_max : PySem.W.nsIn K mainGlobals "max" = some none)
    (z_min : PySem.W.nsIn K mainGlobals "min" = some none)
    (z_range : PySem.W.nsIn K mainGlobals "range" = some none)
    (z_str : PySem.W.nsIn K mainGlobals "str" = some none)
    (z_tuple : PySem.W.nsIn K mainGlobals "tuple" = some none)
    (z_zip : PySem.W.nsIn K mainGlobals "zip" = some none) :
    ∃ fd : FuncData, (∀ (s : Shared) (v : Value), BindsTo s fd ⟨[v], []⟩ [("_law_script", v)]) ∧ ∀ base : Heap, K.In base → base.Ns mainGlobals mg → FnOk l.prog w K mg base CX0 topLevel fa fd ["_law_script"] (spOf K spLaw) := by
  have e := hfa.symm.trans (PySem.W.mg_of X G a32)
  cases e
  have F0 := fun_mk (st := s_raw_columns) l0 c0 k0
  have b0 := F0.binds (ps := ["thing"]) fun _ _ _ _ _ _ us hl => match us, hl with | [_], _ => rfl
  have F1 := fun_mk (st := s_collect_raw_columns) l1 c1 k1
  have b1 := F1.binds (ps := ["thing", "met"]) fun _ _ _ _ _ _ us hl => match us, hl with | [_, _], _ => rfl
  have F2 := fun_mk (st := s_negated) l2 c2 k2
  have b2 := F2.binds (ps := ["t"]) fun _ _ _ _ _ _ us hl => match us, hl with | [_], _ => rfl
  have F3 := fun_mk (st := s_perhaps) l3 c3 k3
  have b3 := F3.binds (ps := ["t"]) fun _ _ _ _ _ _ us hl => match us, hl with | [_], _ => rfl
  have F4 := fun_mk (st := s_both) l4 c4 k4
  have b4 := F4.binds (ps := ["s", "t"]) fun _ _ _ _ _ _ us hl => match us, hl with | [_, _], _ => rfl
  have F5 := fun_mk (st := s_either) l5 c5 k5
  have b5 := F5.binds (ps := ["s", "t"]) fun _ _ _ _ _ _ us hl => match us, hl with | [_, _], _ => rfl
  have F6 := fun_mk (st := s_compared) l6 c6 k6
  have b6 := F6.binds (ps := ["op", "one", "other"]) fun _ _ _ _ _ _ us hl => match us, hl with | [_, _, _], _ => rfl
  have F7 := fun_mk (st := s_possible) l7 c7 k7
  have b7 := F7.binds (ps := ["cond", "unit"]) fun _ _ _ _ _ _ us hl => match us, hl with | [_, _], _ => rfl
  have F8 := fun_mk (st := s_never_on_nulls) l8 c8 k8
  have b8 := F8.binds (ps := ["cond", "unit"]) fun _ _ _ _ _ _ us hl => match us, hl with | [_, _], _ => rfl
  have F9 := fun_mk (st := s_reads_unit) l9 c9 k9
  have b9 := F9.binds (ps := ["thing", "unit"]) fun _ _ _ _ _ _ us hl => match us, hl with | [_, _], _ => rfl
  have F10 := fun_mk (st := s_truths_told) l10 c10 k10
  have b10 := F10.binds (ps := ["triple"]) fun _ _ _ _ _ _ us hl => match us, hl with | [_], _ => rfl
  have F11 := fun_mk (st := s_told_truths) l11 c11 k11
  have b11 := F11.binds (ps := ["truths"]) fun _ _ _ _ _ _ us hl => match us, hl with | [_], _ => rfl
  have F12 := fun_mk (st := s_mark_value) l12 c12 k12
  have b12 := F12.binds (ps := ["expr", "worth", "folds"]) fun _ _ _ _ _ _ us hl => match us, hl with | [_, _, _], _ => rfl
  have F13 := fun_mk (st := s_mark_truth) l13 c13 k13
  have b13 := F13.binds (ps := ["cond", "worth", "folds"]) fun _ _ _ _ _ _ us hl => match us, hl with | [_, _, _], _ => rfl
  have F14 := fun_mk (st := s_law_deck) l14 c14 k14
  have b14 := F14.binds (ps := ["_law_script"]) fun _ _ _ _ _ _ us hl => match us, hl with | [_], _ => rfl
  have F15 := fun_mk (st := s_law_pick) l15 c15 k15
  have b15 := F15.binds (ps := ["_law_deck_here", "_law_many"]) fun _ _ _ _ _ _ us hl => match us, hl with | [_, _], _ => rfl
  have F16 := fun_mk (st := s_law_number) l16 c16 k16
  have b16 := F16.binds (ps := ["_law_deck_here"]) fun _ _ _ _ _ _ us hl => match us, hl with | [_], _ => rfl
  have F17 := fun_mk (st := s_law_word) l17 c17 k17
  have b17 := F17.binds (ps := ["_law_deck_here"]) fun _ _ _ _ _ _ us hl => match us, hl with | [_], _ => rfl
  have F18 := fun_mk (st := s_law_part) l18 c18 k18
  have b18 := F18.binds (ps := ["_law_deck_here", "_law_text", "_law_cols"]) fun _ _ _ _ _ _ us hl => match us, hl with | [_, _, _], _ => rfl
  have F19 := fun_mk (st := s_law_expr) l19 c19 k19
  have b19 := F19.binds (ps := ["_law_deck_here", "_law_text", "_law_cols"]) fun _ _ _ _ _ _ us hl => match us, hl with | [_, _, _], _ => rfl
  have F20 := fun_mk (st := s_law_leaf) l20 c20 k20
  have b20 := F20.binds (ps := ["_law_deck_here"]) fun _ _ _ _ _ _ us hl => match us, hl with | [_], _ => rfl
  have F21 := fun_mk (st := s_law_joined) l21 c21 k21
  have b21 := F21.binds (ps := ["_law_deck_here", "_law_leaves"]) fun _ _ _ _ _ _ us hl => match us, hl with | [_, _], _ => rfl
  have F22 := fun_mk (st := s_law_level) l22 c22 k22
  have b22 := F22.binds (ps := ["_law_bone", "_law_levels"]) fun _ _ _ _ _ _ us hl => match us, hl with | [_, _], _ => rfl
  have F23 := fun_mk (st := s_law_told) l23 c23 k23
  have b23 := F23.binds (ps := ["_law_leaves", "_law_bone", "_law_which"]) fun _ _ _ _ _ _ us hl => match us, hl with | [_, _, _], _ => rfl
  have F24 := fun_mk (st := s_law_value) l24 c24 k24
  have b24 := F24.binds (ps := ["_law_term", "_law_cells"]) fun _ _ _ _ _ _ us hl => match us, hl with | [_, _], _ => rfl
  have F25 := fun_mk (st := s_law_leaf_level) l25 c25 k25
  have b25 := F25.binds (ps := ["_law_leaf_here", "_law_cells"]) fun _ _ _ _ _ _ us hl => match us, hl with | [_, _], _ => rfl
  have F26 := fun_mk (st := s_law_marked) l26 c26 k26
  have b26 := F26.binds (ps := ["_law_thing"]) fun _ _ _ _ _ _ us hl => match us, hl with | [_], _ => rfl
  have F27 := fun_mk (st := s_law_same) l27 c27 k27
  have b27 := F27.binds (ps := ["_law_actual", "_law_due"]) fun _ _ _ _ _ _ us hl => match us, hl with | [_, _], _ => rfl
  have F28 := fun_mk (st := s_law_truth_same) l28 c28 k28
  have b28 := F28.binds (ps := ["_law_actual", "_law_due"]) fun _ _ _ _ _ _ us hl => match us, hl with | [_, _], _ => rfl
  have F29 := fun_mk (st := s_law_values) l29 c29 k29
  have b29 := F29.binds (ps := ["_law_deck_here", "_law_which"]) fun _ _ _ _ _ _ us hl => match us, hl with | [_, _], _ => rfl
  have F30 := fun_mk (st := s_law_at_values) l30 c30 k30
  have b30 := F30.binds (ps := ["_law_test", "_law_bone", "_law_leaves", "_law_cells", "_law_told_here"]) fun _ _ _ _ _ _ us hl => match us, hl with | [_, _, _, _, _], _ => rfl
  have F31 := fun_mk (st := s_law_unit) l31 c31 k31
  have b31 := F31.binds (ps := ["_law_test", "_law_bone", "_law_leaves", "_law_which", "_law_cells"]) fun _ _ _ _ _ _ us hl => match us, hl with | [_, _, _, _, _], _ => rfl
  have F32 := fun_mk (st := s_law) l32 c32 k32
  have b32 := F32.binds (ps := ["_law_script"]) fun _ _ _ _ _ _ us hl => match us, hl with | [_], _ => rfl
  have Y : ∃ Y : Fs K mg, Y.a_law = fa ∧ Y.d_law = PySem.W.fnOf "law" "law" (defArgs s_law) (defBody s_law) (defScope s_law) .none kV32 dc32 pm32 an32 cd32 ct32 := ⟨{ a_raw_columns := _, d_raw_columns := _, F_raw_columns := F0, b_raw_columns := b0, m_raw_columns := PySem.W.mg_of X G a0, a_collect_raw_columns := _, d_collect_raw_columns := _, F_collect_raw_columns := F1, b_collect_raw_columns := b1, m_collect_raw_columns := PySem.W.mg_of X G a1, a_negated := _, d_negated := _, F_negated := F2, b_negated := b2, m_negated := PySem.W.mg_of X G a2, a_perhaps := _, d_perhaps := _, F_perhaps := F3, b_perhaps := b3, m_perhaps := PySem.W.mg_of X G a3, a_both := _, d_both := _, F_both := F4, b_both := b4, m_both := PySem.W.mg_of X G a4, a_either := _, d_either := _, F_either := F5, b_either := b5, m_either := PySem.W.mg_of X G a5, a_compared := _, d_compared := _, F_compared := F6, b_compared := b6, m_compared := PySem.W.mg_of X G a6, a_possible := _, d_possible := _, F_possible := F7, b_possible := b7, m_possible := PySem.W.mg_of X G a7, a_never_on_nulls := _, d_never_on_nulls := _, F_never_on_nulls := F8, b_never_on_nulls := b8, m_never_on_nulls := PySem.W.mg_of X G a8, a_reads_unit := _, d_reads_unit := _, F_reads_unit := F9, b_reads_unit := b9, m_reads_unit := PySem.W.mg_of X G a9, a_truths_told := _, d_truths_told := _, F_truths_told := F10, b_truths_told := b10, m_truths_told := PySem.W.mg_of X G a10, a_told_truths := _, d_told_truths := _, F_told_truths := F11, b_told_truths := b11, m_told_truths := PySem.W.mg_of X G a11, a_mark_value := _, d_mark_value := _, F_mark_value := F12, b_mark_value := b12, m_mark_value := PySem.W.mg_of X G a12, a_mark_truth := _, d_mark_truth := _, F_mark_truth := F13, b_mark_truth := b13, m_mark_truth := PySem.W.mg_of X G a13, a_law_deck := _, d_law_deck := _, F_law_deck := F14, b_law_deck := b14, m_law_deck := PySem.W.mg_of X G a14, a_law_pick := _, d_law_pick := _, F_law_pick := F15, b_law_pick := b15, m_law_pick := PySem.W.mg_of X G a15, a_law_number := _, d_law_number := _, F_law_number := F16, b_law_number := b16, m_law_number := PySem.W.mg_of X G a16, a_law_word := _, d_law_word := _, F_law_word := F17, b_law_word := b17, m_law_word := PySem.W.mg_of X G a17, a_law_part := _, d_law_part := _, F_law_part := F18, b_law_part := b18, m_law_part := PySem.W.mg_of X G a18, a_law_expr := _, d_law_expr := _, F_law_expr := F19, b_law_expr := b19, m_law_expr := PySem.W.mg_of X G a19, a_law_leaf := _, d_law_leaf := _, F_law_leaf := F20, b_law_leaf := b20, m_law_leaf := PySem.W.mg_of X G a20, a_law_joined := _, d_law_joined := _, F_law_joined := F21, b_law_joined := b21, m_law_joined := PySem.W.mg_of X G a21, a_law_level := _, d_law_level := _, F_law_level := F22, b_law_level := b22, m_law_level := PySem.W.mg_of X G a22, a_law_told := _, d_law_told := _, F_law_told := F23, b_law_told := b23, m_law_told := PySem.W.mg_of X G a23, a_law_value := _, d_law_value := _, F_law_value := F24, b_law_value := b24, m_law_value := PySem.W.mg_of X G a24, a_law_leaf_level := _, d_law_leaf_level := _, F_law_leaf_level := F25, b_law_leaf_level := b25, m_law_leaf_level := PySem.W.mg_of X G a25, a_law_marked := _, d_law_marked := _, F_law_marked := F26, b_law_marked := b26, m_law_marked := PySem.W.mg_of X G a26, a_law_same := _, d_law_same := _, F_law_same := F27, b_law_same := b27, m_law_same := PySem.W.mg_of X G a27, a_law_truth_same := _, d_law_truth_same := _, F_law_truth_same := F28, b_law_truth_same := b28, m_law_truth_same := PySem.W.mg_of X G a28, a_law_values := _, d_law_values := _, F_law_values := F29, b_law_values := b29, m_law_values := PySem.W.mg_of X G a29, a_law_at_values := _, d_law_at_values := _, F_law_at_values := F30, b_law_at_values := b30, m_law_at_values := PySem.W.mg_of X G a30, a_law_unit := _, d_law_unit := _, F_law_unit := F31, b_law_unit := b31, m_law_unit := PySem.W.mg_of X G a31, a_law := _, d_law := _, F_law := F32, b_law := b32, m_law := PySem.W.mg_of X G a32 }, rfl, rfl⟩
  obtain ⟨Y, ya, yd⟩ := Y
  have T : Bt K mg := ⟨PySem.W.mg_none_of X G z_abs, PySem.W.mg_none_of X G z_any, PySem.W.mg_none_of X G z_bool, PySem.W.mg_none_of X G z_int, PySem.W.mg_none_of X G z_isinstance, PySem.W.mg_none_of X G z_len, PySem.W.mg_none_of X G z_list, PySem.W.mg_none_of X G z_max, PySem.W.mg_none_of X G z_min, PySem.W.mg_none_of X G z_range, PySem.W.mg_none_of X G z_str, PySem.W.mg_none_of X G z_tuple, PySem.W.mg_none_of X G z_zip, cst_texts _ (PySem.W.mg_of X G y_RAW_LEAVES) w_RAW_LEAVES x_RAW_LEAVES d_RAW_LEAVES e_RAW_LEAVES v_RAW_LEAVES⟩
  refine ⟨PySem.W.fnOf "law" "law" (defArgs s_law) (defBody s_law) (defScope s_law) .none kV32 dc32 pm32 an32 cd32 ct32, fun s v => .of_eq rfl, fun base _ _ => ?_⟩
  rw [← ya, ← yd]
  exact chain Y T
end K35
open PySem PySem.W PyProof.Rows
set_option maxRecDepth 100000 in
set_option maxHeartbeats 0 in
theorem PySem.Challenge.cw_leastplans_k35_possible_truths_holds : PySem.Challenge.rw_leastplans_k35_possible_truths.Holds := by
  w_on; o_law; k_head; (case hw => w_witness2)
  k_fill
  refine L2.walk_ofK (l := PySem.Challenge.rw_leastplans_k35_possible_truths) (n := 63) (k := K35.topLevel) (x := "_law_script") (CX := L2.CX0) (sp := fun K => DL.spOf K DL.spLaw) rfl (by decide) rfl ⟨rfl, by decide, by decide⟩ (fun w h Y => PySem.W.kIn_of Y) ?F (fun _ _ a ns hl _ hS => DL.law_ask hl hS) (fun _ _ _ _ h => h)
  case F =>
    intro w mg fa h KX G hmg
    refine' K35.all_mk KX G hmg ?a0 ?l0 ?c0 ?k0 ?a1 ?l1 ?c1 ?k1 ?a2 ?l2 ?c2 ?k2 ?a3 ?l3 ?c3 ?k3 ?a4 ?l4 ?c4 ?k4 ?a5 ?l5 ?c5 ?k5 ?a6 ?l6 ?c6 ?k6 ?a7 ?l7 ?c7 ?k7 ?a8 ?l8 ?c8 ?k8 ?a9 ?l9 ?c9 ?k9 ?a10 ?l10 ?c10 ?k10 ?a11 ?l11 ?c11 ?k11 ?a12 ?l12 ?c12 ?k12 ?a13 ?l13 ?c13 ?k13 ?a14 ?l14 ?c14 ?k14 ?a15 ?l15 ?c15 ?k15 ?a16 ?l16 ?c16 ?k16 ?a17 ?l17 ?c17 ?k17 ?a18 ?l18 ?c18 ?k18 ?a19 ?l19 ?c19 ?k19 ?a20 ?l20 ?c20 ?k20 ?a21 ?l21 ?c21 ?k21 ?a22 ?l22 ?c22 ?k22 ?a23 ?l23 ?c23 ?k23 ?a24 ?l24 ?c24 ?k24 ?a25 ?l25 ?c25 ?k25 ?a26 ?l26 ?c26 ?k26 ?a27 ?l27 ?c27 ?k27 ?a28 ?l28 ?c28 ?k28 ?a29 ?l29 ?c29 ?k29 ?a30 ?l30 ?c30 ?k30 ?a31 ?l31 ?c31 ?k31 ?a32 ?l32 ?c32 ?k32 ?y_RAW_LEAVES ?w_RAW_LEAVES ?x_RAW_LEAVES ?d_RAW_LEAVES ?e_RAW_LEAVES ?v_RAW_LEAVES ?z_abs ?z_any ?z_bool ?z_int ?z_isinstance ?z_len ?z_list ?z_max ?z_min ?z_range ?z_str ?z_tuple ?z_zip
    (case a0 => k_is); (case l0 => k_is); (case c0 => k_is); (case k0 => k_is)
    (case a1 => k_is); (case l1 => k_is); (case c1 => k_is); (case k1 => k_is)
    (case a2 => k_is); (case l2 => k_is); (case c2 => k_is); (case k2 => k_is)
    (case a3 => k_is); (case l3 => k_is); (case c3 => k_is); (case k3 => k_is)
    (case a4 => k_is); (case l4 => k_is); (case c4 => k_is); (case k4 => k_is)
    (case a5 => k_is); (case l5 => k_is); (case c5 => k_is); (case k5 => k_is)
    (case a6 => k_is); (case l6 => k_is); (case c6 => k_is); (case k6 => k_is)
    (case a7 => k_is); (case l7 => k_is); (case c7 => k_is); (case k7 => k_is)
    (case a8 => k_is); (case l8 => k_is); (case c8 => k_is); (case k8 => k_is)
    (case a9 => k_is); (case l9 => k_is); (case c9 => k_is); (case k9 => k_is)
    (case a10 => k_is); (case l10 => k_is); (case c10 => k_is); (case k10 => k_is)
    (case a11 => k_is); (case l11 => k_is); (case c11 => k_is); (case k11 => k_is)
    (case a12 => k_is); (case l12 => k_is); (case c12 => k_is); (case k12 => k_is)
    (case a13 => k_is); (case l13 => k_is); (case c13 => k_is); (case k13 => k_is)
    (case a14 => k_is); (case l14 => k_is); (case c14 => k_is); (case k14 => k_is)
    (case a15 => k_is); (case l15 => k_is); (case c15 => k_is); (case k15 => k_is)
    (case a16 => k_is); (case l16 => k_is); (case c16 => k_is); (case k16 => k_is)
    (case a17 => k_is); (case l17 => k_is); (case c17 => k_is); (case k17 => k_is)
    (case a18 => k_is); (case l18 => k_is); (case c18 => k_is); (case k18 => k_is)
    (case a19 => k_is); (case l19 => k_is); (case c19 => k_is); (case k19 => k_is)
    (case a20 => k_is); (case l20 => k_is); (case c20 => k_is); (case k20 => k_is)
    (case a21 => k_is); (case l21 => k_is); (case c21 => k_is); (case k21 => k_is)
    (case a22 => k_is); (case l22 => k_is); (case c22 => k_is); (case k22 => k_is)
    (case a23 => k_is); (case l23 => k_is); (case c23 => k_is); (case k23 => k_is)
    (case a24 => k_is); (case l24 => k_is); (case c24 => k_is); (case k24 => k_is)
    (case a25 => k_is); (case l25 => k_is); (case c25 => k_is); (case k25 => k_is)
    (case a26 => k_is); (case l26 => k_is); (case c26 => k_is); (case k26 => k_is)
    (case a27 => k_is); (case l27 => k_is); (case c27 => k_is); (case k27 => k_is)
    (case a28 => k_is); (case l28 => k_is); (case c28 => k_is); (case k28 => k_is)
    (case a29 => k_is); (case l29 => k_is); (case c29 => k_is); (case k29 => k_is)
    (case a30 => k_is); (case l30 => k_is); (case c30 => k_is); (case k30 => k_is)
    (case a31 => k_is); (case l31 => k_is); (case c31 => k_is); (case k31 => k_is)
    (case a32 => k_is); (case l32 => k_is); (case c32 => k_is); (case k32 => k_is)
    (case z_abs => k_is); (case z_any => k_is); (case z_bool => k_is); (case z_int => k_is); (case z_isinstance => k_is); (case z_len => k_is); (case z_list => k_is); (case z_max => k_is); (case z_min => k_is); (case z_range => k_is); (case z_str => k_is); (case z_tuple => k_is); (case z_zip => k_is)
    (case y_RAW_LEAVES => k_is); (case w_RAW_LEAVES => k_is); (case x_RAW_LEAVES => rfl); (case d_RAW_LEAVES => rfl); (case e_RAW_LEAVES => decide); (case v_RAW_LEAVES => exact (.cons ⟨_, rfl⟩ (.cons ⟨_, rfl⟩ (.cons ⟨_, rfl⟩ (.cons ⟨_, rfl⟩ .nil)))))
