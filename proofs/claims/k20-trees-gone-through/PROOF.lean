import PyProof.Rows.All
import Wide.All
import OpenK.AllK
import Wide.FinOn
import HandS.ForMost
import KE.DataCmp
import KE.DataEq
import KE.DataMinMax
import KE.SortData
import HandS.IsInst
import HandS.Style
import HandS.Wide
import HandS.TupAny
import HandS.ForExc
import HandS.CallSlots
import HandS.SortKw
import HandS.Zip
import KE.KDictKeyed
import HandS.Conv
import KE.KDictWalk
import KE.GoesEnum
import HandS.Steps
import HandS.More
import KE.KDictPairs
import KE.KRevIter
import PyProof.CollectIter
import KE.KRevSl
import PySem.Challenge.RW_leastplans_k20_trees_gone_through
set_option Elab.async false
set_option linter.all false
set_option maxRecDepth 100000
set_option maxHeartbeats 4000000
namespace EL
open PySem PySem.Spec PyProof.Rows L2
abbrev D := PyData
abbrev Foot := Addr → Prop
def Ex (H H' : Hp) : Prop := ∀ a o, H a = some o → H' a = some o
theorem Ex.refl (H : Hp) : Ex H H := fun _ _ h => h
theorem Ex.trans {H H1 H2 : Hp} (a : Ex H H1) (b : Ex H1 H2) : Ex H H2 := fun x o h => b x o (a x o h)
theorem Ex.new {H : Hp} {p : Addr} {o : HO} (h : H p = none) : Ex H (upd H p o) := fun a u e => by
  rw [upd_ne (ne_of_none e h)]
  exact e
theorem Ex.none {H H' : Hp} (e : Ex H H') {p : Addr} (h : H' p = none) : H p = none := by
  cases h1 : H p with
  | none => rfl
  | some o =>
    rw [e p o h1] at h
    cases h
theorem Ex.rd {H H' : Hp} {a : Addr} {u : HO} (e : Ex H H') (h : Rd H a u) : Rd H' a u := by
  rcases h with h | ⟨o, h⟩
  · exact Or.inl (e a _ h)
  · exact Or.inr ⟨o, e a _ h⟩
theorem Ex.sl {K : PySem.W.Frag} {H H' : Hp} {a : Addr} {xs : List V} (e : Ex H H') (h : SqL K H a xs) : SqL K H' a xs := by
  rcases h with h | h
  · exact Or.inl (e.rd h)
  · exact Or.inr h
theorem Ex.st {K : PySem.W.Frag} {H H' : Hp} {a : Addr} {xs : List V} (e : Ex H H') (h : SqT K H a xs) : SqT K H' a xs := by
  rcases h with h | h
  · exact Or.inl (e.rd h)
  · exact Or.inr h
mutual
theorem dp_mono {K : PySem.W.Frag} {H H' : Hp} (e : Ex H H') : ∀ {v : V} {d : D}, Dp K H v d → Dp K H' v d
  | _, _, .non => .non
  | _, _, .bl b => .bl b
  | _, _, .int i => .int i
  | _, _, .str x => .str x
  | _, _, .lst h a => .lst (e.sl h) (dpAll_mono e a)
  | _, _, .tup h a => .tup (e.st h) (dpAll_mono e a)
theorem dpAll_mono {K : PySem.W.Frag} {H H' : Hp} (e : Ex H H') : ∀ {vs : List V} {ds : List D}, DpAll K H vs ds → DpAll K H' vs ds
  | _, _, .nil => .nil
  | _, _, .cons h t => .cons (dp_mono e h) (dpAll_mono e t)
end
theorem dpAll_len {K : PySem.W.Frag} {H : Hp} : ∀ {vs : List V} {ds : List D}, DpAll K H vs ds → vs.length = ds.length
  | _, _, .nil => rfl
  | _, _, .cons _ t => congrArg (· + 1) (dpAll_len t)
theorem dpAll_get {K : PySem.W.Frag} {H : Hp} : ∀ {vs : List V} {ds : List D} {i : Nat} {d : D}, DpAll K H vs ds → ds[i]? = some d → ∃ v, vs[i]? = some v ∧ Dp K H v d
  | _, _, _, _, .nil, h => by simp at h
  | _, _, 0, _, .cons r _, h => by
    simp at h
    subst h
    exact ⟨_, rfl, r⟩
  | _, _, i + 1, _, .cons _ t, h => by
    obtain ⟨v, e, r⟩ := dpAll_get (i := i) t (by simpa using h)
    exact ⟨v, by simpa using e, r⟩
theorem dpAll_app {K : PySem.W.Frag} {H : Hp} : ∀ {vs ws : List V} {ds es : List D}, DpAll K H vs ds → DpAll K H ws es → DpAll K H (vs ++ ws) (ds ++ es)
  | _, _, _, _, .nil, h => h
  | _, _, _, _, .cons r t, h => .cons r (dpAll_app t h)
theorem dpAll_take {K : PySem.W.Frag} {H : Hp} : ∀ (n : Nat) {vs : List V} {ds : List D}, DpAll K H vs ds → DpAll K H (vs.take n) (ds.take n)
  | 0, _, _, _ => .nil
  | _ + 1, _, _, .nil => .nil
  | n + 1, _, _, .cons r t => .cons r (dpAll_take n t)
theorem dpAll_drop {K : PySem.W.Frag} {H : Hp} : ∀ (n : Nat) {vs : List V} {ds : List D}, DpAll K H vs ds → DpAll K H (vs.drop n) (ds.drop n)
  | 0, _, _, h => h
  | _ + 1, _, _, .nil => .nil
  | n + 1, _, _, .cons _ t => dpAll_drop n t
theorem dpAll_rev {K : PySem.W.Frag} {H : Hp} : ∀ {vs : List V} {ds : List D}, DpAll K H vs ds → DpAll K H vs.reverse ds.reverse
  | _, _, .nil => .nil
  | _, _, .cons r t => by
    rw [List.reverse_cons, List.reverse_cons]
    exact dpAll_app (dpAll_rev t) (.cons r .nil)
theorem dpAll_set {K : PySem.W.Frag} {H : Hp} {v : V} {d : D} (r : Dp K H v d) : ∀ (n : Nat) {vs : List V} {ds : List D}, DpAll K H vs ds → DpAll K H (vs.set n v) (ds.set n d)
  | _, _, _, .nil => .nil
  | 0, _, _, .cons _ t => .cons r t
  | n + 1, _, _, .cons q t => .cons q (dpAll_set r n t)
theorem dpAll_mem {K : PySem.W.Frag} {H : Hp} {vs : List V} {ds : List D} (h : DpAll K H vs ds) {v : V} (hv : v ∈ vs) : ∃ d, d ∈ ds ∧ Dp K H v d := by
  induction vs generalizing ds with
  | nil => simp at hv
  | cons x xs ih =>
    cases h with
    | cons r t =>
      rcases List.mem_cons.mp hv with rfl | hv
      · exact ⟨_, List.mem_cons_self, r⟩
      · obtain ⟨d, h1, h2⟩ := ih t hv
        exact ⟨d, List.mem_cons_of_mem _ h1, h2⟩
def NewT (B : Hp) (b : Addr) : Prop := B b = none ∨ ∃ xs, B b = some (.tup xs)
theorem NewT.back {B B' : Hp} (e : Ex B B') {b : Addr} (h : NewT B' b) : NewT B b := by
  rcases h with h | ⟨xs, h⟩
  · exact .inl (e.none h)
  · cases h2 : B b with
    | none => exact .inl h2
    | some o =>
      have := e b o h2
      rw [h] at this
      cases this
      exact .inr ⟨xs, h2⟩
structure OD where
  rep : PySem.W.Frag → Hp → Hp → Addr → Foot → Prop
  nt : ∀ {K : PySem.W.Frag} {Hs H : Hp} {p : Addr} {fp : Foot}, rep K Hs H p fp → ∀ b xs, fp b → H b ≠ some (.tup xs)
  mono : ∀ {K : PySem.W.Frag} {Hs H : Hp} {p : Addr} {fp : Foot} {Hs' H' : Hp}, rep K Hs H p fp → Ex Hs Hs' → (∀ b o, fp b → H b = some o → H' b = some o) → rep K Hs' H' p fp
def OD.lst (xs : List D) : OD where
  rep := fun K Hs H p fp => (∀ b, fp b ↔ b = p) ∧ ∃ vs, H p = some (.lst vs) ∧ DpAll K Hs vs xs
  nt := fun ⟨h1, vs, h2, _⟩ b xs hb z => by
    rw [(h1 b).mp hb, h2] at z
    cases z
  mono := fun ⟨h1, vs, h2, h3⟩ e k => ⟨h1, vs, k _ _ ((h1 _).mpr rfl) h2, dpAll_mono e h3⟩
structure AP where
  P : PySem.W.Frag → Hp → HO → Prop
  nt : ∀ {K : PySem.W.Frag} {Hs : Hp} {o : HO}, P K Hs o → ∀ xs, o ≠ .tup xs
  mono : ∀ {K : PySem.W.Frag} {Hs Hs' : Hp} {o : HO}, P K Hs o → Ex Hs Hs' → P K Hs' o
def OD.one (a : AP) : OD where
  rep := fun K Hs H p fp => (∀ b, fp b ↔ b = p) ∧ ∃ o, H p = some o ∧ a.P K Hs o
  nt := fun ⟨h1, o, h2, h3⟩ b xs hb z => by
    rw [(h1 b).mp hb, h2] at z
    exact a.nt h3 xs (Option.some.inj z)
  mono := fun ⟨h1, o, h2, h3⟩ e k => ⟨h1, o, k _ _ ((h1 _).mpr rfl) h2, a.mono h3 e⟩
inductive SD where
  | un
  | dt (d : D)
  | ow (p : Addr) (o : OD)
abbrev Dl := List SD
def SRep (K : PySem.W.Frag) (B Hs H : Hp) (fp : Foot) : Option V → SD → Prop
  | _, .un => ∀ b, ¬ fp b
  | some v, .dt d => Dp K Hs v d ∧ ∀ b, ¬ fp b
  | some v, .ow p o => (v = .ref p ∧ o.rep K Hs H p fp) ∧ ∀ b, fp b → Hs b = none ∧ B b = none ∧ H b ≠ none
  | none, .dt _ => False
  | none, .ow _ _ => False
structure Fps (K : PySem.W.Frag) (B Hs H : Hp) (σ : List (Option V)) (δ : Dl) (fps : Nat → Foot) : Prop where
  sl : ∀ i s, δ[i]? = some s → ∃ x, σ[i]? = some x ∧ SRep K B Hs H (fps i) x s
  out : ∀ i, δ.length ≤ i → ∀ b, ¬ fps i b
  dj : ∀ i j b, fps i b → fps j b → i = j
structure Rep (K : PySem.W.Frag) (B H0 : Hp) (σ : L2.St) (δ : Dl) (H Hs : Hp) : Prop where
  len : σ.length = δ.length
  ex : Ex Hs H
  base : Ex B H
  frz : Ex H0 Hs
  frs : ∀ b, Hs b ≠ none → H0 b = none → NewT B b
  sl : ∃ fps, Fps K B Hs H σ δ fps
structure PExt (Hs H Hs' H' : Hp) : Prop where
  s : Ex Hs Hs'
  h : Ex H H'
  i : Ex Hs' H'
  n : ∀ b, Hs' b ≠ none → Hs b = none → NewT H b
theorem PExt.refl {Hs H : Hp} (e : Ex Hs H) : PExt Hs H Hs H := ⟨Ex.refl _, Ex.refl _, e, fun _ h1 h2 => absurd h2 h1⟩
theorem PExt.trans {Hs H Hs1 H1 Hs2 H2 : Hp} (a : PExt Hs H Hs1 H1) (b : PExt Hs1 H1 Hs2 H2) : PExt Hs H Hs2 H2 where
  s := a.s.trans b.s
  h := a.h.trans b.h
  i := b.i
  n := fun x h1 h2 => by
    cases h3 : Hs1 x with
    | none => exact (b.n x h1 h3).back a.h
    | some o => exact a.n x (by rw [h3]; exact fun z => nomatch z) h2
theorem PExt.new {Hs H : Hp} (e : Ex Hs H) {p : Addr} (o : HO) (h : H p = none) : PExt Hs H (upd Hs p o) (upd H p o) where
  s := Ex.new (e.none h)
  h := Ex.new h
  i := fun a u q => by
    by_cases ha : a = p
    · subst ha
      rw [upd_same] at q ⊢
      exact q
    · rw [upd_ne ha] at q ⊢
      exact e a u q
  n := fun b h1 h2 => by
    by_cases ha : b = p
    · subst ha
      exact .inl h
    · rw [upd_ne ha] at h1
      exact absurd h2 h1
theorem PExt.raw {Hs H : Hp} (e : Ex Hs H) {p : Addr} (o : HO) (h : H p = none) : PExt Hs H Hs (upd H p o) where
  s := Ex.refl _
  h := Ex.new h
  i := e.trans (Ex.new h)
  n := fun b h1 h2 => absurd h2 h1
section
variable {K : PySem.W.Frag} {B H0 Hs H Hs' H' : Hp} {σ : L2.St} {δ : Dl} {fp : Foot} {x : Option V} {s : SD}
theorem SRep.mono (h : SRep K B Hs H fp x s) (e : Ex Hs Hs') (k : ∀ b o, fp b → H b = some o → H' b = some o) (n : ∀ b, fp b → H b ≠ none → (∀ xs, H b ≠ some (.tup xs)) → Hs b = none → B b = none → Hs' b = none) : SRep K B Hs' H' fp x s := by
  cases s with
  | un => exact h
  | dt d =>
    cases x with
    | none => exact h
    | some v => exact ⟨dp_mono e h.1, h.2⟩
  | ow p o =>
    cases x with
    | none => exact h
    | some v =>
      obtain ⟨⟨e1, r⟩, q⟩ := h
      refine ⟨⟨e1, o.mono r e k⟩, fun b hb => ?_⟩
      obtain ⟨q1, q2, q3⟩ := q b hb
      refine ⟨n b hb q3 (fun xs => o.nt r b xs hb) q1 q2, q2, fun z => ?_⟩
      cases h1 : H b with
      | none => exact q3 h1
      | some o =>
        rw [k b o hb h1] at z
        cases z
theorem Rep.ext (R : Rep K B H0 σ δ H Hs) (e : PExt Hs H Hs' H') : Rep K B H0 σ δ H' Hs' where
  len := R.len
  ex := e.i
  base := R.base.trans e.h
  frz := R.frz.trans e.s
  frs := fun b h1 h2 => by
    cases h3 : Hs b with
    | none => exact (e.n b h1 h3).back R.base
    | some o => exact R.frs b (by rw [h3]; exact fun z => nomatch z) h2
  sl := by
    obtain ⟨fps, F⟩ := R.sl
    refine ⟨fps, fun i s hs => ?_, F.out, F.dj⟩
    obtain ⟨x, e1, r⟩ := F.sl i s hs
    refine ⟨x, e1, r.mono e.s (fun b o _ h => e.h b o h) fun b _ h1 hn h2 h3 => ?_⟩
    cases h4 : Hs' b with
    | none => rfl
    | some o =>
      rcases e.n b (by rw [h4]; exact fun z => nomatch z) h2 with z | ⟨xs, z⟩
      · exact absurd z h1
      · exact absurd z (hn xs)
theorem Rep.get (R : Rep K B H0 σ δ H Hs) {i : Nat} {d : D} (h : δ[i]? = some (.dt d)) : ∃ v, σ[i]? = some (some v) ∧ Dp K Hs v d := by
  obtain ⟨fps, F⟩ := R.sl
  obtain ⟨x, e, r⟩ := F.sl i _ h
  cases x with
  | none => exact r.elim
  | some v => exact ⟨v, e, r.1⟩
theorem Rep.set (R : Rep K B H0 σ δ H Hs) {v : V} {d : D} (r : Dp K Hs v d) (i : Nat) : Rep K B H0 (σ.set i (some v)) (δ.set i (.dt d)) H Hs where
  len := by rw [List.length_set, List.length_set, R.len]
  ex := R.ex
  base := R.base
  frz := R.frz
  frs := R.frs
  sl := by
    obtain ⟨fps, F⟩ := R.sl
    refine ⟨fun j b => j ≠ i ∧ fps j b, fun j s hs => ?_, fun j hj b hb => F.out j (by rw [List.length_set] at hj; exact hj) b hb.2, fun j k b h1 h2 => F.dj j k b h1.2 h2.2⟩
    by_cases hj : i = j
    · subst hj
      have hl : i < δ.length := by
        have := (List.getElem?_eq_some_iff.mp hs).1
        rw [List.length_set] at this
        exact this
      rw [List.getElem?_set_self hl] at hs
      cases hs
      exact ⟨some v, List.getElem?_set_self (by rw [R.len]; exact hl), r, fun b hb => hb.1 rfl⟩
    · rw [List.getElem?_set_ne hj] at hs
      obtain ⟨x, e, q⟩ := F.sl j s hs
      refine ⟨x, by rw [List.getElem?_set_ne hj]; exact e, ?_⟩
      have : (fun b => j ≠ i ∧ fps j b) = fps j := funext fun b => propext ⟨fun z => z.2, fun z => ⟨fun z => hj z.symm, z⟩⟩
      rw [this]
      exact q
theorem Rep.setO (R : Rep K B H0 σ δ H Hs) {fps : Nat → Foot} (F : Fps K B Hs H σ δ fps) {p : Addr} {o : OD} {fp : Foot} {i : Nat} (r : o.rep K Hs H p fp) (hf : ∀ b, fp b → Hs b = none ∧ B b = none ∧ H b ≠ none) (hd : ∀ j b, j ≠ i → fps j b → ¬ fp b) (hi : i < δ.length) :
    Rep K B H0 (σ.set i (some (.ref p))) (δ.set i (.ow p o)) H Hs where
  len := by rw [List.length_set, List.length_set, R.len]
  ex := R.ex
  base := R.base
  frz := R.frz
  frs := R.frs
  sl := by
    refine ⟨fun j => if j = i then fp else fps j, fun j s hs => ?_, fun j hj b hb => ?_, fun j k b h1 h2 => ?_⟩
    · by_cases hj : i = j
      · subst hj
        rw [List.getElem?_set_self hi] at hs
        cases hs
        rw [if_pos rfl]
        exact ⟨some (.ref p), List.getElem?_set_self (by rw [R.len]; exact hi), ⟨rfl, r⟩, hf⟩
      · rw [List.getElem?_set_ne hj] at hs
        obtain ⟨x, e, q⟩ := F.sl j s hs
        rw [if_neg (fun z => hj z.symm)]
        exact ⟨x, by rw [List.getElem?_set_ne hj]; exact e, q⟩
    · rw [List.length_set] at hj
      have : j ≠ i := by omega
      simp only [if_neg this] at hb
      exact F.out j hj b hb
    · by_cases e1 : j = i
      · by_cases e2 : k = i
        · rw [e1, e2]
        · simp only [if_pos e1] at h1
          simp only [if_neg e2] at h2
          exact absurd h1 (hd k b e2 h2)
      · by_cases e2 : k = i
        · simp only [if_neg e1] at h1
          simp only [if_pos e2] at h2
          exact absurd h2 (hd j b e1 h1)
        · simp only [if_neg e1] at h1
          simp only [if_neg e2] at h2
          exact F.dj j k b h1 h2
end
end EL
namespace EL
open PySem PySem.Spec PyProof.Rows L2
section
variable {K : PySem.W.Frag} {B H0 Hs H : Hp} {σ : L2.St} {δ : Dl} {p : Addr} {o o' : HO}
theorem Rep.hs_none (R : Rep K (upd B p o) H0 σ δ H Hs) (h0 : H0 p = none) (no : ∀ xs, o ≠ .tup xs := by intro _ z; cases z) : Hs p = none := by
  cases h : Hs p with
  | none => rfl
  | some u =>
    rcases R.frs p (by rw [h]; exact fun z => nomatch z) h0 with z | ⟨xs, z⟩
    · rw [upd_same] at z
      cases z
    · rw [upd_same] at z
      exact absurd (Option.some.inj z) (no xs)
theorem Rep.at_p (R : Rep K (upd B p o) H0 σ δ H Hs) : H p = some o := R.base p o upd_same
theorem Fps.not_p {fps : Nat → Foot} (F : Fps K (upd B p o) Hs H σ δ fps) (i : Nat) : ¬ fps i p := fun hb => by
  by_cases hi : i < δ.length
  · obtain ⟨x, e, r⟩ := F.sl i δ[i] (List.getElem?_eq_getElem hi)
    cases hs : δ[i] with
    | un =>
      rw [hs] at r
      exact r p hb
    | dt d =>
      rw [hs] at r
      cases x with
      | none => exact r
      | some v => exact r.2 p hb
    | ow a0 q =>
      rw [hs] at r
      cases x with
      | none => exact r
      | some v =>
        have z := (r.2 p hb).2.1
        rw [upd_same] at z
        cases z
  · exact F.out i (by omega) p hb
theorem ex_upd_B (h : B p = none) : Ex B (upd B p o) := Ex.new h
theorem SRep.base {B' : Hp} {fp : Foot} {x : Option V} {s : SD} (h : SRep K B Hs H fp x s) (e : Ex B' B) : SRep K B' Hs H fp x s := by
  cases s with
  | un => exact h
  | dt d =>
    cases x with
    | none => exact h
    | some v => exact h
  | ow a0 q =>
    cases x with
    | none => exact h
    | some v => exact ⟨h.1, fun b hb => ⟨(h.2 b hb).1, e.none (h.2 b hb).2.1, (h.2 b hb).2.2⟩⟩
theorem Rep.weaken {B' : Hp} (R : Rep K B H0 σ δ H Hs) (e : Ex B' B) : Rep K B' H0 σ δ H Hs where
  len := R.len
  ex := R.ex
  base := e.trans R.base
  frz := R.frz
  frs := fun b h1 h2 => (R.frs b h1 h2).back e
  sl := by
    obtain ⟨fps, F⟩ := R.sl
    exact ⟨fps, fun i s hs => by
      obtain ⟨x, e1, r⟩ := F.sl i s hs
      exact ⟨x, e1, r.base e⟩, F.out, F.dj⟩
theorem Rep.hide (R : Rep K B H0 σ δ H Hs) (hp : H p = none) : Rep K (upd B p o) H0 σ δ (upd H p o) Hs where
  len := R.len
  ex := R.ex.trans (Ex.new hp)
  base := fun a u q => by
    by_cases ha : a = p
    · subst ha
      rw [upd_same] at q ⊢
      exact q
    · rw [upd_ne ha] at q ⊢
      exact R.base a u q
  frz := R.frz
  frs := fun b h1 h2 => by
    have hb : b ≠ p := fun z => by
      subst z
      exact h1 (R.ex.none hp)
    unfold NewT
    rw [upd_ne hb]
    exact R.frs b h1 h2
  sl := by
    obtain ⟨fps, F⟩ := R.sl
    refine ⟨fps, fun i s hs => ?_, F.out, F.dj⟩
    obtain ⟨x, e1, r⟩ := F.sl i s hs
    refine ⟨x, e1, ?_⟩
    cases s with
    | un => exact r
    | dt d =>
      cases x with
      | none => exact r
      | some v => exact r
    | ow a0 q =>
      cases x with
      | none => exact r
      | some v =>
        obtain ⟨⟨e2, z⟩, w⟩ := r
        have np : ∀ b, fps i b → b ≠ p := fun b hb z => by
          subst z
          exact (w b hb).2.2 hp
        refine ⟨⟨e2, q.mono z (Ex.refl _) fun b u hb hu => ?_⟩, fun b hb => ?_⟩
        · rw [upd_ne (np b hb)]
          exact hu
        · rw [upd_ne (np b hb), upd_ne (np b hb)]
          exact w b hb
theorem Rep.hset (R : Rep K (upd B p o) H0 σ δ H Hs) (h0 : H0 p = none) (no : ∀ xs, o ≠ .tup xs := by intro _ z; cases z) : Rep K (upd B p o') H0 σ δ (upd H p o') Hs where
  len := R.len
  ex := fun a u q => by
    have ha : a ≠ p := fun z => by
      subst z
      rw [R.hs_none h0 no] at q
      cases q
    rw [upd_ne ha]
    exact R.ex a u q
  base := fun a u q => by
    by_cases ha : a = p
    · subst ha
      rw [upd_same] at q ⊢
      exact q
    · rw [upd_ne ha] at q ⊢
      exact R.base a u (by rw [upd_ne ha]; exact q)
  frz := R.frz
  frs := fun b h1 h2 => by
    have z := R.frs b h1 h2
    have hb : b ≠ p := fun w => by
      subst w
      rcases z with z | ⟨xs, z⟩
      · rw [upd_same] at z
        cases z
      · rw [upd_same] at z
        exact absurd (Option.some.inj z) (no xs)
    unfold NewT at z ⊢
    rw [upd_ne hb] at z ⊢
    exact z
  sl := by
    obtain ⟨fps, F⟩ := R.sl
    refine ⟨fps, fun i s hs => ?_, F.out, F.dj⟩
    obtain ⟨x, e1, r⟩ := F.sl i s hs
    refine ⟨x, e1, ?_⟩
    have np : ∀ b, fps i b → b ≠ p := fun b hb z => by
      subst z
      exact F.not_p i hb
    cases s with
    | un => exact r
    | dt d =>
      cases x with
      | none => exact r
      | some v => exact r
    | ow a0 q =>
      cases x with
      | none => exact r
      | some v =>
        obtain ⟨⟨e2, z⟩, w⟩ := r
        refine ⟨⟨e2, q.mono z (Ex.refl _) fun b u hb hu => ?_⟩, fun b hb => ?_⟩
        · rw [upd_ne (np b hb)]
          exact hu
        · have := w b hb
          rw [upd_ne (np b hb)] at this
          rw [upd_ne (np b hb), upd_ne (np b hb)]
          exact this
theorem Rep.reveal (R : Rep K B H0 σ δ H Hs) {fps : Nat → Foot} (F : Fps K B Hs H σ δ fps) (np : ∀ i, ¬ fps i p) (hp : H p = some o) (hs : Hs p = none) : Rep K (upd B p o) H0 σ δ H Hs where
  len := R.len
  ex := R.ex
  base := fun a u q => by
    by_cases ha : a = p
    · subst ha
      rw [upd_same] at q
      rw [← q]
      exact hp
    · rw [upd_ne ha] at q
      exact R.base a u q
  frz := R.frz
  frs := fun b h1 h2 => by
    have hb : b ≠ p := fun z => by
      subst z
      exact h1 hs
    unfold NewT
    rw [upd_ne hb]
    exact R.frs b h1 h2
  sl := by
    refine ⟨fps, fun i s hs => ?_, F.out, F.dj⟩
    obtain ⟨x, e1, r⟩ := F.sl i s hs
    refine ⟨x, e1, ?_⟩
    cases s with
    | un => exact r
    | dt d =>
      cases x with
      | none => exact r
      | some v => exact r
    | ow a0 q =>
      cases x with
      | none => exact r
      | some v =>
        refine ⟨r.1, fun b hb => ⟨(r.2 b hb).1, ?_, (r.2 b hb).2.2⟩⟩
        rw [upd_ne (fun z => by subst z; exact np i hb)]
        exact (r.2 b hb).2.1
theorem Rep.freeze (R : Rep K (upd B p o) H0 σ δ H Hs) (hB : B p = none) : Rep K B H0 σ δ H (upd Hs p o) := by
  have hp := R.at_p
  have hx : Ex Hs (upd Hs p o) := fun a u q => by
    by_cases ha : a = p
    · subst ha
      have := R.ex a u q
      rw [hp] at this
      rw [upd_same]
      exact this
    · rw [upd_ne ha]
      exact q
  refine ⟨R.len, fun a u q => ?_, (ex_upd_B hB).trans R.base, R.frz.trans hx, fun b h1 h2 => ?_, ?_⟩
  · by_cases ha : a = p
    · subst ha
      rw [upd_same] at q
      rw [← q]
      exact hp
    · rw [upd_ne ha] at q
      exact R.ex a u q
  · by_cases ha : b = p
    · subst ha
      exact .inl hB
    · rw [upd_ne ha] at h1
      have z := R.frs b h1 h2
      unfold NewT at z
      rw [upd_ne ha] at z
      exact z
  · obtain ⟨fps, F⟩ := R.sl
    refine ⟨fps, fun i s hs => ?_, F.out, F.dj⟩
    obtain ⟨x, e1, r⟩ := F.sl i s hs
    exact ⟨x, e1, (r.base (ex_upd_B hB)).mono hx (fun b u _ q => q) fun b hb _ _ h2 _ => by
      rw [upd_ne (fun z => by subst z; exact F.not_p i hb)]
      exact h2⟩
theorem Rep.freeze_ex (R : Rep K (upd B p o) H0 σ δ H Hs) (h0 : H0 p = none) (no : ∀ xs, o ≠ .tup xs := by intro _ z; cases z) : Ex Hs (upd Hs p o) := Ex.new (R.hs_none h0 no)
theorem Rep.own {vs : List V} {xs : List D} (R : Rep K (upd B p (.lst vs)) H0 σ δ H Hs) (hB : B p = none) (h0 : H0 p = none) (r : DpAll K Hs vs xs) {i : Nat} (hi : i < δ.length) : Rep K B H0 (σ.set i (some (.ref p))) (δ.set i (.ow p (.lst xs))) H Hs := by
  have hp := R.at_p
  obtain ⟨fps, F⟩ := R.sl
  have F' : Fps K B Hs H σ δ fps := ⟨fun i s hs => by
    obtain ⟨x, e1, r⟩ := F.sl i s hs
    exact ⟨x, e1, r.base (ex_upd_B hB)⟩, F.out, F.dj⟩
  refine (R.weaken (ex_upd_B hB)).setO F' (fp := fun b => b = p) ⟨fun b => Iff.rfl, vs, hp, r⟩ (fun b hb => ?_) (fun j b hj hb e => ?_) hi
  · subst hb
    exact ⟨R.hs_none h0, hB, by rw [hp]; exact fun z => nomatch z⟩
  · subst e
    exact F.not_p j hb
theorem Rep.take {xs : List D} {i : Nat} (R : Rep K B H0 σ δ H Hs) (h : δ[i]? = some (.ow p (.lst xs))) :
    ∃ vs, σ[i]? = some (some (.ref p)) ∧ H p = some (.lst vs) ∧ Hs p = none ∧ B p = none ∧ H0 p = none ∧ DpAll K Hs vs xs ∧ Rep K (upd B p (.lst vs)) H0 σ (δ.set i .un) H Hs := by
  obtain ⟨fps, F⟩ := R.sl
  obtain ⟨x, e, r⟩ := F.sl i _ h
  cases x with
  | none => exact r.elim
  | some v =>
    obtain ⟨⟨rfl, hfp, vs, hp, ha⟩, q⟩ := r
    have hpp := (hfp p).mpr rfl
    obtain ⟨q1, q2, q3⟩ := q p hpp
    refine ⟨vs, e, hp, q1, q2, R.frz.none q1, ha, ⟨by rw [List.length_set, R.len], R.ex, fun a u z => ?_, R.frz, fun b h1 h2 => ?_, fun j b => j ≠ i ∧ fps j b, fun j s hs => ?_, fun j hj b hb => ?_, fun j k b h1 h2 => F.dj j k b h1.2 h2.2⟩⟩
    · by_cases ha' : a = p
      · subst ha'
        rw [upd_same] at z
        rw [← z]
        exact hp
      · rw [upd_ne ha'] at z
        exact R.base a u z
    · have hb : b ≠ p := fun z => by
        subst z
        exact h1 q1
      unfold NewT
      rw [upd_ne hb]
      exact R.frs b h1 h2
    · by_cases hj : i = j
      · subst hj
        rw [List.getElem?_set_self (List.getElem?_eq_some_iff.mp h).1] at hs
        cases hs
        exact ⟨_, e, fun b hb => hb.1 rfl⟩
      · rw [List.getElem?_set_ne hj] at hs
        obtain ⟨y, e1, r1⟩ := F.sl j s hs
        refine ⟨y, e1, ?_⟩
        have eq : (fun b => j ≠ i ∧ fps j b) = fps j := funext fun b => propext ⟨fun z => z.2, fun z => ⟨fun z => hj z.symm, z⟩⟩
        rw [eq]
        cases s with
        | un => exact r1
        | dt d =>
          cases y with
          | none => exact r1
          | some w => exact r1
        | ow a0 o =>
          cases y with
          | none => exact r1
          | some w =>
            refine ⟨r1.1, fun b hb => ⟨(r1.2 b hb).1, ?_, (r1.2 b hb).2.2⟩⟩
            rw [upd_ne (fun z => by subst z; exact hj (F.dj i j b hpp hb))]
            exact (r1.2 b hb).2.1
    · rw [List.length_set] at hj
      exact F.out j hj b hb.2
theorem set_self {α : Type} {l : List α} {i : Nat} {a : α} (h : l[i]? = some a) : l.set i a = l := by
  refine List.ext_getElem? fun j => ?_
  by_cases hj : i = j
  · subst hj
    rw [List.getElem?_set_self (List.getElem?_eq_some_iff.mp h).1, h]
  · rw [List.getElem?_set_ne hj]
theorem lt_of_get {α : Type} {l : List α} {i : Nat} {a : α} (h : l[i]? = some a) : i < l.length := (List.getElem?_eq_some_iff.mp h).1
theorem Rep.change {xs ys : List D} {i : Nat} {ws : List V} (R : Rep K B H0 σ δ H Hs) (h : δ[i]? = some (.ow p (.lst xs))) (r : DpAll K Hs ws ys) :
    Rep K B H0 σ (δ.set i (.ow p (.lst ys))) (upd H p (.lst ws)) Hs := by
  obtain ⟨vs, hi, hp, h1, h2, h3, ha, R1⟩ := R.take h
  have R2 : Rep K (upd B p (.lst ws)) H0 σ (δ.set i .un) (upd H p (.lst ws)) Hs := R1.hset h3
  have R3 := R2.own h2 h3 r (i := i) (by rw [List.length_set]; exact lt_of_get h)
  rw [set_self hi, List.set_set] at R3
  exact R3
theorem Rep.frzAt {xs : List D} {i : Nat} (R : Rep K B H0 σ δ H Hs) (h : δ[i]? = some (.ow p (.lst xs))) :
    ∃ v Hs', σ[i]? = some (some v) ∧ Ex Hs Hs' ∧ Dp K Hs' v (.list xs) ∧ Rep K B H0 σ (δ.set i (.dt (.list xs))) H Hs' := by
  obtain ⟨vs, e, hp, h1, h2, h3, ha, R1⟩ := R.take h
  have R2 := R1.freeze h2
  have x := R1.freeze_ex h3
  have d : Dp K (upd Hs p (.lst vs)) (.ref p) (.list xs) := .lst (.inl (.inl upd_same)) (dpAll_mono x ha)
  have R3 := R2.set d i
  rw [set_self e, List.set_set] at R3
  exact ⟨.ref p, _, e, x, d, R3⟩
end
section
variable {K : PySem.W.Frag} {B H0 H Hs : Hp} {σ : L2.St} {δ : Dl} {p : Addr} {a a' : AP} {i : Nat}
theorem Rep.ownA {o : HO} (R : Rep K (upd B p o) H0 σ δ H Hs) (hB : B p = none) (h0 : H0 p = none) (r : a.P K Hs o) (hi : i < δ.length) : Rep K B H0 (σ.set i (some (.ref p))) (δ.set i (.ow p (OD.one a))) H Hs := by
  have hp := R.at_p
  obtain ⟨fps, F⟩ := R.sl
  have F' : Fps K B Hs H σ δ fps := ⟨fun i s hs => by
    obtain ⟨x, e1, r⟩ := F.sl i s hs
    exact ⟨x, e1, r.base (ex_upd_B hB)⟩, F.out, F.dj⟩
  refine (R.weaken (ex_upd_B hB)).setO F' (fp := fun b => b = p) ⟨fun b => Iff.rfl, o, hp, r⟩ (fun b hb => ?_) (fun j b hj hb e => ?_) hi
  · subst hb
    exact ⟨R.hs_none h0 (a.nt r), hB, by rw [hp]; exact fun z => nomatch z⟩
  · subst e
    exact F.not_p j hb
theorem Rep.takeA (R : Rep K B H0 σ δ H Hs) (h : δ[i]? = some (.ow p (OD.one a))) :
    ∃ o, σ[i]? = some (some (.ref p)) ∧ H p = some o ∧ Hs p = none ∧ B p = none ∧ H0 p = none ∧ a.P K Hs o ∧ Rep K (upd B p o) H0 σ (δ.set i .un) H Hs := by
  obtain ⟨fps, F⟩ := R.sl
  obtain ⟨x, e, r⟩ := F.sl i _ h
  cases x with
  | none => exact r.elim
  | some v =>
    obtain ⟨⟨rfl, hfp, o, hp, ha⟩, q⟩ := r
    have hpp := (hfp p).mpr rfl
    obtain ⟨q1, q2, q3⟩ := q p hpp
    refine ⟨o, e, hp, q1, q2, R.frz.none q1, ha, ⟨by rw [List.length_set, R.len], R.ex, fun b u z => ?_, R.frz, fun b h1 h2 => ?_, fun j b => j ≠ i ∧ fps j b, fun j s hs => ?_, fun j hj b hb => ?_, fun j k b h1 h2 => F.dj j k b h1.2 h2.2⟩⟩
    · by_cases hb : b = p
      · subst hb
        rw [upd_same] at z
        rw [← z]
        exact hp
      · rw [upd_ne hb] at z
        exact R.base b u z
    · have hb : b ≠ p := fun z => by
        subst z
        exact h1 q1
      unfold NewT
      rw [upd_ne hb]
      exact R.frs b h1 h2
    · by_cases hj : i = j
      · subst hj
        rw [List.getElem?_set_self (List.getElem?_eq_some_iff.mp h).1] at hs
        cases hs
        exact ⟨_, e, fun b hb => hb.1 rfl⟩
      · rw [List.getElem?_set_ne hj] at hs
        obtain ⟨y, e1, r1⟩ := F.sl j s hs
        refine ⟨y, e1, ?_⟩
        have eq : (fun b => j ≠ i ∧ fps j b) = fps j := funext fun b => propext ⟨fun z => z.2, fun z => ⟨fun z => hj z.symm, z⟩⟩
        rw [eq]
        cases s with
        | un => exact r1
        | dt d =>
          cases y with
          | none => exact r1
          | some w => exact r1
        | ow a0 o =>
          cases y with
          | none => exact r1
          | some w =>
            refine ⟨r1.1, fun b hb => ⟨(r1.2 b hb).1, ?_, (r1.2 b hb).2.2⟩⟩
            rw [upd_ne (fun z => by subst z; exact hj (F.dj i j b hpp hb))]
            exact (r1.2 b hb).2.1
    · rw [List.length_set] at hj
      exact F.out j hj b hb.2
theorem Rep.changeA {o' : HO} (R : Rep K B H0 σ δ H Hs) (h : δ[i]? = some (.ow p (OD.one a))) (r : a'.P K Hs o') : Rep K B H0 σ (δ.set i (.ow p (OD.one a'))) (upd H p o') Hs := by
  obtain ⟨o, hi, hp, h1, h2, h3, ha, R1⟩ := R.takeA h
  have R2 : Rep K (upd B p o') H0 σ (δ.set i .un) (upd H p o') Hs := R1.hset h3 (a.nt ha)
  have R3 := R2.ownA (a := a') h2 h3 r (i := i) (by rw [List.length_set]; exact lt_of_get h)
  rw [set_self hi, List.set_set] at R3
  exact R3
theorem own_atA (R : Rep K B H0 σ δ H Hs) (h : δ[i]? = some (.ow p (OD.one a))) : ∃ o, σ[i]? = some (some (.ref p)) ∧ H p = some o ∧ a.P K Hs o := by
  obtain ⟨o, e, hp, _, _, _, ha, _⟩ := R.takeA h
  exact ⟨o, e, hp, ha⟩
end
end EL
namespace EL
open PySem PySem.Spec PyProof.Rows L2
inductive RV where
  | dt (d : D)
  | rf (a : Addr)
inductive Ob where
  | lst (rs : List RV)
  | dk (kvs : List (Key × RV))
  | ins (cn : Str) (dx : Addr) (fs : List (Str × RV))
  | one (a : AP)
abbrev Lf := List (Addr × Ob)
def RVal (K : PySem.W.Frag) (Hs : Hp) (v : V) : RV → Prop
  | .dt d => Dp K Hs v d
  | .rf a => v = .ref a
inductive RAll (K : PySem.W.Frag) (Hs : Hp) : List V → List RV → Prop
  | nil : RAll K Hs [] []
  | cons {v : V} {r : RV} {vs : List V} {rs : List RV} : RVal K Hs v r → RAll K Hs vs rs → RAll K Hs (v :: vs) (r :: rs)
inductive KAll (K : PySem.W.Frag) (Hs : Hp) {κ : Type} : List (κ × V) → List (κ × RV) → Prop
  | nil : KAll K Hs [] []
  | cons {k : κ} {v : V} {r : RV} {vs : List (κ × V)} {rs : List (κ × RV)} : RVal K Hs v r → KAll K Hs vs rs → KAll K Hs ((k, v) :: vs) ((k, r) :: rs)
section
variable {K : PySem.W.Frag} {Hs Hs' : Hp} {κ : Type}
theorem RVal.mono (e : Ex Hs Hs') {v : V} : ∀ {r : RV}, RVal K Hs v r → RVal K Hs' v r
  | .dt _, h => dp_mono e h
  | .rf _, h => h
theorem RAll.mono (e : Ex Hs Hs') : ∀ {vs : List V} {rs : List RV}, RAll K Hs vs rs → RAll K Hs' vs rs
  | _, _, .nil => .nil
  | _, _, .cons h t => .cons (h.mono e) (t.mono e)
theorem KAll.mono (e : Ex Hs Hs') : ∀ {vs : List (κ × V)} {rs : List (κ × RV)}, KAll K Hs vs rs → KAll K Hs' vs rs
  | _, _, .nil => .nil
  | _, _, .cons h t => .cons (h.mono e) (t.mono e)
theorem RAll.len : ∀ {vs : List V} {rs : List RV}, RAll K Hs vs rs → vs.length = rs.length
  | _, _, .nil => rfl
  | _, _, .cons _ t => congrArg (· + 1) t.len
theorem KAll.len : ∀ {vs : List (κ × V)} {rs : List (κ × RV)}, KAll K Hs vs rs → vs.length = rs.length
  | _, _, .nil => rfl
  | _, _, .cons _ t => congrArg (· + 1) t.len
theorem RAll.get : ∀ {vs : List V} {rs : List RV} {i : Nat} {r : RV}, RAll K Hs vs rs → rs[i]? = some r → ∃ v, vs[i]? = some v ∧ RVal K Hs v r
  | _, _, _, _, .nil, h => by simp at h
  | _, _, 0, _, .cons r _, h => by
    simp at h
    subst h
    exact ⟨_, rfl, r⟩
  | _, _, i + 1, _, .cons _ t, h => by
    obtain ⟨v, e, r⟩ := RAll.get (i := i) t (by simpa using h)
    exact ⟨v, by simpa using e, r⟩
theorem RAll.app : ∀ {vs ws : List V} {rs ss : List RV}, RAll K Hs vs rs → RAll K Hs ws ss → RAll K Hs (vs ++ ws) (rs ++ ss)
  | _, _, _, _, .nil, h => h
  | _, _, _, _, .cons r t, h => .cons r (t.app h)
theorem RAll.take (n : Nat) : ∀ {vs : List V} {rs : List RV}, RAll K Hs vs rs → RAll K Hs (vs.take n) (rs.take n) := by
  induction n with
  | zero => intro vs rs _; exact .nil
  | succ n ih =>
    intro vs rs h
    cases h with
    | nil => exact .nil
    | cons r t => exact .cons r (ih t)
theorem RAll.drop (n : Nat) : ∀ {vs : List V} {rs : List RV}, RAll K Hs vs rs → RAll K Hs (vs.drop n) (rs.drop n) := by
  induction n with
  | zero => intro vs rs h; exact h
  | succ n ih =>
    intro vs rs h
    cases h with
    | nil => exact .nil
    | cons r t => exact ih t
theorem RAll.set {v : V} {r : RV} (q : RVal K Hs v r) : ∀ (n : Nat) {vs : List V} {rs : List RV}, RAll K Hs vs rs → RAll K Hs (vs.set n v) (rs.set n r)
  | _, _, _, .nil => .nil
  | 0, _, _, .cons _ t => .cons q t
  | n + 1, _, _, .cons p t => .cons p (RAll.set q n t)
theorem RAll.rev : ∀ {vs : List V} {rs : List RV}, RAll K Hs vs rs → RAll K Hs vs.reverse rs.reverse
  | _, _, .nil => .nil
  | _, _, .cons r t => by
    rw [List.reverse_cons, List.reverse_cons]
    exact (RAll.rev t).app (.cons r .nil)
theorem RAll.of_dp : ∀ {vs : List V} {ds : List D}, DpAll K Hs vs ds → RAll K Hs vs (ds.map .dt)
  | _, _, .nil => .nil
  | _, _, .cons r t => .cons r (RAll.of_dp t)
theorem RAll.to_dp : ∀ {vs : List V} {ds : List D}, RAll K Hs vs (ds.map .dt) → DpAll K Hs vs ds
  | _, [], .nil => .nil
  | _, _ :: _, .cons r t => .cons r (RAll.to_dp t)
variable [DecidableEq κ]
def getR (kvs : List (κ × RV)) (k : κ) : Option RV := (kvs.find? fun kv => decide (kv.1 = k)).map (·.2)
def putR (kvs : List (κ × RV)) (k : κ) (r : RV) : List (κ × RV) := if (kvs.any fun kv => decide (kv.1 = k)) = true then kvs.map (fun kv => if kv.1 = k then (kv.1, r) else kv) else kvs ++ [(k, r)]
theorem KAll.get {k : κ} {d : RV} : ∀ {r : List (κ × V)} {s : List (κ × RV)}, KAll K Hs r s → getR s k = some d → ∃ v, valV r k = some v ∧ RVal K Hs v d
  | _, _, .nil, h => by cases h
  | _, _, .cons (k := k') (v := v) (r := d') (vs := r) (rs := s) q t, h => by
    by_cases e : k' = k
    · have : getR ((k', d') :: s) k = some d' := by simp [getR, List.find?_cons, e]
      rw [this] at h
      cases h
      exact ⟨v, valV_pos e, q⟩
    · have : getR ((k', d') :: s) k = getR s k := by simp [getR, List.find?_cons, e]
      rw [this] at h
      obtain ⟨v', h1, h2⟩ := t.get h
      exact ⟨v', by rw [valV_neg e]; exact h1, h2⟩
theorem KAll.any_eq {k : κ} : ∀ {r : List (κ × V)} {s : List (κ × RV)}, KAll K Hs r s → (r.any fun kv => decide (kv.1 = k)) = s.any fun kv => decide (kv.1 = k)
  | _, _, .nil => rfl
  | _, _, .cons q t => by
    rw [List.any_cons, List.any_cons, t.any_eq]
theorem KAll.map_put {k : κ} {v : V} {d : RV} (q : RVal K Hs v d) : ∀ {r : List (κ × V)} {s : List (κ × RV)}, KAll K Hs r s → KAll K Hs (r.map fun kv => if kv.1 = k then (kv.1, v) else kv) (s.map fun kv => if kv.1 = k then (kv.1, d) else kv)
  | _, _, .nil => .nil
  | _, _, .cons (k := k') q' t => by
    rw [List.map_cons, List.map_cons]
    by_cases e : k' = k
    · simp only [e, if_true]
      exact .cons q (t.map_put q)
    · simp only [e, if_false]
      exact .cons q' (t.map_put q)
theorem KAll.app : ∀ {r r' : List (κ × V)} {s s' : List (κ × RV)}, KAll K Hs r s → KAll K Hs r' s' → KAll K Hs (r ++ r') (s ++ s')
  | _, _, _, _, .nil, h => h
  | _, _, _, _, .cons q t, h => .cons q (t.app h)
theorem KAll.put {k : κ} {v : V} {d : RV} {r : List (κ × V)} {s : List (κ × RV)} (h : KAll K Hs r s) (q : RVal K Hs v d) : KAll K Hs (putK r k v) (putR s k d) := by
  unfold putK putR
  rw [h.any_eq]
  split
  · exact h.map_put q
  · exact h.app (.cons q .nil)
end
def ClsAt (K : PySem.W.Frag) (cn : Str) (C : Addr) : Prop := PySem.W.nsIn K mainGlobals cn = some (some (.ref C))
def ObAt (K : PySem.W.Frag) (Hs H : Hp) (a : Addr) : Ob → Prop
  | .lst rs => ∃ vs, H a = some (.lst vs) ∧ RAll K Hs vs rs
  | .dk kvs => ∃ vs, H a = some (.dK vs) ∧ KAll K Hs vs kvs
  | .ins cn dx fs => ∃ C vs, ClsAt K cn C ∧ H a = some (.ins C dx vs) ∧ H dx = some (.own a) ∧ KAll K Hs vs fs
  | .one q => ∃ u, H a = some u ∧ q.P K Hs u
def obA (a : Addr) : Ob → List Addr
  | .ins _ dx _ => [a, dx]
  | _ => [a]
def addrsL (L : Lf) : List Addr := L.flatMap fun x => obA x.1 x.2
theorem addrsL_app (L M : Lf) : addrsL (L ++ M) = addrsL L ++ addrsL M := List.flatMap_append
structure Reg (K : PySem.W.Frag) (Hs H : Hp) (L : Lf) : Prop where
  nd : (addrsL L).Nodup
  at_ : ∀ x ∈ L, ObAt K Hs H x.1 x.2
theorem ObAt.mono {K : PySem.W.Frag} {Hs H Hs' H' : Hp} {a : Addr} {o : Ob} (h : ObAt K Hs H a o) (e : Ex Hs Hs') (k : ∀ b ∈ obA a o, ∀ u, H b = some u → H' b = some u) : ObAt K Hs' H' a o := by
  cases o with
  | lst rs =>
    obtain ⟨vs, h1, h2⟩ := h
    exact ⟨vs, k _ (by simp [obA]) _ h1, h2.mono e⟩
  | dk kvs =>
    obtain ⟨vs, h1, h2⟩ := h
    exact ⟨vs, k _ (by simp [obA]) _ h1, h2.mono e⟩
  | ins C dx fs =>
    obtain ⟨C, vs, h0, h1, h2, h3⟩ := h
    exact ⟨C, vs, h0, k _ (by simp [obA]) _ h1, k _ (by simp [obA]) _ h2, h3.mono e⟩
  | one q =>
    obtain ⟨u, h1, h2⟩ := h
    exact ⟨u, k _ (by simp [obA]) _ h1, q.mono h2 e⟩
theorem ObAt.nt {K : PySem.W.Frag} {Hs H : Hp} {a : Addr} {o : Ob} (h : ObAt K Hs H a o) {b : Addr} (hb : b ∈ obA a o) : ∃ u, H b = some u ∧ ∀ xs, u ≠ .tup xs := by
  cases o with
  | lst rs =>
    obtain ⟨vs, h1, h2⟩ := h
    simp [obA] at hb
    subst hb
    exact ⟨_, h1, fun _ z => nomatch z⟩
  | dk kvs =>
    obtain ⟨vs, h1, h2⟩ := h
    simp [obA] at hb
    subst hb
    exact ⟨_, h1, fun _ z => nomatch z⟩
  | ins C dx fs =>
    obtain ⟨C, vs, h0, h1, h2, h3⟩ := h
    simp [obA] at hb
    rcases hb with rfl | rfl
    · exact ⟨_, h1, fun _ z => nomatch z⟩
    · exact ⟨_, h2, fun _ z => nomatch z⟩
  | one q =>
    obtain ⟨u, h1, h2⟩ := h
    simp [obA] at hb
    subst hb
    exact ⟨_, h1, q.nt h2⟩
theorem mem_addrsL {L : Lf} {b : Addr} : b ∈ addrsL L ↔ ∃ x ∈ L, b ∈ obA x.1 x.2 := List.mem_flatMap
theorem Reg.mono {K : PySem.W.Frag} {Hs H Hs' H' : Hp} {L : Lf} (h : Reg K Hs H L) (e : Ex Hs Hs') (k : ∀ b ∈ addrsL L, ∀ u, H b = some u → H' b = some u) : Reg K Hs' H' L :=
  ⟨h.nd, fun x hx => (h.at_ x hx).mono e fun b hb u hu => k b (mem_addrsL.mpr ⟨x, hx, hb⟩) u hu⟩
theorem Reg.there {K : PySem.W.Frag} {Hs H : Hp} {L : Lf} (h : Reg K Hs H L) {b : Addr} (hb : b ∈ addrsL L) : ∃ u, H b = some u ∧ ∀ xs, u ≠ .tup xs := by
  obtain ⟨x, hx, hb⟩ := mem_addrsL.mp hb
  exact (h.at_ x hx).nt hb
def OD.rg (L : Lf) : OD where
  rep := fun K Hs H p fp => (∀ b, fp b ↔ b ∈ addrsL L) ∧ Reg K Hs H L
  nt := fun ⟨h1, h2⟩ b xs hb z => by
    obtain ⟨u, hu, hn⟩ := h2.there ((h1 b).mp hb)
    rw [hu] at z
    exact hn xs (Option.some.inj z)
  mono := fun ⟨h1, h2⟩ e k => ⟨h1, h2.mono e fun b hb u hu => k b u ((h1 b).mpr hb) hu⟩
theorem Reg.nil {K : PySem.W.Frag} {Hs H : Hp} : Reg K Hs H [] := ⟨List.nodup_nil, fun x h => by simp at h⟩
theorem Reg.perm {K : PySem.W.Frag} {Hs H : Hp} {L M : Lf} (h : Reg K Hs H L) (p : M.Perm L) : Reg K Hs H M :=
  ⟨(p.flatMap_right _).nodup_iff.mpr h.nd, fun x hx => h.at_ x (p.mem_iff.mp hx)⟩
theorem Reg.put {K : PySem.W.Frag} {Hs H H' : Hp} {L1 L2 : Lf} {a : Addr} {o o' : Ob} (h : Reg K Hs H (L1 ++ (a, o) :: L2)) (ha : obA a o' = obA a o) (k : ∀ b, b ≠ a → ∀ u, H b = some u → H' b = some u) (n : ObAt K Hs H' a o') : Reg K Hs H' (L1 ++ (a, o') :: L2) := by
  have hs : addrsL (L1 ++ (a, o') :: L2) = addrsL (L1 ++ (a, o) :: L2) := by
    rw [addrsL_app, addrsL_app]
    show addrsL L1 ++ (obA a o' ++ addrsL L2) = addrsL L1 ++ (obA a o ++ addrsL L2)
    rw [ha]
  have hm : a ∈ obA a o := by cases o <;> simp [obA]
  have nd := h.nd
  rw [addrsL_app] at nd
  have nd2 : (addrsL L1 ++ (obA a o ++ addrsL L2)).Nodup := nd
  obtain ⟨n1, n2, n3⟩ := List.nodup_append.mp nd2
  obtain ⟨n4, n5, n6⟩ := List.nodup_append.mp n2
  refine ⟨by rw [hs]; exact h.nd, fun x hx => ?_⟩
  rcases List.mem_append.mp hx with h1 | h1
  · refine (h.at_ x (List.mem_append_left _ h1)).mono (Ex.refl _) fun b hb u hu => k b (fun z => ?_) u hu
    exact n3 b (mem_addrsL.mpr ⟨x, h1, hb⟩) a (List.mem_append_left _ hm) z
  · rcases List.mem_cons.mp h1 with rfl | h2
    · exact n
    · refine (h.at_ x (List.mem_append_right _ (List.mem_cons_of_mem _ h2))).mono (Ex.refl _) fun b hb u hu => k b (fun z => ?_) u hu
      exact n6 a hm b (mem_addrsL.mpr ⟨x, h2, hb⟩) z.symm
section
variable {K : PySem.W.Frag} {B H0 H Hs : Hp} {σ : L2.St} {δ : Dl} {p : Addr} {i : Nat} {L L' : Lf}
theorem Rep.reg (R : Rep K B H0 σ δ H Hs) (h : δ[i]? = some (.ow p (OD.rg L))) : σ[i]? = some (some (.ref p)) ∧ Reg K Hs H L ∧ ∀ b ∈ addrsL L, Hs b = none ∧ B b = none ∧ H b ≠ none := by
  obtain ⟨fps, F⟩ := R.sl
  obtain ⟨x, e, r⟩ := F.sl i _ h
  cases x with
  | none => exact r.elim
  | some v =>
    obtain ⟨⟨rfl, hfp, hr⟩, q⟩ := r
    exact ⟨e, hr, fun b hb => q b ((hfp b).mpr hb)⟩
theorem Rep.updR {a : Addr} {ho : HO} (R : Rep K B H0 σ δ H Hs) (h : δ[i]? = some (.ow p (OD.rg L))) (ha : a ∈ addrsL L) (hs : ∀ b, b ∈ addrsL L' ↔ b ∈ addrsL L) (hr : Reg K Hs (upd H a ho) L') : Rep K B H0 σ (δ.set i (.ow p (OD.rg L'))) (upd H a ho) Hs := by
  obtain ⟨e0, _, q0⟩ := R.reg h
  obtain ⟨qa1, qa2, qa3⟩ := q0 a ha
  obtain ⟨fps, F⟩ := R.sl
  have hi := lt_of_get h
  have hfp : ∀ b, fps i b ↔ b ∈ addrsL L := by
    obtain ⟨x, e, r⟩ := F.sl i _ h
    cases x with
    | none => exact r.elim
    | some v => exact r.1.2.1
  refine ⟨by rw [List.length_set, R.len], fun b u z => ?_, fun b u z => ?_, R.frz, R.frs, fps, fun j s hsj => ?_, fun j hj b hb => F.out j (by rw [List.length_set] at hj; exact hj) b hb, F.dj⟩
  · have hb : b ≠ a := fun w => by
      subst w
      rw [qa1] at z
      cases z
    rw [upd_ne hb]
    exact R.ex b u z
  · have hb : b ≠ a := fun w => by
      subst w
      rw [qa2] at z
      cases z
    rw [upd_ne hb]
    exact R.base b u z
  · by_cases hj : i = j
    · subst hj
      rw [List.getElem?_set_self hi] at hsj
      cases hsj
      refine ⟨_, e0, ⟨rfl, fun b => by rw [hfp b, hs b], hr⟩, fun b hb => ?_⟩
      obtain ⟨z1, z2, z3⟩ := q0 b ((hfp b).mp hb)
      refine ⟨z1, z2, ?_⟩
      by_cases hba : b = a
      · subst hba
        rw [upd_same]
        exact fun z => nomatch z
      · rw [upd_ne hba]
        exact z3
    · rw [List.getElem?_set_ne hj] at hsj
      obtain ⟨x, e, r⟩ := F.sl j s hsj
      refine ⟨x, e, ?_⟩
      have na : ∀ b, fps j b → b ≠ a := fun b hb z => by
        subst z
        exact hj (F.dj i j b ((hfp b).mpr ha) hb)
      cases s with
      | un => exact r
      | dt d =>
        cases x with
        | none => exact r
        | some v => exact r
      | ow a0 q =>
        cases x with
        | none => exact r
        | some v =>
          obtain ⟨⟨e2, z⟩, w⟩ := r
          refine ⟨⟨e2, q.mono z (Ex.refl _) fun b u hb hu => ?_⟩, fun b hb => ?_⟩
          · rw [upd_ne (na b hb)]
            exact hu
          · rw [upd_ne (na b hb)]
            exact w b hb
structure Hid (K : PySem.W.Frag) (B B' H0 Hs : Hp) (L : Lf) : Prop where
  ex : Ex B B'
  on : ∀ b, B' b ≠ none → B b ≠ none ∨ b ∈ addrsL L
  nw : ∀ b ∈ addrsL L, B b = none ∧ H0 b = none
  rg : Reg K Hs B' L
theorem Hid.nil : Hid K B B H0 Hs [] := ⟨Ex.refl _, fun b h => .inl h, fun b h => by simp [addrsL] at h, .nil⟩
theorem Hid.mono {B' Hs' : Hp} (h : Hid K B B' H0 Hs L) (e : Ex Hs Hs') : Hid K B B' H0 Hs' L := ⟨h.ex, h.on, h.nw, h.rg.mono e fun _ _ _ z => z⟩
theorem Rep.hid_off {B' : Hp} (R : Rep K B' H0 σ δ H Hs) (h : Hid K B B' H0 Hs L) {fps : Nat → Foot} (F : Fps K B' Hs H σ δ fps) {b : Addr} (hb : b ∈ addrsL L) : Hs b = none ∧ ∀ j, ¬ fps j b := by
  obtain ⟨u, hu, hn⟩ := h.rg.there hb
  refine ⟨?_, fun j hj => ?_⟩
  · cases z : Hs b with
    | none => rfl
    | some o =>
      rcases R.frs b (by rw [z]; exact fun w => nomatch w) (h.nw b hb).2 with w | ⟨xs, w⟩
      · rw [hu] at w
        cases w
      · rw [hu] at w
        exact absurd (Option.some.inj w) (hn xs)
  · by_cases hl : j < δ.length
    · obtain ⟨x, e, r⟩ := F.sl j δ[j] (List.getElem?_eq_getElem hl)
      cases hs : δ[j] with
      | un =>
        rw [hs] at r
        exact r b hj
      | dt d =>
        rw [hs] at r
        cases x with
        | none => exact r
        | some v => exact r.2 b hj
      | ow a0 q =>
        rw [hs] at r
        cases x with
        | none => exact r
        | some v =>
          have z := (r.2 b hj).2.1
          rw [hu] at z
          cases z
    · exact F.out j (by omega) b hj
theorem Rep.ownR {B' : Hp} (R : Rep K B' H0 σ δ H Hs) (h : Hid K B B' H0 Hs L) (hi : i < δ.length) : Rep K B H0 (σ.set i (some (.ref p))) (δ.set i (.ow p (OD.rg L))) H Hs := by
  obtain ⟨fps, F⟩ := R.sl
  have off := fun b hb => R.hid_off h F (b := b) hb
  have F' : Fps K B Hs H σ δ fps := ⟨fun j s hs => by
    obtain ⟨x, e1, r⟩ := F.sl j s hs
    exact ⟨x, e1, r.base h.ex⟩, F.out, F.dj⟩
  refine (R.weaken h.ex).setO F' (fp := fun b => b ∈ addrsL L) ⟨fun b => Iff.rfl, h.rg.mono (Ex.refl _) fun b _ u hu => R.base b u hu⟩ (fun b hb => ⟨(off b hb).1, (h.nw b hb).1, ?_⟩) (fun j b hj hb e => (off b e).2 j hb) hi
  obtain ⟨u, hu, _⟩ := h.rg.there hb
  rw [R.base b u hu]
  exact fun z => nomatch z
theorem Rep.joinR {B' : Hp} {M : Lf} (R : Rep K B' H0 σ δ H Hs) (h : Hid K B B' H0 Hs M) (hs : δ[i]? = some (.ow p (OD.rg L))) : Rep K B H0 σ (δ.set i (.ow p (OD.rg (L ++ M)))) H Hs := by
  obtain ⟨fps, F⟩ := R.sl
  have off := fun b hb => R.hid_off h F (b := b) hb
  obtain ⟨e0, hr, q0⟩ := R.reg hs
  have F' : Fps K B Hs H σ δ fps := ⟨fun j s hs => by
    obtain ⟨x, e1, r⟩ := F.sl j s hs
    exact ⟨x, e1, r.base h.ex⟩, F.out, F.dj⟩
  have hfp : ∀ b, fps i b ↔ b ∈ addrsL L := by
    obtain ⟨x, e, r⟩ := F.sl i _ hs
    cases x with
    | none => exact r.elim
    | some v => exact r.1.2.1
  have hm : ∀ b ∈ addrsL M, ∃ u, H b = some u := fun b hb => by
    obtain ⟨u, hu, _⟩ := h.rg.there hb
    exact ⟨u, R.base b u hu⟩
  have rr : Reg K Hs H (L ++ M) := by
    refine ⟨?_, fun x hx => ?_⟩
    · rw [addrsL_app]
      refine List.nodup_append.mpr ⟨hr.nd, h.rg.nd, fun a ha b hb e => ?_⟩
      subst e
      exact (off a hb).2 i ((hfp a).mpr ha)
    · rcases List.mem_append.mp hx with hx | hx
      · exact hr.at_ x hx
      · exact (h.rg.at_ x hx).mono (Ex.refl _) fun b _ u hu => R.base b u hu
  have R2 := (R.weaken h.ex).setO F' (p := p) (o := OD.rg (L ++ M)) (i := i) (fp := fun b => b ∈ addrsL (L ++ M)) ⟨fun b => Iff.rfl, rr⟩ (fun b hb => ?_) (fun j b hj hb e => ?_) (lt_of_get hs)
  · rw [set_self e0] at R2
    exact R2
  · rw [addrsL_app] at hb
    rcases List.mem_append.mp hb with hb | hb
    · obtain ⟨z1, z2, z3⟩ := q0 b hb
      exact ⟨z1, h.ex.none z2, z3⟩
    · obtain ⟨u, hu⟩ := hm b hb
      exact ⟨(off b hb).1, (h.nw b hb).1, by rw [hu]; exact fun z => nomatch z⟩
  · rw [addrsL_app] at e
    rcases List.mem_append.mp e with e | e
    · exact hj (F.dj j i b hb ((hfp b).mpr e))
    · exact (off b e).2 j hb
theorem Rep.takeR (R : Rep K B H0 σ δ H Hs) (hs : δ[i]? = some (.ow p (OD.rg L))) : ∃ B', Rep K B' H0 σ (δ.set i .un) H Hs ∧ Hid K B B' H0 Hs L ∧ σ[i]? = some (some (.ref p)) := by
  obtain ⟨e0, hr, q0⟩ := R.reg hs
  obtain ⟨fps, F⟩ := R.sl
  have hfp : ∀ b, fps i b ↔ b ∈ addrsL L := by
    obtain ⟨x, e, r⟩ := F.sl i _ hs
    cases x with
    | none => exact r.elim
    | some v => exact r.1.2.1
  have dec : ∀ b, b ∈ addrsL L ∨ b ∉ addrsL L := fun b => Classical.em _
  classical
  let B' : Hp := fun b => if b ∈ addrsL L then H b else B b
  have b1 : ∀ b, b ∈ addrsL L → B' b = H b := fun b hb => if_pos hb
  have b2 : ∀ b, b ∉ addrsL L → B' b = B b := fun b hb => if_neg hb
  have exB : Ex B B' := fun b u hu => by
    by_cases hb : b ∈ addrsL L
    · rw [(q0 b hb).2.1] at hu
      cases hu
    · rw [b2 b hb]
      exact hu
  refine ⟨B', ⟨by rw [List.length_set, R.len], R.ex, fun b u hu => ?_, R.frz, fun b h1 h2 => ?_, fun j b => j ≠ i ∧ fps j b, fun j s hsj => ?_, fun j hj b hb => ?_, fun j k b h1 h2 => F.dj j k b h1.2 h2.2⟩, ⟨exB, fun b hb => ?_, fun b hb => ⟨(q0 b hb).2.1, R.frz.none (q0 b hb).1⟩, hr.mono (Ex.refl _) fun b hb u hu => by rw [b1 b hb]; exact hu⟩, e0⟩
  · by_cases hb : b ∈ addrsL L
    · rw [b1 b hb] at hu
      exact hu
    · rw [b2 b hb] at hu
      exact R.base b u hu
  · have hb : b ∉ addrsL L := fun z => h1 (q0 b z).1
    unfold NewT
    rw [b2 b hb]
    exact R.frs b h1 h2
  · by_cases hj : i = j
    · subst hj
      rw [List.getElem?_set_self (lt_of_get hs)] at hsj
      cases hsj
      exact ⟨_, e0, fun b hb => hb.1 rfl⟩
    · rw [List.getElem?_set_ne hj] at hsj
      obtain ⟨y, e1, r1⟩ := F.sl j s hsj
      refine ⟨y, e1, ?_⟩
      have eq : (fun b => j ≠ i ∧ fps j b) = fps j := funext fun b => propext ⟨fun z => z.2, fun z => ⟨fun z => hj z.symm, z⟩⟩
      rw [eq]
      cases s with
      | un => exact r1
      | dt d =>
        cases y with
        | none => exact r1
        | some w => exact r1
      | ow a0 o =>
        cases y with
        | none => exact r1
        | some w =>
          refine ⟨r1.1, fun b hb => ⟨(r1.2 b hb).1, ?_, (r1.2 b hb).2.2⟩⟩
          rw [b2 b (fun z => hj (F.dj i j b ((hfp b).mpr z) hb))]
          exact (r1.2 b hb).2.1
  · rw [List.length_set] at hj
    exact F.out j hj b hb.2
  · by_cases hz : b ∈ addrsL L
    · exact .inr hz
    · rw [b2 b hz] at hb
      exact .inl hb
theorem Rep.revealR (R : Rep K B H0 σ δ H Hs) {fps : Nat → Foot} (F : Fps K B Hs H σ δ fps) (hr : Reg K Hs H L) (hL : ∀ b ∈ addrsL L, Hs b = none ∧ B b = none ∧ ∀ j, ¬ fps j b) : ∃ B', Rep K B' H0 σ δ H Hs ∧ Hid K B B' H0 Hs L := by
  classical
  let B' : Hp := fun b => if b ∈ addrsL L then H b else B b
  have b1 : ∀ b, b ∈ addrsL L → B' b = H b := fun b hb => if_pos hb
  have b2 : ∀ b, b ∉ addrsL L → B' b = B b := fun b hb => if_neg hb
  have exB : Ex B B' := fun b u hu => by
    by_cases hb : b ∈ addrsL L
    · rw [(hL b hb).2.1] at hu
      cases hu
    · rw [b2 b hb]
      exact hu
  refine ⟨B', ⟨R.len, R.ex, fun b u hu => ?_, R.frz, fun b h1 h2 => ?_, fps, fun j s hsj => ?_, F.out, F.dj⟩, ⟨exB, fun b hb => ?_, fun b hb => ⟨(hL b hb).2.1, R.frz.none (hL b hb).1⟩, hr.mono (Ex.refl _) fun b hb u hu => by rw [b1 b hb]; exact hu⟩⟩
  · by_cases hb : b ∈ addrsL L
    · rw [b1 b hb] at hu
      exact hu
    · rw [b2 b hb] at hu
      exact R.base b u hu
  · have hb : b ∉ addrsL L := fun z => h1 (hL b z).1
    unfold NewT
    rw [b2 b hb]
    exact R.frs b h1 h2
  · obtain ⟨y, e1, r1⟩ := F.sl j s hsj
    refine ⟨y, e1, ?_⟩
    cases s with
    | un => exact r1
    | dt d =>
      cases y with
      | none => exact r1
      | some w => exact r1
    | ow a0 o =>
      cases y with
      | none => exact r1
      | some w =>
        refine ⟨r1.1, fun b hb => ⟨(r1.2 b hb).1, ?_, (r1.2 b hb).2.2⟩⟩
        rw [b2 b (fun z => (hL b z).2.2 j hb)]
        exact (r1.2 b hb).2.1
  · by_cases hz : b ∈ addrsL L
    · exact .inr hz
    · rw [b2 b hz] at hb
      exact .inl hb
end
end EL
namespace EL
open PySem PySem.Spec PyProof.Rows L2
structure Exn where
  c : Value
  fs : List (Str × D)
structure ZX where
  K : PySem.W.Frag
  W : WX
  xk : Exn → Dl → Prop
instance : CoeOut ZX PySem.W.Frag := ⟨ZX.K⟩
inductive FAll (K : PySem.W.Frag) (Hs : Hp) : List (Str × V) → List (Str × D) → Prop
  | nil : FAll K Hs [] []
  | cons {f : Str} {v : V} {d : D} {vs : List (Str × V)} {ds : List (Str × D)} : Dp K Hs v d → FAll K Hs vs ds → FAll K Hs ((f, v) :: vs) ((f, d) :: ds)
theorem FAll.mono {K : PySem.W.Frag} {Hs Hs' : Hp} (e : Ex Hs Hs') : ∀ {vs : List (Str × V)} {ds : List (Str × D)}, FAll K Hs vs ds → FAll K Hs' vs ds
  | _, _, .nil => .nil
  | _, _, .cons h t => .cons (dp_mono e h) (t.mono e)
def XcRep (K : PySem.W.Frag) (B H0 : Hp) (σ : L2.St) (δ : Dl) (H Hs : Hp) (x : Exn) (d : Option Addr) : Prop :=
  x.fs = [] ∨ ∃ a vs, d = some a ∧ Rep K (upd B a (.xd vs)) H0 σ δ H Hs ∧ B a = none ∧ H0 a = none ∧ FAll K Hs vs x.fs
class XOk (Z : ZX) (B H0 : Hp) : Prop where
  out : ∀ {x : Exn} {σ : L2.St} {δ : Dl} {H Hs : Hp} {d : Option Addr}, Rep Z.K B H0 σ δ H Hs → XcRep Z.K B H0 σ δ H Hs x d → Z.xk x δ → Z.W x.c d σ H
theorem XOk.mono {Z : ZX} {B B' H0 : Hp} (h : XOk Z B H0) (e : Ex B B') : XOk Z B' H0 := ⟨fun R xr q => h.out (R.weaken e) (by
  rcases xr with z | ⟨a, vs, h1, h2, h3, h4, h5⟩
  · exact .inl z
  · refine .inr ⟨a, vs, h1, h2.weaken fun b u hu => ?_, e.none h3, h4, h5⟩
    by_cases hb : b = a
    · subst hb
      rw [upd_same] at hu ⊢
      exact hu
    · rw [upd_ne hb] at hu ⊢
      exact e b u hu) q⟩
theorem XOk.hide {Z : ZX} {B H0 : Hp} (h : XOk Z B H0) {p : Addr} {o : HO} (hB : B p = none) : XOk Z (upd B p o) H0 := h.mono (Ex.new hB)
structure Cy extends Cx where
  W : WX
  xk : Exn → Dl → Prop
instance : CoeOut Cy Cx := ⟨Cy.toCx⟩
abbrev Cy.z (X : Cy) : ZX := ⟨X.K, X.W, X.xk⟩
abbrev TDE := Dl → (D → Dl → Prop) → Prop
abbrev TDL := Dl → (List D → Dl → Prop) → Prop
abbrev TDB := Dl → (Bool → Dl → Prop) → Prop
inductive RS where
  | dt (d : D)
  | new (xs : List D)
  | obj (a : AP)
  | rg (a : Addr) (L : Lf)
  | exn (x : Exn)
structure DEnds where
  nx : Dl → Prop
  rt : RS → Dl → Prop
  bk : Dl → Prop := fun _ => False
  ct : Dl → Prop := fun _ => False
abbrev TDS := DEnds → Dl → Prop
def SimE (K : ZX) (te : TE) (t : TDE) : Prop := ∀ {B H0 : Hp} [XOk K B H0] {σ : L2.St} {δ : Dl} {H Hs : Hp} {Q : D → Dl → Prop} {Q' : VK}, Rep K B H0 σ δ H Hs → t δ Q →
  (∀ v d δ' H' Hs', Rep K B H0 σ δ' H' Hs' → Ex Hs Hs' → Dp K Hs' v d → Q d δ' → Q' v H') → te σ H Q'
def SimN (K : ZX) (te : TE) (t : TDL) : Prop := ∀ {B H0 : Hp} [XOk K B H0] {σ : L2.St} {δ : Dl} {H Hs : Hp} {Q : List D → Dl → Prop} {Q' : VK}, Rep K B H0 σ δ H Hs → t δ Q →
  (∀ p vs xs δ' H' Hs', Rep K (upd B p (.lst vs)) H0 σ δ' H' Hs' → B p = none → H0 p = none → Ex Hs Hs' → DpAll K Hs' vs xs → Q xs δ' → Q' (.ref p) H') → te σ H Q'
def SimA (K : ZX) (te : TA) (t : TDL) : Prop := ∀ {B H0 : Hp} [XOk K B H0] {σ : L2.St} {δ : Dl} {H Hs : Hp} {Q : List D → Dl → Prop} {Q' : List V → Hp → Prop}, Rep K B H0 σ δ H Hs → t δ Q →
  (∀ vs xs δ' H' Hs', Rep K B H0 σ δ' H' Hs' → Ex Hs Hs' → DpAll K Hs' vs xs → Q xs δ' → Q' vs H') → te σ H Q'
def SimT (K : ZX) (te : TT) (t : TDB) : Prop := ∀ {B H0 : Hp} [XOk K B H0] {σ : L2.St} {δ : Dl} {H Hs : Hp} {Q : Bool → Dl → Prop} {Q' : Bool → Hp → Prop}, Rep K B H0 σ δ H Hs → t δ Q →
  (∀ b δ' H' Hs', Rep K B H0 σ δ' H' Hs' → Ex Hs Hs' → Q b δ' → Q' b H') → te σ H Q'
structure JE (X : Cy) (e : Expr) (u : TE) (t : TDE) : Prop where
  p : PE X e u
  s : SimE X.z u t
structure JN (X : Cy) (e : Expr) (u : TE) (t : TDL) : Prop where
  p : PE X e u
  s : SimN X.z u t
structure JA (X : Cy) (es : List Expr) (u : TA) (t : TDL) : Prop where
  p : PA X es u
  s : SimA X.z u t
structure JT (X : Cy) (e : Expr) (u : TT) (t : TDB) : Prop where
  p : PT X e u
  s : SimT X.z u t
structure JW (X : Cy) (e : Expr) (u : TT) (t : TDB) : Prop where
  p : PW X e u
  s : SimT X.z u t
section
variable {X : Cy} {e a b : Expr} {es : List Expr} {pos : Pos} {t ta tb : TDE} {ue ua ub uc : TE} {us ur : TA} {vt vu : TT} {r r' : R2}
def dVar (i : Nat) : TDE := fun δ Q => ∃ d, δ[i]? = some (.dt d) ∧ Q d δ
def dFrz (i : Nat) : TDE := fun δ Q => ∃ p xs, δ[i]? = some (.ow p (.lst xs)) ∧ Q (.list xs) (δ.set i (.dt (.list xs)))
def dC (d : D) : TDE := fun δ Q => Q d δ
theorem je_var (i : Nat) {x : Str} (hN : X.N[i]? = some x := by rfl) (hv : Vis X.env.scope x := by first | exact Or.inl rfl | exact Or.inr (Or.inl rfl) | exact Or.inr (Or.inr rfl)) (hd : (x == ("__debug__" : Str)) = false := by decide)
    (hcd : (x == ("__classdict__" : Str)) = false := by decide) : JE X (.Name x pos) (tVar i) (dVar i) :=
  ⟨pe_var hN hv hd hcd, fun R ⟨d, h, q⟩ k => by
    obtain ⟨v, e, r⟩ := R.get h
    exact ⟨v, e, k _ _ _ _ _ R (Ex.refl _) r q⟩⟩
theorem je_frz (i : Nat) {x : Str} (hN : X.N[i]? = some x := by rfl) (hv : Vis X.env.scope x := by first | exact Or.inl rfl | exact Or.inr (Or.inl rfl) | exact Or.inr (Or.inr rfl)) (hd : (x == ("__debug__" : Str)) = false := by decide)
    (hcd : (x == ("__classdict__" : Str)) = false := by decide) : JE X (.Name x pos) (tVar i) (dFrz i) :=
  ⟨pe_var hN hv hd hcd, fun R ⟨p, xs, h, q⟩ k => by
    obtain ⟨v, Hs', e, x, r, R'⟩ := R.frzAt h
    exact ⟨v, e, k _ _ _ _ _ R' x r q⟩⟩
theorem je_int {i : Int} {j} : JE X (.Constant (.int i) j pos) (tC (.int i)) (dC (.int i)) := ⟨pe_int, fun R h k => k _ _ _ _ _ R (Ex.refl _) (.int i) h⟩
theorem je_bl {c : Bool} {j} : JE X (.Constant (.bool c) j pos) (tC (.bl c)) (dC (.bool c)) := ⟨pe_bl, fun R h k => k _ _ _ _ _ R (Ex.refl _) (.bl c) h⟩
theorem je_non {j} : JE X (.Constant .none j pos) (tC .non) (dC .none) := ⟨pe_non, fun R h k => k _ _ _ _ _ R (Ex.refl _) .non h⟩
theorem je_str {x : Str} {j} : JE X (.Constant (.str x) j pos) (tC (.str x)) (dC (.str x)) := ⟨pe_str, fun R h k => k _ _ _ _ _ R (Ex.refl _) (.str x) h⟩
def dNil : TDL := fun δ Q => Q [] δ
def dCons (t : TDE) (u : TDL) : TDL := fun δ Q => t δ fun d δ1 => u δ1 fun ds δ2 => Q (d :: ds) δ2
theorem ja_nil : JA X [] tNil dNil := ⟨pa_nil, fun R h k => k _ _ _ _ _ R (Ex.refl _) .nil h⟩
theorem ja_cons {u : TDL} (ha : JE X e ue t) (hr : JA X es ur u) (hs : starEach (e :: es) X.env = (false, eval e X.env) :: starEach es X.env := by rfl) : JA X (e :: es) (tCons ue ur) (dCons t u) := by
  obtain ⟨pe, se⟩ := ha
  obtain ⟨pr, sr⟩ := hr
  refine ⟨pa_cons pe pr hs, fun R h k => ?_⟩
  refine se R h fun v d δ1 H1 Hs1 R1 e1 r1 h1 => ?_
  exact sr R1 h1 fun vs ds δ2 H2 Hs2 R2 e2 r2 h2 => k _ _ _ _ _ R2 (e1.trans e2) (.cons (dp_mono e2 r1) r2) h2
def dTup (t : TDL) : TDE := fun δ Q => t δ fun ds δ' => ds.length ≤ 10000 ∧ Q (.tuple ds) δ'
theorem je_tup {t : TDL} {x1} (h : JA X es us t) : JE X (.Tuple es x1 pos) (tTup us) (dTup t) := by
  obtain ⟨pa, sa⟩ := h
  refine ⟨pe_tup pa, fun R h k => ?_⟩
  refine sa R h fun vs ds δ1 H1 Hs1 R1 e1 r1 ⟨z, q⟩ => ⟨by rw [dpAll_len r1]; exact Nat.le_trans z (by decide), fun p hp => ?_⟩
  have x := PExt.new R1.ex (.tup vs) hp
  exact k _ _ _ _ _ (R1.ext x) (e1.trans x.s) (.tup (.inl (.inl upd_same)) (dpAll_mono x.s r1)) q
def dN (t : TDL) : TDE := fun δ Q => t δ fun xs δ' => Q (.list xs) δ'
theorem je_new {t : TDL} (h : JN X e ue t) : JE X e ue (dN t) := by
  obtain ⟨pe, se⟩ := h
  refine ⟨pe, fun R h k => ?_⟩
  refine se R h fun p vs xs δ1 H1 Hs1 R1 hB h0 e1 r1 q => ?_
  have e2 := R1.freeze_ex h0
  exact k _ _ _ _ _ (R1.freeze hB) (e1.trans e2) (.lst (.inl (.inl upd_same)) (dpAll_mono e2 r1)) q
def dLst (t : TDL) : TDL := fun δ Q => t δ fun ds δ' => ds.length ≤ 10000 ∧ Q ds δ'
theorem jn_lst {t : TDL} (h : JA X es us t) : JN X (.List es pos) (tLst us) (dLst t) := by
  obtain ⟨pa, sa⟩ := h
  refine ⟨pe_lst pa, fun R h k => ?_⟩
  refine sa R h fun vs ds δ1 H1 Hs1 R1 e1 r1 ⟨z, q⟩ => ⟨by rw [dpAll_len r1]; exact Nat.le_trans z (by decide), fun p hp => ?_⟩
  exact k _ _ _ _ _ _ (R1.hide hp) (R1.base.none hp) (R1.frz.none (R1.ex.none hp)) e1 r1 q
def SimR (K : PySem.W.Frag) (r : R2) (rd : D → D → (D → Prop) → Prop) : Prop := ∀ {Hs H : Hp} {x y : V} {dx dy : D} {Q : D → Prop} {Q' : VK}, Ex Hs H → Dp K Hs x dx → Dp K Hs y dy → rd dx dy Q →
  (∀ v d Hs' H', PExt Hs H Hs' H' → Dp K Hs' v d → Q d → Q' v H') → r x y H Q'
structure OpD (X : Cy) (f : Value → Value → Sem Value) (r : R2) (rd : D → D → (D → Prop) → Prop) : Prop where
  p : OpR X f r
  s : SimR X.K r rd
def dOp (rd : D → D → (D → Prop) → Prop) (ta tb : TDE) : TDE := fun δ Q => ta δ fun x δ1 => tb δ1 fun y δ2 => rd x y fun d => Q d δ2
theorem sim_op {K : ZX} {r : R2} {rd : D → D → (D → Prop) → Prop} {ua ub : TE} (sr : SimR K r rd) (sa : SimE K ua ta) (sb : SimE K ub tb) : SimE K (tOp r ua ub) (dOp rd ta tb) := by
  intro B H0 hX σ δ H Hs Q Q' R h k
  refine sa R h fun x dx δ1 H1 Hs1 R1 e1 r1 h1 => ?_
  refine sb R1 h1 fun y dy δ2 H2 Hs2 R2 e2 r2 h2 => ?_
  exact sr R2.ex (dp_mono e2 r1) r2 h2 fun v d Hs' H' x r q => k _ _ _ _ _ (R2.ext x) ((e1.trans e2).trans x.s) r q
theorem je_op {op : Operator} {rd : D → D → (D → Prop) → Prop} (ho : OpD X (binaryOp op) r rd) (ha : JE X a ua ta) (hb : JE X b ub tb) : JE X (.BinOp a op b pos) (tOp r ua ub) (dOp rd ta tb) := by
  obtain ⟨o, s⟩ := ho
  obtain ⟨pa, sa⟩ := ha
  obtain ⟨pb, sb⟩ := hb
  exact ⟨pe_op o pa pb, sim_op s sa sb⟩
theorem je_cmp {op : CmpOp} {rd : D → D → (D → Prop) → Prop} (ho : OpD X (compareOp op) r rd) (ha : JE X a ua ta) (hb : JE X b ub tb) (hm : behindInMarks op b = false := by first | exact nomark _ | with_unfolding_all rfl) : JE X (.Compare a [op] [b] pos) (tOp r ua ub) (dOp rd ta tb) := by
  obtain ⟨o, s⟩ := ho
  obtain ⟨pa, sa⟩ := ha
  obtain ⟨pb, sb⟩ := hb
  exact ⟨pe_cmpR o pa pb hm, sim_op s sa sb⟩
def dTest (t : TDE) : TDB := fun δ Q => t δ fun d δ' => ∃ c, d = .bool c ∧ Q c δ'
theorem sim_test {K : ZX} {ua : TE} (sa : SimE K ua ta) : SimT K (tTest ua) (dTest ta) := by
  intro B H0 hX σ δ H Hs Q Q' R h k
  refine sa R h fun v d δ1 H1 Hs1 R1 e1 r1 ⟨c, e, q⟩ => ?_
  subst e
  cases r1
  exact ⟨c, rfl, k _ _ _ _ R1 e1 q⟩
theorem jt_cmp {op : CmpOp} {rd : D → D → (D → Prop) → Prop} (ho : OpD X (compareOp op) r rd) (ha : JE X a ua ta) (hb : JE X b ub tb) (hm : behindInMarks op b = false := by first | exact nomark _ | with_unfolding_all rfl) : JT X (.Compare a [op] [b] pos) (tTest (tOp r ua ub)) (dTest (dOp rd ta tb)) := by
  obtain ⟨o, s⟩ := ho
  obtain ⟨pa, sa⟩ := ha
  obtain ⟨pb, sb⟩ := hb
  exact ⟨pt_cmpR o pa pb hm, sim_test (sim_op s sa sb)⟩
def dChain (rd rd' : D → D → (D → Prop) → Prop) (ta tb tc : TDE) : TDE := fun δ Q => ta δ fun x δ1 => tb δ1 fun y δ2 => rd x y fun z => ∃ k, z = .bool k ∧ (if k = true then tc δ2 fun w δ3 => rd' y w fun d => Q d δ3 else Q (.bool false) δ2)
theorem sim_chain {K : ZX} {r r' : R2} {rd rd' : D → D → (D → Prop) → Prop} {ua ub uc : TE} {tc : TDE} (sr : SimR K r rd) (sr' : SimR K r' rd') (sa : SimE K ua ta) (sb : SimE K ub tb) (sc : SimE K uc tc) : SimE K (tChain r r' ua ub uc) (dChain rd rd' ta tb tc) := by
  intro B H0 hX σ δ H Hs Q Q' R h k
  refine sa R h fun x dx δ1 H1 Hs1 R1 e1 r1 h1 => ?_
  refine sb R1 h1 fun y dy δ2 H2 Hs2 R2 e2 r2 h2 => ?_
  refine sr R2.ex (dp_mono e2 r1) r2 h2 fun v d Hs3 H3 x3 r3 ⟨c, e, q⟩ => ?_
  subst e
  cases r3
  refine ⟨c, rfl, ?_⟩
  cases c with
  | true =>
    rw [if_pos rfl] at q ⊢
    refine sc (R2.ext x3) q fun w dw δ4 H4 Hs4 R4 e4 r4 h4 => ?_
    exact sr' R4.ex (dp_mono (x3.s.trans e4) r2) r4 h4 fun v d Hs5 H5 x5 r5 q5 => k _ _ _ _ _ (R4.ext x5) ((((e1.trans e2).trans x3.s).trans e4).trans x5.s) r5 q5
  | false =>
    rw [if_neg Bool.false_ne_true] at q ⊢
    exact k _ _ _ _ _ (R2.ext x3) ((e1.trans e2).trans x3.s) (.bl false) q
theorem je_chain {op op' : CmpOp} {c : Expr} {tc : TDE} {rd rd' : D → D → (D → Prop) → Prop} (ho : OpD X (compareOp op) r rd) (ho' : OpD X (compareOp op') r' rd') (ha : JE X a ua ta) (hb : JE X b ub tb) (hc : JE X c uc tc) (hm : lastMarks [op, op'] [b, c] = false := by with_unfolding_all rfl) :
    JE X (.Compare a [op, op'] [b, c] pos) (tChain r r' ua ub uc) (dChain rd rd' ta tb tc) := by
  obtain ⟨o, s⟩ := ho
  obtain ⟨o', s'⟩ := ho'
  obtain ⟨pa, sa⟩ := ha
  obtain ⟨pb, sb⟩ := hb
  obtain ⟨pc, sc⟩ := hc
  exact ⟨pe_chain o o' pa pb pc hm, sim_chain s s' sa sb sc⟩
theorem jt_chain {op op' : CmpOp} {c : Expr} {tc : TDE} {rd rd' : D → D → (D → Prop) → Prop} (ho : OpD X (compareOp op) r rd) (ho' : OpD X (compareOp op') r' rd') (ha : JE X a ua ta) (hb : JE X b ub tb) (hc : JE X c uc tc) (hm : lastMarks [op, op'] [b, c] = false := by with_unfolding_all rfl) :
    JT X (.Compare a [op, op'] [b, c] pos) (tTest (tChain r r' ua ub uc)) (dTest (dChain rd rd' ta tb tc)) := by
  obtain ⟨o, s⟩ := ho
  obtain ⟨o', s'⟩ := ho'
  obtain ⟨pa, sa⟩ := ha
  obtain ⟨pb, sb⟩ := hb
  obtain ⟨pc, sc⟩ := hc
  exact ⟨pt_chain o o' pa pb pc hm, sim_test (sim_chain s s' sa sb sc)⟩
def isNoneD : D → Bool
  | .none => true
  | _ => false
def dIsN (t : TDE) : TDE := fun δ Q => t δ fun d δ' => Q (.bool (isNoneD d)) δ'
def dNotN (t : TDE) : TDE := fun δ Q => t δ fun d δ' => Q (.bool (!isNoneD d)) δ'
theorem isNone_dec {K : PySem.W.Frag} {H : Hp} {v : V} {d : D} (r : Dp K H v d) : decide (v = .non) = isNoneD d := by
  cases r <;> rfl
theorem sim_isN {K : ZX} {ua : TE} (sa : SimE K ua ta) : SimE K (tIsN ua) (dIsN ta) := fun R h k => sa R h fun v d δ1 H1 Hs1 R1 e1 r1 q => by
  rw [isNone_dec r1]
  exact k _ _ _ _ _ R1 e1 (.bl _) q
theorem sim_notN {K : ZX} {ua : TE} (sa : SimE K ua ta) : SimE K (tNotN ua) (dNotN ta) := fun R h k => sa R h fun v d δ1 H1 Hs1 R1 e1 r1 q => by
  rw [isNone_dec r1]
  exact k _ _ _ _ _ R1 e1 (.bl _) q
theorem je_isN {j p'} (ha : JE X a ua ta) : JE X (.Compare a [.Is] [.Constant .none j p'] pos) (tIsN ua) (dIsN ta) := by
  obtain ⟨pa, sa⟩ := ha
  exact ⟨pe_cmp (pc_isN pa), sim_isN sa⟩
theorem je_notN {j p'} (ha : JE X a ua ta) : JE X (.Compare a [.IsNot] [.Constant .none j p'] pos) (tNotN ua) (dNotN ta) := by
  obtain ⟨pa, sa⟩ := ha
  exact ⟨pe_cmp (pc_notN pa), sim_notN sa⟩
theorem sim_B {K : ZX} {ua : TE} (sa : SimE K ua ta) : SimT K (tB ua) (dTest ta) := by
  intro B H0 hX σ δ H Hs Q Q' R h k
  refine sa R h fun v d δ1 H1 Hs1 R1 e1 r1 ⟨c, e, q⟩ => ?_
  subst e
  cases r1
  exact ⟨c, rfl, k _ _ _ _ R1 e1 q⟩
theorem jt_isN {j p'} (ha : JE X a ua ta) : JT X (.Compare a [.Is] [.Constant .none j p'] pos) (tB (tIsN ua)) (dTest (dIsN ta)) := by
  obtain ⟨pa, sa⟩ := ha
  exact ⟨pt_cmp (pc_isN pa), sim_B (sim_isN sa)⟩
theorem jt_notN {j p'} (ha : JE X a ua ta) : JT X (.Compare a [.IsNot] [.Constant .none j p'] pos) (tB (tNotN ua)) (dTest (dNotN ta)) := by
  obtain ⟨pa, sa⟩ := ha
  exact ⟨pt_cmp (pc_notN pa), sim_B (sim_notN sa)⟩
theorem jt_val (ha : JE X e ue t) (he : ∀ whole, isTrue e X.env whole = (do let v ← whole; standAt e.pos; holding [v] (truthy v)) := by intro _; rfl) : JT X e (tB ue) (dTest t) := by
  obtain ⟨pa, sa⟩ := ha
  exact ⟨pt_val pa he, sim_B sa⟩
def truD : D → (Bool → Prop) → Prop
  | .none, Q => Q false
  | .bool b, Q => Q b
  | .int i, Q => Q (i != 0)
  | .str x, Q => x.length ≤ 100000 ∧ Q (x.length != 0)
  | .list xs, Q => Q (!xs.isEmpty)
  | .tuple xs, Q => Q (!xs.isEmpty)
  | .dict _, _ => False
def dTru (t : TDE) : TDB := fun δ Q => t δ fun d δ' => truD d fun c => Q c δ'
theorem jt_tru (ha : JE X e ue t) (he : ∀ whole, isTrue e X.env whole = (do let v ← whole; standAt e.pos; holding [v] (truthy v)) := by intro _; rfl) : JT X e (fun σ H Q => ue σ H fun x H' => ∃ k, TruV X.K x H' k ∧ Q k H') (dTru t) := by
  obtain ⟨pa, sa⟩ := ha
  refine ⟨pt_truth pa he, fun R h k => sa R h fun v d δ1 H1 Hs1 R1 e1 r1 q => ?_⟩
  cases r1 with
  | non => exact ⟨_, rfl, k _ _ _ _ R1 e1 q⟩
  | bl b => exact ⟨_, rfl, k _ _ _ _ R1 e1 q⟩
  | int i => exact ⟨_, rfl, k _ _ _ _ R1 e1 q⟩
  | str x => exact ⟨_, ⟨Nat.le_trans q.1 (by decide), rfl⟩, k _ _ _ _ R1 e1 (by
      have e : ((x.length : Int) != 0) = (x.length != 0) := by
        cases h : x.length with
        | zero => rfl
        | succ n => simp; omega
      rw [e]
      exact q.2)⟩
  | @lst a xs ds h1 h2 =>
    refine ⟨!ds.isEmpty, .inl ⟨xs, R1.ex.sl h1, ?_⟩, k _ _ _ _ R1 e1 q⟩
    cases h2 <;> rfl
  | @tup a xs ds h1 h2 =>
    refine ⟨!ds.isEmpty, .inr (.inl ⟨xs, R1.ex.st h1, ?_⟩), k _ _ _ _ R1 e1 q⟩
    cases h2 <;> rfl
def dAnd (t u : TDB) : TDB := fun δ Q => t δ fun c δ1 => if c = true then u δ1 Q else Q false δ1
def dOr (t u : TDB) : TDB := fun δ Q => t δ fun c δ1 => if c = true then Q true δ1 else u δ1 Q
def dNot (t : TDB) : TDB := fun δ Q => t δ fun c δ1 => Q (!c) δ1
theorem JW.jt {t : TDB} (h : JW X e vt t) : JT X e vt t := ⟨h.p.pt, h.s⟩
theorem jw_and1 {t : TDB} (h : JT X a vt t) : JW X (.BoolOp .And [a] pos) vt t := by
  obtain ⟨p, s⟩ := h
  exact ⟨pw_and1 p, s⟩
theorem jw_or1 {t : TDB} (h : JT X a vt t) : JW X (.BoolOp .Or [a] pos) vt t := by
  obtain ⟨p, s⟩ := h
  exact ⟨pw_or1 p, s⟩
theorem jw_and {rest : List Expr} {t u : TDB} (ha : JT X a vt t) (hb : JW X (.BoolOp .And (b :: rest) pos) vu u) : JW X (.BoolOp .And (a :: b :: rest) pos) (tAnd vt vu) (dAnd t u) := by
  obtain ⟨p, s⟩ := ha
  obtain ⟨p2, s2⟩ := hb
  refine ⟨pw_and p p2, fun R h k => s R h fun c δ1 H1 Hs1 R1 e1 q => ?_⟩
  cases c with
  | true =>
    rw [if_pos rfl] at q ⊢
    exact s2 R1 q fun b δ2 H2 Hs2 R2 e2 q2 => k _ _ _ _ R2 (e1.trans e2) q2
  | false =>
    rw [if_neg Bool.false_ne_true] at q ⊢
    exact k _ _ _ _ R1 e1 q
theorem jw_or {rest : List Expr} {t u : TDB} (ha : JT X a vt t) (hb : JW X (.BoolOp .Or (b :: rest) pos) vu u) : JW X (.BoolOp .Or (a :: b :: rest) pos) (tOr vt vu) (dOr t u) := by
  obtain ⟨p, s⟩ := ha
  obtain ⟨p2, s2⟩ := hb
  refine ⟨pw_or p p2, fun R h k => s R h fun c δ1 H1 Hs1 R1 e1 q => ?_⟩
  cases c with
  | true =>
    rw [if_pos rfl] at q ⊢
    exact k _ _ _ _ R1 e1 q
  | false =>
    rw [if_neg Bool.false_ne_true] at q ⊢
    exact s2 R1 q fun b δ2 H2 Hs2 R2 e2 q2 => k _ _ _ _ R2 (e1.trans e2) q2
theorem jt_not {t : TDB} (ha : JT X a vt t) : JT X (.UnaryOp .Not a pos) (tNot vt) (dNot t) := by
  obtain ⟨p, s⟩ := ha
  exact ⟨pt_not p, fun R h k => s R h fun c δ1 H1 Hs1 R1 e1 q => k _ _ _ _ R1 e1 q⟩
def dAndV (t u : TDE) : TDE := fun δ Q => t δ fun d δ1 => ∃ c, d = .bool c ∧ if c = true then u δ1 Q else Q (.bool false) δ1
def dOrV (t u : TDE) : TDE := fun δ Q => t δ fun d δ1 => ∃ c, d = .bool c ∧ if c = true then Q (.bool true) δ1 else u δ1 Q
def dNotV (t : TDE) : TDE := fun δ Q => t δ fun d δ1 => ∃ c, d = .bool c ∧ Q (.bool (!c)) δ1
theorem je_one {op} (h : JE X a ua t) : JE X (.BoolOp op [a] pos) ua t := by
  obtain ⟨p, s⟩ := h
  exact ⟨pe_one p, s⟩
theorem je_and {rest : List Expr} (ha : JE X a ua ta) (hb : JE X (.BoolOp .And (b :: rest) pos) ub tb) : JE X (.BoolOp .And (a :: b :: rest) pos) (tAndV ua ub) (dAndV ta tb) := by
  obtain ⟨p, s⟩ := ha
  obtain ⟨p2, s2⟩ := hb
  refine ⟨pe_and p p2, fun R h k => s R h fun v d δ1 H1 Hs1 R1 e1 r1 ⟨c, e, q⟩ => ?_⟩
  subst e
  cases r1
  refine ⟨c, rfl, ?_⟩
  cases c with
  | true =>
    rw [if_pos rfl] at q ⊢
    exact s2 R1 q fun v d δ2 H2 Hs2 R2 e2 r2 q2 => k _ _ _ _ _ R2 (e1.trans e2) r2 q2
  | false =>
    rw [if_neg Bool.false_ne_true] at q ⊢
    exact k _ _ _ _ _ R1 e1 (.bl false) q
theorem je_or {rest : List Expr} (ha : JE X a ua ta) (hb : JE X (.BoolOp .Or (b :: rest) pos) ub tb) : JE X (.BoolOp .Or (a :: b :: rest) pos) (tOrV ua ub) (dOrV ta tb) := by
  obtain ⟨p, s⟩ := ha
  obtain ⟨p2, s2⟩ := hb
  refine ⟨pe_or p p2, fun R h k => s R h fun v d δ1 H1 Hs1 R1 e1 r1 ⟨c, e, q⟩ => ?_⟩
  subst e
  cases r1
  refine ⟨c, rfl, ?_⟩
  cases c with
  | true =>
    rw [if_pos rfl] at q ⊢
    exact k _ _ _ _ _ R1 e1 (.bl true) q
  | false =>
    rw [if_neg Bool.false_ne_true] at q ⊢
    exact s2 R1 q fun v d δ2 H2 Hs2 R2 e2 r2 q2 => k _ _ _ _ _ R2 (e1.trans e2) r2 q2
theorem je_not (ha : JE X a ua ta) : JE X (.UnaryOp .Not a pos) (tNotV ua) (dNotV ta) := by
  obtain ⟨p, s⟩ := ha
  refine ⟨pe_not p, fun R h k => s R h fun v d δ1 H1 Hs1 R1 e1 r1 ⟨c, e, q⟩ => ?_⟩
  subst e
  cases r1
  exact ⟨c, rfl, k _ _ _ _ _ R1 e1 (.bl _) q⟩
def dIf (t : TDB) (u w : TDE) : TDE := fun δ Q => t δ fun c δ1 => if c = true then u δ1 Q else w δ1 Q
theorem je_ifExp {c : Expr} {tc : TDB} (hc : JT X c vt tc) (ha : JE X a ua ta) (hb : JE X b ub tb) : JE X (.IfExp c a b pos) (tIf vt ua ub) (dIf tc ta tb) := by
  obtain ⟨p, s⟩ := hc
  obtain ⟨p2, s2⟩ := ha
  obtain ⟨p3, s3⟩ := hb
  refine ⟨pe_ifExp p p2 p3, fun R h k => s R h fun c δ1 H1 Hs1 R1 e1 q => ?_⟩
  cases c with
  | true =>
    rw [if_pos rfl] at q ⊢
    exact s2 R1 q fun v d δ2 H2 Hs2 R2 e2 r2 q2 => k _ _ _ _ _ R2 (e1.trans e2) r2 q2
  | false =>
    rw [if_neg Bool.false_ne_true] at q ⊢
    exact s3 R1 q fun v d δ2 H2 Hs2 R2 e2 r2 q2 => k _ _ _ _ _ R2 (e1.trans e2) r2 q2
end
end EL
namespace EL
open PySem PySem.Spec PyProof.Rows L2
theorem dp_plain : ∀ {K : PySem.W.Frag} {H : Hp} {d : D} {v : V}, Dp K H v d → d.plain = true := by
  intro K H d v
  refine PyData.rec (motive_1 := fun d => ∀ v, Dp K H v d → d.plain = true) (motive_2 := fun ds => ∀ vs, DpAll K H vs ds → PyData.plainAll ds = true) (motive_3 := fun _ => True) (motive_4 := fun _ => True)
    (fun v r => rfl) (fun b v r => rfl) (fun i v r => rfl) (fun s v r => rfl) (fun xs ih v r => ?_) (fun xs ih v r => ?_) (fun _ _ v r => ?_) (fun vs r => rfl) (fun d ds h1 h2 vs r => ?_) trivial (fun _ _ _ _ => trivial) (fun _ _ _ _ => trivial) d v
  · cases r with
    | lst h a =>
      rw [PyData.plain]
      exact ih _ a
  · cases r with
    | tup h a =>
      rw [PyData.plain]
      exact ih _ a
  · cases r
  · cases r with
    | cons a b =>
      rw [PyData.plainAll, h1 _ a, h2 _ b]
      rfl
section
variable {X : Cy}
def rCatS (K : PySem.W.Frag) : R2 := fun x y H Q => ∃ l b xs zs, x = .ref l ∧ y = .ref b ∧ SqL K H l xs ∧ SqL K H b zs ∧ xs.length + zs.length ≤ sizeLine ∧ ∀ p, H p = none → Q (.ref p) (upd H p (.lst (xs ++ zs)))
theorem op_catS : OpR X (binaryOp .Add) (rCatS X.K) := by
  intro pins s σ H x y v u Q I rx ry h
  obtain ⟨l, b, xs, zs, rfl, rfl, hH, hB, hz, q⟩ := h
  cases rx
  cases ry
  obtain ⟨its, r, p1, z1⟩ := I.list hH
  obtain ⟨its2, r2, p2, z2⟩ := I.list hB
  obtain ⟨⟨cls, dd, data, sl⟩, ho, hc, n, hd⟩ := p1.isList
  obtain ⟨⟨cls2, dd2, data2, sl2⟩, ho2, hc2, n2, hd2⟩ := p2.isList
  simp only at hc hd hc2 hd2
  subst hc hd hc2 hd2
  have e : its.toArray ++ its2.toArray = (its ++ its2).toArray := by simp
  refine concat_meets ⟨_, ho, rfl⟩ ⟨_, ho2, rfl⟩ noFill_list_add seq_list_add PySem.F.slot_list_add PySem.F.entry_list_add (PySem.F.args_list_add_2 _ _) (list_addW l b its.toArray its2.toArray n n2 dd dd2 sl sl2 (by rw [List.size_toArray, List.size_toArray, ← r.length, ← r2.length]; exact hz)) ⟨ho, ho2, ?_⟩
  rw [e]
  exact ⟨.ref _, _, I.lnew (t' := s.toks) (r.append r2) (by rw [List.length_append]; omega), rfl, q _ I.fresh⟩
def addD : D → D → (D → Prop) → Prop
  | .int i, .int j, Q => Q (.int (i + j))
  | .str x, .str y, Q => x.length + y.length ≤ 100000 ∧ Q (.str (x ++ y))
  | .list xs, .list ys, Q => xs.length + ys.length ≤ 100000 ∧ Q (.list (xs ++ ys))
  | .tuple xs, .tuple ys, Q => xs.length + ys.length ≤ 100000 ∧ Q (.tuple (xs ++ ys))
  | _, _, _ => False
theorem sz5 {n : Nat} (h : n ≤ 100000) : n ≤ sizeLine := Nat.le_trans h (by decide)
def rOr (r r' : R2) : R2 := fun x y H Q => r x y H Q ∨ r' x y H Q
def rStrAdd : R2 := fun x y H Q => ∃ i j, x = .str i ∧ y = .str j ∧ i.length + j.length ≤ sizeLine ∧ Q (.str (i ++ j)) H
def rAddU (K : PySem.W.Frag) : R2 := rOr (rI0 fun i j => .int (i + j)) (rOr rStrAdd (rOr (rCatS K) (rCatA K)))
theorem do_add : OpD X (binaryOp .Add) (rAddU X.K) addD := by
  refine ⟨op_add.or (op_add_str.or (op_catS.or op_catA)), ?_⟩
  intro Hs H x y dx dy Q Q' e rx ry h k
  cases rx with
  | int i =>
    cases ry with
    | int j => exact .inl ⟨i, j, rfl, rfl, k _ _ _ _ (PExt.refl e) (.int _) h⟩
    | _ => exact h.elim
  | str i =>
    cases ry with
    | str j => exact .inr (.inl ⟨i, j, rfl, rfl, sz5 h.1, k _ _ _ _ (PExt.refl e) (.str _) h.2⟩)
    | _ => exact h.elim
  | @lst a xs ds h1 a1 =>
    cases ry with
    | @lst b ys es h2 a2 =>
      refine .inr (.inr (.inl ⟨a, b, xs, ys, rfl, rfl, e.sl h1, e.sl h2, by rw [dpAll_len a1, dpAll_len a2]; exact sz5 h.1, fun p hp => ?_⟩))
      have x := PExt.new e (.lst (xs ++ ys)) hp
      exact k _ _ _ _ x (.lst (.inl (.inl upd_same)) (dpAll_mono x.s (dpAll_app a1 a2))) h.2
    | _ => exact h.elim
  | @tup a xs ds h1 a1 =>
    cases ry with
    | @tup b ys es h2 a2 =>
      refine .inr (.inr (.inr ⟨a, b, xs, ys, rfl, rfl, e.st h1, e.st h2, by rw [dpAll_len a1, dpAll_len a2]; exact sz5 h.1, fun hx => ?_, fun hx hy => ?_, fun hx hy p hp => ?_⟩))
      · subst hx
        cases a1
        exact k _ _ _ _ (PExt.refl e) (.tup h2 a2) h.2
      · subst hy
        cases a2
        refine k _ _ _ _ (PExt.refl e) (.tup h1 a1) ?_
        have := h.2
        rw [List.append_nil] at this
        exact this
      · have x := PExt.new e (.tup (xs ++ ys)) hp
        exact k _ _ _ _ x (.tup (.inl (.inl upd_same)) (dpAll_mono x.s (dpAll_app a1 a2))) h.2
    | _ => exact h.elim
  | _ => exact h.elim
def intD (C : Int → Int → Prop) (g : Int → Int → Int) : D → D → (D → Prop) → Prop
  | .int i, .int j, Q => C i j ∧ Q (.int (g i j))
  | _, _, _ => False
theorem do_int {f : Value → Value → Sem Value} {C C' : Int → Int → Prop} {g : Int → Int → Int} (ho : OpR X f (rI C' fun i j => .int (g i j))) (hc : ∀ i j, C i j → C' i j) : OpD X f (rI C' fun i j => .int (g i j)) (intD C g) := by
  refine ⟨ho, ?_⟩
  intro Hs H x y dx dy Q Q' e rx ry h k
  cases rx with
  | int i =>
    cases ry with
    | int j => exact ⟨i, j, rfl, rfl, hc _ _ h.1, k _ _ _ _ (PExt.refl e) (.int _) h.2⟩
    | _ => exact h.elim
  | _ => exact h.elim
def subD : D → D → (D → Prop) → Prop
  | .int i, .int j, Q => Q (.int (i - j))
  | _, _, _ => False
theorem do_sub : OpD X (binaryOp .Sub) (rI0 fun i j => .int (i - j)) subD := by
  refine ⟨op_sub, ?_⟩
  intro Hs H x y dx dy Q Q' e rx ry h k
  cases rx with
  | int i =>
    cases ry with
    | int j => exact ⟨i, j, rfl, rfl, k _ _ _ _ (PExt.refl e) (.int _) h⟩
    | _ => exact h.elim
  | _ => exact h.elim
def SmallI (i : Int) : Prop := -(2 ^ 64) < i ∧ i < 2 ^ 64
def mulD : D → D → (D → Prop) → Prop := intD (fun i j => SmallI i ∨ SmallI j) (fun i j => i * j)
theorem do_mul : OpD X (binaryOp .Mult) (rI CMul fun i j => .int (i * j)) mulD := do_int op_mul fun _ _ h => h
def modD : D → D → (D → Prop) → Prop := intD (fun _ j => 0 < j) (fun i j => i % j)
theorem do_mod : OpD X (binaryOp .Mod) (rI (fun _ j => 0 < j) fun i j => .int (i % j)) modD := do_int op_mod fun _ _ h => h
def fdivD : D → D → (D → Prop) → Prop := intD (fun _ j => 0 < j ∧ j < 1073741824) (fun i j => i / j)
theorem do_fdiv : OpD X (binaryOp .FloorDiv) (rI CDiv fun i j => .int (i / j)) fdivD := do_int op_fdiv fun _ _ h => h
def powD : D → D → (D → Prop) → Prop := intD (fun i j => (0 ≤ j ∧ j ≤ 1000) ∧ SmallI i) (fun i j => i ^ j.toNat)
theorem do_pow : OpD X (binaryOp .Pow) (rI CPow fun i j => .int (i ^ j.toNat)) powD := do_int op_pow fun _ _ h => ⟨h.1.1, by omega, by have := h.2; unfold SmallI at this; omega⟩
theorem room200 {A : Around} {k : Nat} (h : A.units + 200 < cLine) (hk : k ≤ 150) : A.units + k < cLine := by omega
def eqD (a b : D) (Q : D → Prop) : Prop := min a.depth b.depth ≤ 150 ∧ Q (.bool (PyData.eqv a b))
def neD (a b : D) (Q : D → Prop) : Prop := min a.depth b.depth ≤ 150 ∧ Q (.bool (!PyData.eqv a b))
def rEqP (K : PySem.W.Frag) : R2 := fun x y H Q => ∃ d e, Dp K H x d ∧ Dp K H y e ∧ min d.depth e.depth ≤ 150 ∧ Q (.bl (PyData.eqv d e)) H
def rNeP (K : PySem.W.Frag) : R2 := fun x y H Q => ∃ d e, Dp K H x d ∧ Dp K H y e ∧ min d.depth e.depth ≤ 150 ∧ Q (.bl (!PyData.eqv d e)) H
theorem op_eqP (hu : X.A.units + 200 < cLine) : OpR X (compareOp .Eq) (rEqP X.K) := by
  intro pins s σ H x y v u Q I rx ry h
  obtain ⟨d, e, hd, he, hm, q⟩ := h
  obtain ⟨as, r1⟩ := Dp.reads I d x v hd rx
  obtain ⟨bs, r2⟩ := Dp.reads I e y u he ry
  exact SeqAt.eq_plain r1 r2 (dp_plain hd) (dp_plain he) (room200 hu hm) ⟨.bl _, H, I, rfl, q⟩
theorem op_neP (hu : X.A.units + 200 < cLine) : OpR X (compareOp .NotEq) (rNeP X.K) := by
  intro pins s σ H x y v u Q I rx ry h
  obtain ⟨d, e, hd, he, hm, q⟩ := h
  obtain ⟨as, r1⟩ := Dp.reads I d x v hd rx
  obtain ⟨bs, r2⟩ := Dp.reads I e y u he ry
  exact SeqAt.ne_plain r1 r2 (dp_plain hd) (dp_plain he) (room200 hu hm) ⟨.bl _, H, I, rfl, q⟩
theorem do_eq (hu : X.A.units + 200 < cLine) : OpD X (compareOp .Eq) (rEqP X.K) eqD := ⟨op_eqP hu, fun e rx ry h k => ⟨_, _, dp_mono e rx, dp_mono e ry, h.1, k _ _ _ _ (PExt.refl e) (.bl _) h.2⟩⟩
theorem do_ne (hu : X.A.units + 200 < cLine) : OpD X (compareOp .NotEq) (rNeP X.K) neD := ⟨op_neP hu, fun e rx ry h k => ⟨_, _, dp_mono e rx, dp_mono e ry, h.1, k _ _ _ _ (PExt.refl e) (.bl _) h.2⟩⟩
def ordD (g : D → D → Bool) (a b : D) (Q : D → Prop) : Prop := PySem.W.alike a b = true ∧ isNoneD a = false ∧ min a.depth b.depth ≤ 150 ∧ Q (.bool (g a b))
def rOrd (K : PySem.W.Frag) (g : D → D → Bool) : R2 := fun x y H Q => ∃ d e, Dp K H x d ∧ Dp K H y e ∧ PySem.W.alike d e = true ∧ isNoneD d = false ∧ min d.depth e.depth ≤ 150 ∧ Q (.bl (g d e)) H
theorem nn {d : D} (h : isNoneD d = false) : d ≠ .none := fun z => by
  subst z
  cases h
theorem do_ord {op : CmpOp} {g : D → D → Bool} (hu : X.A.units + 200 < cLine) (rule : ∀ (s : Shared) (a b : Value) (da db : D) (as bs : List Addr) (Q : Value → Shared → Prop), Reads s.heap a da as → Reads s.heap b db bs → PySem.W.alike da db = true → da ≠ .none → X.A.units + min da.depth db.depth < cLine → Q (.bool (g da db)) s → wpAny (model X.prog X.w) X.A (compareOp op a b) Q X.xe s) :
    OpD X (compareOp op) (rOrd X.K g) (ordD g) := by
  refine ⟨?_, fun e rx ry h k => ⟨_, _, dp_mono e rx, dp_mono e ry, h.1, h.2.1, h.2.2.1, k _ _ _ _ (PExt.refl e) (.bl _) h.2.2.2⟩⟩
  intro pins s σ H x y v u Q I rx ry h
  obtain ⟨d, e, hd, he, hl, hn, hm, q⟩ := h
  obtain ⟨as, r1⟩ := Dp.reads I d x v hd rx
  obtain ⟨bs, r2⟩ := Dp.reads I e y u he ry
  exact rule _ _ _ _ _ _ _ _ r1 r2 hl (nn hn) (room200 hu hm) ⟨.bl _, H, I, rfl, q⟩
abbrev ltD := ordD fun a b => PySem.W.dataLt a b
abbrev gtD := ordD fun a b => PySem.W.dataLt b a
abbrev leD := ordD fun a b => !PySem.W.dataLt b a
abbrev geD := ordD fun a b => !PySem.W.dataLt a b
theorem do_lt (hu : X.A.units + 200 < cLine) : OpD X (compareOp .Lt) (rOrd X.K (fun a b => PySem.W.dataLt a b)) ltD := do_ord hu fun _ _ _ _ _ _ _ _ h1 h2 h3 h4 h5 h6 => PySem.W.lt_data h1 h2 h3 h4 h5 h6
theorem do_gt (hu : X.A.units + 200 < cLine) : OpD X (compareOp .Gt) (rOrd X.K (fun a b => PySem.W.dataLt b a)) gtD := do_ord hu fun _ _ _ _ _ _ _ _ h1 h2 h3 h4 h5 h6 => PySem.W.gt_data h1 h2 h3 h4 h5 h6
theorem do_le (hu : X.A.units + 200 < cLine) : OpD X (compareOp .LtE) (rOrd X.K (fun a b => !PySem.W.dataLt b a)) leD := do_ord hu fun _ _ _ _ _ _ _ _ h1 h2 h3 h4 h5 h6 => PySem.W.le_data h1 h2 h3 h4 h5 h6
theorem do_ge (hu : X.A.units + 200 < cLine) : OpD X (compareOp .GtE) (rOrd X.K (fun a b => !PySem.W.dataLt a b)) geD := do_ord hu fun _ _ _ _ _ _ _ _ h1 h2 h3 h4 h5 h6 => PySem.W.ge_data h1 h2 h3 h4 h5 h6
end
end EL
namespace EL
open PySem PySem.Spec PyProof.Rows L2
section
variable {X : Cy} {e a b : Expr} {es : List Expr} {pos : Pos} {t ta tb : TDE} {ue ua ub : TE} {us : TA} {ul uh : TO} {pins : List (Addr × Obj)} {σ : L2.St} {H : Hp} {s : Shared}
theorem dpAll_at {K : PySem.W.Frag} {H : Hp} {vs : List V} {ds : List D} {i : Int} {d : D} (h : DpAll K H vs ds) (e : atI ds i = some d) : ∃ v, atI vs i = some v ∧ Dp K H v d := by
  unfold atI at e ⊢
  rw [dpAll_len h]
  cases h1 : ixN ds.length i with
  | none =>
    rw [h1] at e
    cases e
  | some j =>
    rw [h1] at e
    obtain ⟨v, e1, r⟩ := dpAll_get h (show ds[j]? = some d from e)
    exact ⟨v, e1, r⟩
theorem atI_pos {α : Type} {xs : List α} {i : Int} (h : 0 ≤ i) : atI xs i = xs[i.toNat]? := by
  unfold atI ixN
  rw [if_pos h]
  by_cases h1 : i < xs.length
  · rw [if_pos h1]
    rfl
  · rw [if_neg h1]
    have : xs.length ≤ i.toNat := by omega
    rw [List.getElem?_eq_none this]
    rfl
theorem atI_cast {α : Type} {xs : List α} (n : Nat) : atI xs (n : Int) = xs[n]? := by
  rw [atI_pos (by omega)]
  simp
def ixD : D → D → (D → Prop) → Prop
  | .list xs, .int i, Q => ∃ d, atI xs i = some d ∧ Q d
  | .tuple xs, .int i, Q => ∃ d, atI xs i = some d ∧ Q d
  | .str z, .int i, Q => z.length ≤ 100000 ∧ ∃ c, atI z.cps.toList i = some c ∧ Q (.str ⟨#[c]⟩)
  | _, _, _ => False
theorem sim_ix {K : PySem.W.Frag} : SimR K (fun x y H Q => rIxL K x y H Q ∨ (rIxT K x y H Q ∨ rIxS x y H Q)) ixD := by
  intro Hs H x y dx dy Q Q' e rx ry h k
  cases rx with
  | str z =>
    cases ry with
    | int i =>
      obtain ⟨z1, c, hc, q⟩ := h
      exact .inr (.inr ⟨z, i, c, rfl, rfl, sz5 z1, hc, k _ _ _ _ (PExt.refl e) (.str _) q⟩)
    | _ => exact h.elim
  | @lst p xs ds h1 a1 =>
    cases ry with
    | int i =>
      obtain ⟨d, hd, q⟩ := h
      obtain ⟨v, e1, r⟩ := dpAll_at a1 hd
      exact .inl ⟨p, xs, i, v, rfl, rfl, e.sl h1, e1, k _ _ _ _ (PExt.refl e) r q⟩
    | _ => exact h.elim
  | @tup p xs ds h1 a1 =>
    cases ry with
    | int i =>
      obtain ⟨d, hd, q⟩ := h
      obtain ⟨v, e1, r⟩ := dpAll_at a1 hd
      exact .inr (.inl ⟨p, xs, i, v, rfl, rfl, e.st h1, e1, k _ _ _ _ (PExt.refl e) r q⟩)
    | _ => exact h.elim
  | _ => exact h.elim
def rIxU (K : PySem.W.Frag) : R2 := fun x y H Q => rIxL K x y H Q ∨ (rIxT K x y H Q ∨ rIxS x y H Q)
theorem je_ix (ha : JE X a ua ta) (hb : JE X b ub tb) (hs : PlainIx b := by exact fun _ _ => rfl) : JE X (.Subscript a b pos) (tOp (rIxU X.K) ua ub) (dOp ixD ta tb) := by
  obtain ⟨pa, sa⟩ := ha
  obtain ⟨pb, sb⟩ := hb
  exact ⟨pe_ix ix_seq pa pb hs, sim_op sim_ix sa sb⟩
abbrev TDO := Dl → (Option Int → Dl → Prop) → Prop
def SimO (K : ZX) (te : TO) (t : TDO) : Prop := ∀ {B H0 : Hp} [XOk K B H0] {σ : L2.St} {δ : Dl} {H Hs : Hp} {Q : Option Int → Dl → Prop} {Q' : Option Int → Hp → Prop}, Rep K B H0 σ δ H Hs → t δ Q →
  (∀ o δ' H' Hs', Rep K B H0 σ δ' H' Hs' → Ex Hs Hs' → Q o δ' → Q' o H') → te σ H Q'
structure JO (X : Cy) (e : Option Expr) (u : TO) (t : TDO) : Prop where
  p : PO X e u
  s : SimO X.z u t
def dNoPart : TDO := fun δ Q => Q none δ
def dPart (t : TDE) : TDO := fun δ Q => t δ fun d δ' => ∃ i, d = .int i ∧ Q (some i) δ'
theorem jo_none : JO X none tNoPart dNoPart := ⟨po_none, fun R h k => k _ _ _ _ R (Ex.refl _) h⟩
theorem jo_some (h : JE X e ue t) : JO X (some e) (tPart ue) (dPart t) := by
  obtain ⟨p, s⟩ := h
  refine ⟨po_some p, fun R h k => s R h fun v d δ1 H1 Hs1 R1 e1 r1 ⟨i, e, q⟩ => ?_⟩
  subst e
  cases r1
  exact ⟨i, rfl, k _ _ _ _ R1 e1 q⟩
def cutA {α : Type} (xs : List α) (lo hi : Option Int) : List α := (xs.drop (HT.sIx xs.length 0 lo)).take (HT.sIx xs.length xs.length hi - HT.sIx xs.length 0 lo)
theorem cutA_V (xs : List V) (lo hi : Option Int) : cutV xs lo hi = cutA xs lo hi := rfl
theorem dpAll_cut {K : PySem.W.Frag} {H : Hp} {vs : List V} {ds : List D} (h : DpAll K H vs ds) (lo hi : Option Int) : DpAll K H (cutV vs lo hi) (cutA ds lo hi) := by
  rw [cutA_V]
  unfold cutA
  rw [dpAll_len h]
  exact dpAll_take _ (dpAll_drop _ h)
def dSlN (t : TDE) (lo hi : TDO) : TDL := fun δ Q => t δ fun d δ1 => lo δ1 fun l δ2 => hi δ2 fun u δ3 => ∃ xs, d = .list xs ∧ Q (cutA xs l u) δ3
theorem jn_slice {lo hi : Option Expr} {tl th : TDO} {p2 : Pos} (he : JE X e ue t) (hl : JO X lo ul tl) (hh : JO X hi uh th) : JN X (.Subscript e (.Slice lo hi none p2) pos) (tSl (rSlL X.K) ue ul uh) (dSlN t tl th) := by
  obtain ⟨p, s⟩ := he
  obtain ⟨pl, sl⟩ := hl
  obtain ⟨ph, sh⟩ := hh
  refine ⟨pe_slice sl_list p pl ph, fun R h k => s R h fun v d δ1 H1 Hs1 R1 e1 r1 h1 => sl R1 h1 fun o δ2 H2 Hs2 R2 e2 h2 => sh R2 h2 fun o' δ3 H3 Hs3 R3 e3 ⟨xs, e, q⟩ => ?_⟩
  subst e
  cases r1 with
  | @lst a vs ds h1 a1 =>
    have e4 := e2.trans e3
    refine ⟨a, vs, rfl, R3.ex.sl (e4.sl h1), fun p hp => ?_⟩
    exact k _ _ _ _ _ _ (R3.hide hp) (R3.base.none hp) (R3.frz.none (R3.ex.none hp)) (e1.trans e4) (dpAll_cut (dpAll_mono e4 a1) o o') q
def slD : D → Option Int → Option Int → (D → Prop) → Prop
  | .str z, l, u, Q => z.length ≤ 100000 ∧ Q (.str (cutS z l u))
  | .list xs, l, u, Q => Q (.list (cutA xs l u))
  | .tuple xs, l, u, Q => Q (.tuple (cutA xs l u))
  | _, _, _, _ => False
def dSl (t : TDE) (lo hi : TDO) : TDE := fun δ Q => t δ fun d δ1 => lo δ1 fun l δ2 => hi δ2 fun u δ3 => slD d l u fun d' => Q d' δ3
theorem sIx_le2 (n : Nat) (o : Option Int) : HT.sIx n n o ≤ n := HT.sIx_le _ _ (Nat.le_refl _) _
theorem cut_whole {α : Type} {xs : List α} {lo hi : Option Int} (h : HT.sIx xs.length 0 lo = 0 ∧ HT.sIx xs.length xs.length hi = xs.length) : cutA xs lo hi = xs := by
  unfold cutA
  rw [h.1, h.2, Nat.sub_zero, List.drop_zero, List.take_length]
def rSlU (K : PySem.W.Frag) : V → Option Int → Option Int → Hp → VK → Prop := fun x lo hi H Q => rSlL K x lo hi H Q ∨ (rSlA K x lo hi H Q ∨ rSlS x lo hi H Q)
theorem je_slice {lo hi : Option Expr} {tl th : TDO} {p2 : Pos} (he : JE X e ue t) (hl : JO X lo ul tl) (hh : JO X hi uh th) : JE X (.Subscript e (.Slice lo hi none p2) pos) (tSl (rSlU X.K) ue ul uh) (dSl t tl th) := by
  obtain ⟨p, s⟩ := he
  obtain ⟨pl, sl⟩ := hl
  obtain ⟨ph, sh⟩ := hh
  refine ⟨pe_slice (sl_list.or (sl_tupA.or sl_str)) p pl ph, ?_⟩
  intro B H0 hX σ δ H Hs Q Q' R h k
  refine s R h fun v d δ1 H1 Hs1 R1 e1 r1 h1 => sl R1 h1 fun o δ2 H2 Hs2 R2 e2 h2 => sh R2 h2 fun o' δ3 H3 Hs3 R3 e3 q => ?_
  have e4 := e2.trans e3
  cases r1 with
  | str z => exact .inr (.inr ⟨z, rfl, sz5 q.1, k _ _ _ _ _ R3 (e1.trans e4) (.str _) q.2⟩)
  | @lst a vs ds hs1 a1 =>
    refine .inl ⟨a, vs, rfl, R3.ex.sl (e4.sl hs1), fun p hp => ?_⟩
    have x := PExt.new R3.ex (.lst (cutV vs o o')) hp
    exact k _ _ _ _ _ (R3.ext x) ((e1.trans e4).trans x.s) (.lst (.inl (.inl upd_same)) (dpAll_mono x.s (dpAll_cut (dpAll_mono e4 a1) o o'))) q
  | @tup a vs ds hs1 a1 =>
    refine .inr (.inl ⟨a, vs, rfl, R3.ex.st (e4.st hs1), fun hw => ?_, fun hw p hp => ?_⟩)
    · rw [dpAll_len a1] at hw
      refine k _ _ _ _ _ R3 (e1.trans e4) (.tup (e4.st hs1) (dpAll_mono e4 a1)) ?_
      have q' : Q (PyData.tuple (cutA ds o o')) δ3 := q
      rw [cut_whole hw] at q'
      exact q'
    · have x := PExt.new R3.ex (.tup (cutV vs o o')) hp
      exact k _ _ _ _ _ (R3.ext x) ((e1.trans e4).trans x.s) (.tup (.inl (.inl upd_same)) (dpAll_mono x.s (dpAll_cut (dpAll_mono e4 a1) o o'))) q
  | _ => exact q.elim
def dRev (t : TDE) : TDL := fun δ Q => t δ fun d δ1 => ∃ xs, d = .list xs ∧ Q xs.reverse δ1
theorem jn_rev {k : Nat} {p1 p2 p3 : Pos} (he : JE X e ue t) : JN X (.Subscript e (.Slice none none (some (.UnaryOp .USub (.Constant (.int 1) k p1) p2)) p3) pos) (tRevL X.K ue) (dRev t) := by
  obtain ⟨p, s⟩ := he
  refine ⟨pe_revL p, fun R h k => s R h fun v d δ1 H1 Hs1 R1 e1 r1 ⟨xs, e, q⟩ => ?_⟩
  subst e
  cases r1 with
  | @lst a vs ds h1 a1 => exact ⟨a, vs, rfl, R1.ex.sl h1, fun p hp => k _ _ _ _ _ _ (R1.hide hp) (R1.base.none hp) (R1.frz.none (R1.ex.none hp)) e1 (dpAll_rev a1) q⟩
def SimC (K : PySem.W.Frag) (r : List V → Hp → VK → Prop) (rd : List D → (D → Prop) → Prop) : Prop := ∀ {Hs H : Hp} {vs : List V} {ds : List D} {Q : D → Prop} {Q' : VK}, Ex Hs H → DpAll K Hs vs ds → rd ds Q →
  (∀ v d Hs' H', PExt Hs H Hs' H' → Dp K Hs' v d → Q d → Q' v H') → r vs H Q'
def SimCN (K : PySem.W.Frag) (r : List V → Hp → VK → Prop) (rd : List D → (List D → Prop) → Prop) : Prop := ∀ {Hs H : Hp} {vs : List V} {ds : List D} {Q : List D → Prop} {Q' : VK}, Ex Hs H → DpAll K Hs vs ds → rd ds Q →
  (∀ p ws xs, H p = none → DpAll K Hs ws xs → Q xs → Q' (.ref p) (upd H p (.lst ws))) → r vs H Q'
abbrev RCl := List V → Hp → VK → Prop
structure CallD (X : Cy) (f : Value) (r : RCl) (rd : List D → (D → Prop) → Prop) : Prop where
  p : CallR X f r
  s : SimC X.K r rd
structure CallN (X : Cy) (f : Value) (r : RCl) (rd : List D → (List D → Prop) → Prop) : Prop where
  p : CallR X f r
  s : SimCN X.K r rd
def dCall (rd : List D → (D → Prop) → Prop) (t : TDL) : TDE := fun δ Q => t δ fun ds δ' => rd ds fun d => Q d δ'
def dCallN (rd : List D → (List D → Prop) → Prop) (t : TDL) : TDL := fun δ Q => t δ fun ds δ' => rd ds fun xs => Q xs δ'
theorem sim_call {K : ZX} {r : List V → Hp → VK → Prop} {rd : List D → (D → Prop) → Prop} {u : TA} {t : TDL} (sr : SimC K r rd) (s : SimA K u t) : SimE K (tCB r u) (dCall rd t) := fun R h k =>
  s R h fun vs ds δ1 H1 Hs1 R1 e1 r1 h1 => sr R1.ex r1 h1 fun v d Hs' H' x r q => k _ _ _ _ _ (R1.ext x) (e1.trans x.s) r q
theorem sim_callN {K : ZX} {r : List V → Hp → VK → Prop} {rd : List D → (List D → Prop) → Prop} {u : TA} {t : TDL} (sr : SimCN K r rd) (s : SimA K u t) : SimN K (tCB r u) (dCallN rd t) := fun R h k =>
  s R h fun vs ds δ1 H1 Hs1 R1 e1 r1 h1 => sr R1.ex r1 h1 fun p ws xs hp r q => k _ _ _ _ _ _ (R1.hide hp) (R1.base.none hp) (R1.frz.none (R1.ex.none hp)) e1 r q
section
variable {x : Str} {id T : String} {p : Pos} {u : TDL} {r : RCl}
theorem je_callB {rd : List D → (D → Prop) → Prop} (hc : CallD X (.builtin id) r rd) (hg : Gl X x) (hm : X.mg x = none) (hv : bootBuiltins x = some (.builtin id)) (ha : JA X (e :: es) us u) (hn : x ≠ "__name__" := by decide) (hdb : (x == ("__debug__" : Str)) = false := by decide)
    (he : starEach (e :: es) X.env = (false, eval e X.env) :: starEach es X.env := by rfl) (hpl : (backTo pos (starEach es X.env)).any (·.1) = false := by rfl) : JE X (.Call (.Name x p) (e :: es) [] pos) (tCB r us) (dCall rd u) := by
  obtain ⟨cr, sr⟩ := hc
  obtain ⟨pw, sw⟩ := ha
  exact ⟨pe_callB cr hg hm hv pw hn hdb he hpl, sim_call sr sw⟩
theorem je_callTy {rd : List D → (D → Prop) → Prop} (hc : CallD X (.type T) r rd) (hg : Gl X x) (hm : X.mg x = none) (hv : bootBuiltins x = some (.type T)) (ha : JA X (e :: es) us u) (hn : x ≠ "__name__" := by decide) (hdb : (x == ("__debug__" : Str)) = false := by decide)
    (he : starEach (e :: es) X.env = (false, eval e X.env) :: starEach es X.env := by rfl) (hpl : (backTo pos (starEach es X.env)).any (·.1) = false := by rfl) : JE X (.Call (.Name x p) (e :: es) [] pos) (tCB r us) (dCall rd u) := by
  obtain ⟨cr, sr⟩ := hc
  obtain ⟨pw, sw⟩ := ha
  exact ⟨pe_callTy cr hg hm hv pw hn hdb he hpl, sim_call sr sw⟩
theorem jn_callB {rd : List D → (List D → Prop) → Prop} (hc : CallN X (.builtin id) r rd) (hg : Gl X x) (hm : X.mg x = none) (hv : bootBuiltins x = some (.builtin id)) (ha : JA X (e :: es) us u) (hn : x ≠ "__name__" := by decide) (hdb : (x == ("__debug__" : Str)) = false := by decide)
    (he : starEach (e :: es) X.env = (false, eval e X.env) :: starEach es X.env := by rfl) (hpl : (backTo pos (starEach es X.env)).any (·.1) = false := by rfl) : JN X (.Call (.Name x p) (e :: es) [] pos) (tCB r us) (dCallN rd u) := by
  obtain ⟨cr, sr⟩ := hc
  obtain ⟨pw, sw⟩ := ha
  exact ⟨pe_callB cr hg hm hv pw hn hdb he hpl, sim_callN sr sw⟩
theorem jn_callTy {rd : List D → (List D → Prop) → Prop} (hc : CallN X (.type T) r rd) (hg : Gl X x) (hm : X.mg x = none) (hv : bootBuiltins x = some (.type T)) (ha : JA X (e :: es) us u) (hn : x ≠ "__name__" := by decide) (hdb : (x == ("__debug__" : Str)) = false := by decide)
    (he : starEach (e :: es) X.env = (false, eval e X.env) :: starEach es X.env := by rfl) (hpl : (backTo pos (starEach es X.env)).any (·.1) = false := by rfl) : JN X (.Call (.Name x p) (e :: es) [] pos) (tCB r us) (dCallN rd u) := by
  obtain ⟨cr, sr⟩ := hc
  obtain ⟨pw, sw⟩ := ha
  exact ⟨pe_callTy cr hg hm hv pw hn hdb he hpl, sim_callN sr sw⟩
end
def lenD : List D → (D → Prop) → Prop
  | [.list xs], Q => Q (.int xs.length)
  | [.tuple xs], Q => Q (.int xs.length)
  | [.str z], Q => z.length ≤ 100000 ∧ Q (.int z.length)
  | _, _ => False
def rLenU (K : PySem.W.Frag) : RCl := fun xs H Q => ∃ x n, xs = [x] ∧ LenV K x H n ∧ Q (.int n) H
theorem cd_len : CallD X (.builtin "len") (rLenU X.K) lenD := by
  refine ⟨call_len, ?_⟩
  intro Hs H vs ds Q Q' e r h k
  cases r with
  | nil => exact h.elim
  | cons r1 r2 =>
    cases r2 with
    | cons _ _ => cases r1 <;> exact h.elim
    | nil =>
      cases r1 with
      | str z => exact ⟨_, _, rfl, ⟨sz5 h.1, rfl⟩, k _ _ _ _ (PExt.refl e) (.int _) h.2⟩
      | @lst p xs es h1 a1 => exact ⟨_, es.length, rfl, .inl ⟨xs, e.sl h1, (dpAll_len a1).symm⟩, k _ _ _ _ (PExt.refl e) (.int _) h⟩
      | @tup p xs es h1 a1 => exact ⟨_, es.length, rfl, .inr ⟨xs, e.st h1, (dpAll_len a1).symm⟩, k _ _ _ _ (PExt.refl e) (.int _) h⟩
      | _ => exact h.elim
def toIntD : List D → (D → Prop) → Prop
  | [.int i], Q => Q (.int i)
  | [.bool b], Q => Q (.int (if b then 1 else 0))
  | _, _ => False
def rIntU : RCl := fun xs H Q => (∃ i, xs = [.int i] ∧ Q (.int i) H) ∨ ∃ k, xs = [.bl k] ∧ Q (.int (if k then 1 else 0)) H
theorem cd_int : CallD X (.type "int") rIntU toIntD := by
  refine ⟨call_int1, ?_⟩
  intro Hs H vs ds Q Q' e r h k
  cases r with
  | nil => exact h.elim
  | cons r1 r2 =>
    cases r2 with
    | cons _ _ => cases r1 <;> exact h.elim
    | nil =>
      cases r1 with
      | int i => exact .inl ⟨i, rfl, k _ _ _ _ (PExt.refl e) (.int _) h⟩
      | bl b => exact .inr ⟨b, rfl, k _ _ _ _ (PExt.refl e) (.int _) h⟩
      | _ => exact h.elim
def listD : List D → (List D → Prop) → Prop
  | [.list xs], Q => Q xs
  | [.tuple xs], Q => Q xs
  | _, _ => False
def rListU (K : PySem.W.Frag) : RCl := fun xs H Q => ∃ p ys, xs = [.ref p] ∧ (SqL K H p ys ∨ SqT K H p ys) ∧ ∀ l, H l = none → Q (.ref l) (upd H l (.lst ys))
theorem cn_list : CallN X (.type "list") (rListU X.K) listD := by
  refine ⟨call_list_of, ?_⟩
  intro Hs H vs ds Q Q' e r h k
  cases r with
  | nil => exact h.elim
  | cons r1 r2 =>
    cases r2 with
    | cons _ _ => cases r1 <;> exact h.elim
    | nil =>
      cases r1 with
      | @lst p xs es h1 a1 => exact ⟨p, xs, rfl, .inl (e.sl h1), fun l hl => k _ _ _ hl a1 h⟩
      | @tup p xs es h1 a1 => exact ⟨p, xs, rfl, .inr (e.st h1), fun l hl => k _ _ _ hl a1 h⟩
      | _ => exact h.elim
def tupleD : List D → (D → Prop) → Prop
  | [.list xs], Q => Q (.tuple xs)
  | [.tuple xs], Q => Q (.tuple xs)
  | _, _ => False
def rTupU (K : PySem.W.Frag) : RCl := fun xs H Q => ∃ p ys, xs = [.ref p] ∧ ((SqL K H p ys ∧ ∀ l, H l = none → Q (.ref l) (upd H l (.tup ys))) ∨ (SqT K H p ys ∧ Q (.ref p) H))
theorem cd_tuple : CallD X (.type "tuple") (rTupU X.K) tupleD := by
  refine ⟨call_tuple_of, ?_⟩
  intro Hs H vs ds Q Q' e r h k
  cases r with
  | nil => exact h.elim
  | cons r1 r2 =>
    cases r2 with
    | cons _ _ => cases r1 <;> exact h.elim
    | nil =>
      cases r1 with
      | @lst p xs es h1 a1 =>
        refine ⟨p, xs, rfl, .inl ⟨e.sl h1, fun l hl => ?_⟩⟩
        have x := PExt.new e (.tup xs) hl
        exact k _ _ _ _ x (.tup (.inl (.inl upd_same)) (dpAll_mono x.s a1)) h
      | @tup p xs es h1 a1 => exact ⟨p, xs, rfl, .inr ⟨e.st h1, k _ _ _ _ (PExt.refl e) (.tup h1 a1) h⟩⟩
      | _ => exact h.elim
def int2D (g : Int → Int → Int) : List D → (D → Prop) → Prop
  | [.int i, .int j], Q => Q (.int (g i j))
  | _, _ => False
theorem sim_int2 {K : PySem.W.Frag} (g : Int → Int → Int) : SimC K (fun xs H Q => ∃ i j, xs = [.int i, .int j] ∧ Q (.int (g i j)) H) (int2D g) := by
  intro Hs H vs ds Q Q' e r h k
  cases r with
  | nil => exact h.elim
  | cons r1 r2 =>
    cases r2 with
    | nil => cases r1 <;> exact h.elim
    | cons r2 r3 =>
      cases r3 with
      | cons _ _ => cases r1 <;> cases r2 <;> exact h.elim
      | nil =>
        cases r1 with
        | int i =>
          cases r2 with
          | int j => exact ⟨i, j, rfl, k _ _ _ _ (PExt.refl e) (.int _) h⟩
          | _ => exact h.elim
        | _ => cases r2 <;> exact h.elim
def rInt2 (g : Int → Int → Int) : RCl := fun xs H Q => ∃ i j, xs = [.int i, .int j] ∧ Q (.int (g i j)) H
theorem cd_max2 (hc : X.calm = true) : CallD X (.builtin "max") (rInt2 fun i j => if j > i then j else i) (int2D fun i j => if j > i then j else i) := ⟨call_max2 hc, sim_int2 _⟩
theorem cd_min2 (hc : X.calm = true) : CallD X (.builtin "min") (rInt2 fun i j => if j < i then j else i) (int2D fun i j => if j < i then j else i) := ⟨call_min2 hc, sim_int2 _⟩
def rMaxL (K : PySem.W.Frag) (g : D → List D → D) : List V → Hp → VK → Prop := fun vs H Q => ∃ a xs x ds, vs = [.ref a] ∧ SqL K H a xs ∧ DpAll K H xs (x :: ds) ∧ PySem.W.AlikeAll (x :: ds) ∧ PyData.depthAll (x :: ds) ≤ 150 ∧
  ∀ (i : Nat) v, xs[i]? = some v → (x :: ds)[i]? = some (g x ds) → Q v H
def maxLD (g : D → List D → D) (ds : List D) (Q : D → Prop) : Prop := ∃ x xs, ds = [.list (x :: xs)] ∧ PySem.W.AlikeAll (x :: xs) ∧ PyData.depthAll (x :: xs) ≤ 150 ∧ Q (g x xs)
theorem sim_maxL {K : PySem.W.Frag} (g : D → List D → D) : SimC K (rMaxL K g) (maxLD g) := by
  intro Hs H vs ds Q Q' e r h k
  obtain ⟨x, xs, rfl, h1, h2, q⟩ := h
  cases r with
  | cons r1 r2 =>
    cases r2 with
    | nil =>
      cases r1 with
      | @lst p ws es hs a1 =>
        refine ⟨p, ws, x, xs, rfl, e.sl hs, dpAll_mono e a1, h1, h2, fun i v hv hd => ?_⟩
        obtain ⟨v', e1, r⟩ := dpAll_get a1 hd
        rw [hv] at e1
        cases e1
        exact k _ _ _ _ (PExt.refl e) r q
theorem vals_get {xs : List V} {us : List Value} (r : Vals xs us) {i : Nat} {u : Value} (h : us[i]? = some u) : ∃ x, xs[i]? = some x ∧ RelV x u := by
  have hl := r.length
  have hi : i < xs.length := by
    rw [hl]
    exact (List.getElem?_eq_some_iff.mp h).1
  obtain ⟨u', e, q⟩ := Vals.get r (List.getElem?_eq_getElem hi)
  rw [h] at e
  cases e
  exact ⟨xs[i], List.getElem?_eq_getElem hi, q⟩
theorem plain_of : ∀ {xs : List D} {x : D}, PyData.plainAll xs = true → x ∈ xs → x.plain = true
  | _ :: _, _, h, hx => by
    rw [PyData.plainAll, Bool.and_eq_true] at h
    rcases List.mem_cons.mp hx with rfl | hx
    · exact h.1
    · exact plain_of h.2 hx
theorem best_at {h h' : Heap} {v : Value} {its : List Value} {xs : List D} {as bs : List Addr} {z : D} {i : Nat} (hr : ReadsAll h its xs as) (hp : PyData.plainAll xs = true) (hv : its[i]? = some v) (hz : Reads h' v z bs) (hk : ∀ b o, h.get? b = some o → h'.get? b = some o) : xs[i]? = some z := by
  obtain ⟨cs, r, hi, hm, _⟩ := PySem.W.readsAll_at hr i v hv
  have e := SeqAt.plain_unique _ _ _ _ _ (plain_of hp hm) (PySem.W.reads_keeps hk r) hz
  rw [← e]
  simp [hi]
theorem dpAll_plain {K : PySem.W.Frag} {H : Hp} : ∀ {vs : List V} {ds : List D}, DpAll K H vs ds → PyData.plainAll ds = true
  | _, _, .nil => rfl
  | _, _, .cons r t => by
    rw [PyData.plainAll, dp_plain r, dpAll_plain t]
    rfl
theorem cr_maxL (hc : X.calm = true) (hu : X.A.units + 200 < cLine) : CallR X (.builtin "max") (rMaxL X.K PySem.W.maxD) := by
  intro pins s σ H vs us Q I r h
  obtain ⟨a, xs, x, ds, rfl, hs, ha, hal, hd, q⟩ := h
  obtain ⟨its, rv, hl, _⟩ := I.list hs
  rw [Vals.ref1 r]
  obtain ⟨as, hr⟩ := Dp.readsAll I _ _ its ha rv
  refine PySem.W.max_list_data (I.ok.hd hc) hl.isList (x := x) (xs := ds) hr hal (by omega) fun i v h' tk bs hv hz hk => ?_
  have hv' : its[i]? = some v := by simpa using hv
  obtain ⟨w', e1, rw'⟩ := vals_get rv hv'
  exact ⟨w', H, I.kept (t' := tk) hk, rw', q i w' e1 (best_at hr (dpAll_plain ha) hv' hz hk)⟩
theorem cr_minL (hc : X.calm = true) (hu : X.A.units + 200 < cLine) : CallR X (.builtin "min") (rMaxL X.K PySem.W.minD) := by
  intro pins s σ H vs us Q I r h
  obtain ⟨a, xs, x, ds, rfl, hs, ha, hal, hd, q⟩ := h
  obtain ⟨its, rv, hl, _⟩ := I.list hs
  rw [Vals.ref1 r]
  obtain ⟨as, hr⟩ := Dp.readsAll I _ _ its ha rv
  refine PySem.W.min_list_data (I.ok.hd hc) hl.isList (x := x) (xs := ds) hr hal (by omega) fun i v h' tk bs hv hz hk => ?_
  have hv' : its[i]? = some v := by simpa using hv
  obtain ⟨w', e1, rw'⟩ := vals_get rv hv'
  exact ⟨w', H, I.kept (t' := tk) hk, rw', q i w' e1 (best_at hr (dpAll_plain ha) hv' hz hk)⟩
theorem cd_maxL (hc : X.calm = true) (hu : X.A.units + 200 < cLine) : CallD X (.builtin "max") (rMaxL X.K PySem.W.maxD) (maxLD PySem.W.maxD) := ⟨cr_maxL hc hu, sim_maxL _⟩
theorem cd_minL (hc : X.calm = true) (hu : X.A.units + 200 < cLine) : CallD X (.builtin "min") (rMaxL X.K PySem.W.minD) (maxLD PySem.W.minD) := ⟨cr_minL hc hu, sim_maxL _⟩
def boolsD (g : List Bool → Bool) (ds : List D) (Q : D → Prop) : Prop := ∃ bs : List Bool, ds = [.list (bs.map .bool)] ∧ Q (.bool (g bs))
theorem dpAll_bls {K : PySem.W.Frag} {H : Hp} : ∀ {vs : List V} {bs : List Bool}, DpAll K H vs (bs.map .bool) → vs = bs.map V.bl
  | _, [], .nil => rfl
  | _, b :: bs, .cons r t => by
    cases r
    rw [dpAll_bls t]
    rfl
theorem cd_all (hc : X.calm = true) : CallD X (.builtin "all") (rAll X.K) (boolsD fun bs => bs.all id) := by
  refine ⟨cr_all hc, ?_⟩
  intro Hs H vs ds Q Q' e r h k
  obtain ⟨bs, rfl, q⟩ := h
  cases r with
  | cons r1 r2 =>
    cases r2 with
    | nil =>
      cases r1 with
      | lst hs a1 =>
        rw [dpAll_bls a1] at hs
        exact ⟨_, bs, rfl, e.sl hs, k _ _ _ _ (PExt.refl e) (.bl _) q⟩
theorem cd_any (hc : X.calm = true) : CallD X (.builtin "any") (rAny X.K) (boolsD fun bs => bs.any id) := by
  refine ⟨cr_any hc, ?_⟩
  intro Hs H vs ds Q Q' e r h k
  obtain ⟨bs, rfl, q⟩ := h
  cases r with
  | cons r1 r2 =>
    cases r2 with
    | nil =>
      cases r1 with
      | lst hs a1 =>
        rw [dpAll_bls a1] at hs
        exact ⟨_, bs, rfl, e.sl hs, k _ _ _ _ (PExt.refl e) (.bl _) q⟩
def tyName : D → String
  | .none => "NoneType"
  | .bool _ => "bool"
  | .int _ => "int"
  | .str _ => "str"
  | .list _ => "list"
  | .tuple _ => "tuple"
  | .dict _ => "dict"
def isT (T : String) (d : D) : Bool := (tyName d == T) || (T == "int" && tyName d == "bool")
theorem dp_ty {K : PySem.W.Frag} {H : Hp} {v : V} {d : D} (r : Dp K H v d) : TyX K H v (.type (tyName d)) := by
  cases r with
  | non => exact .base .non
  | bl b => exact .base (.bl b)
  | int i => exact .base (.int i)
  | str x => exact .base (.str x)
  | lst h _ =>
    rcases h with (h | ⟨o, h⟩) | ⟨o, its, n, h1, h2, _⟩
    · exact .base (.lst h)
    · exact .base (.frz h)
    · exact .kList h1 h2
  | tup h _ =>
    rcases h with (h | ⟨o, h⟩) | ⟨o, its, n, h1, h2, _⟩
    · exact .base (.tup h)
    · exact .fTuple h
    · exact .kTuple h1 h2
def TyOk (T : String) : Prop := ∀ d : D, kitB (tyName d) T = some (isT T d)
theorem tok {T : String} (h : ∀ n ∈ ["NoneType", "bool", "int", "str", "list", "tuple", "dict"], kitB n T = some ((n == T) || (T == "int" && n == "bool"))) : TyOk T := fun d => by
  cases d with
  | none => exact h "NoneType" (by decide)
  | bool b => exact h "bool" (by decide)
  | int i => exact h "int" (by decide)
  | str x => exact h "str" (by decide)
  | list xs => exact h "list" (by decide)
  | tuple xs => exact h "tuple" (by decide)
  | dict kvs => exact h "dict" (by decide)
theorem tok_list : TyOk "list" := tok (by decide +kernel)
theorem tok_tuple : TyOk "tuple" := tok (by decide +kernel)
theorem tok_bool : TyOk "bool" := tok (by decide +kernel)
theorem tok_int : TyOk "int" := tok (by decide +kernel)
theorem tok_str : TyOk "str" := tok (by decide +kernel)
def dIsi (T : String) (t : TDE) : TDE := fun δ Q => t δ fun d δ' => Q (.bool (isT T d)) δ'
theorem je_isi {x : Str} {p p2 : Pos} {T : String} (hT : TyOk T) (hg : Gl X "isinstance") (hm : X.mg "isinstance" = none) (hg2 : Gl X x) (hm2 : X.mg x = none) (hv : bootBuiltins x = some (.type T)) (ha : JE X e ue t)
    (hn : x ≠ "__name__" := by decide) (hd : (x == ("__debug__" : Str)) = false := by decide)
    (hs : starEach [e, .Name x p2] X.env = (false, eval e X.env) :: starEach [.Name x p2] X.env := by rfl)
    (hs2 : starEach [.Name x p2] X.env = (false, eval (.Name x p2) X.env) :: starEach [] X.env := by rfl) (hpl : (backTo pos (starEach [.Name x p2] X.env)).any (·.1) = false := by rfl) : JE X (.Call (.Name "isinstance" p) [e, .Name x p2] [] pos) (tCB (rIsi X.K) (tCons ue (tCons (tC (.ty T)) tNil))) (dIsi T t) := by
  obtain ⟨pu, su⟩ := ha
  refine ⟨pe_callB call_isi hg hm (by decide +kernel) (pa_cons pu (pa_cons (pe_bltn (v := .ty T) hg2 hm2 hv rfl hn hd) pa_nil hs2) hs) (by decide) (by decide) hs hpl, fun R h k => su R h fun v d δ1 H1 Hs1 R1 e1 r1 q => ?_⟩
  exact ⟨v, .ty T, _, _, isT T d, rfl, .ty T, dp_ty (dp_mono R1.ex r1), kit_ty (hT d), k _ _ _ _ _ R1 e1 (.bl _) q⟩
def dIsi2 (T T' : String) (t : TDE) : TDE := fun δ Q => t δ fun d δ' => Q (.bool (isT T d || isT T' d)) δ'
theorem je_isi2 {x y : Str} {p p2 p3 p4 : Pos} {c : Nat} {T T' : String} (hT : TyOk T) (hT' : TyOk T') (hg : Gl X "isinstance") (hm : X.mg "isinstance" = none) (hg2 : Gl X x) (hm2 : X.mg x = none) (hv : bootBuiltins x = some (.type T))
    (hg3 : Gl X y) (hm3 : X.mg y = none) (hv3 : bootBuiltins y = some (.type T')) (ha : JE X e ue t)
    (hn : x ≠ "__name__" := by decide) (hd : (x == ("__debug__" : Str)) = false := by decide) (hn3 : y ≠ "__name__" := by decide) (hd3 : (y == ("__debug__" : Str)) = false := by decide)
    (hs : starEach [e, .Tuple [.Name x p2, .Name y p3] c p4] X.env = (false, eval e X.env) :: starEach [.Tuple [.Name x p2, .Name y p3] c p4] X.env := by rfl)
    (hs2 : starEach [.Tuple [.Name x p2, .Name y p3] c p4] X.env = (false, eval (.Tuple [.Name x p2, .Name y p3] c p4) X.env) :: starEach [] X.env := by rfl)
    (hs3 : starEach [.Name x p2, .Name y p3] X.env = (false, eval (.Name x p2) X.env) :: starEach [.Name y p3] X.env := by rfl)
    (hs4 : starEach [.Name y p3] X.env = (false, eval (.Name y p3) X.env) :: starEach [] X.env := by rfl)
    (hpl : (backTo pos (starEach [.Tuple [.Name x p2, .Name y p3] c p4] X.env)).any (·.1) = false := by rfl) : JE X (.Call (.Name "isinstance" p) [e, .Tuple [.Name x p2, .Name y p3] c p4] [] pos) (tCB (rIsiT X.K) (tCons ue (tCons (tTup (tCons (tC (.ty T)) (tCons (tC (.ty T')) tNil))) tNil))) (dIsi2 T T' t) := by
  obtain ⟨pu, su⟩ := ha
  refine ⟨pe_callB call_isiT hg hm (by decide +kernel) (pa_cons pu (pa_cons (pe_tup (pa_cons (pe_bltn (v := .ty T) hg2 hm2 hv rfl hn hd) (pa_cons (pe_bltn (v := .ty T') hg3 hm3 hv3 rfl hn3 hd3) pa_nil hs4) hs3)) pa_nil hs2) hs) (by decide) (by decide) hs hpl, fun R h k => su R h fun v d δ1 H1 Hs1 R1 e1 r1 q => ?_⟩
  refine ⟨(by show 2 ≤ sizeLine; decide), fun tp hp => ?_⟩
  have x := PExt.raw R1.ex (.tup [.ty T, .ty T']) hp
  refine ⟨v, tp, _, _, [.type T, .type T'], isT T d || isT T' d, rfl, upd_same, .cons (.ty T) (.cons (.ty T') .nil), dp_ty (dp_mono (R1.ex.trans x.h) r1), ?_, k _ _ _ _ _ (R1.ext x) (e1.trans x.s) (.bl _) q⟩
  refine kitAny_cons (kit_ty (hT d)) (fun hb => ?_) (fun hb => by rw [hb]; rfl)
  rw [hb, Bool.false_or]
  exact kitAny_cons (kit_ty (hT' d)) (fun hb => by rw [hb]; exact kitAny_nil) (fun hb => hb)
def rSortD (K : PySem.W.Frag) : List V → Hp → VK → Prop := fun vs H Q => ∃ a xs ds, vs = [.ref a] ∧ SqL K H a xs ∧ DpAll K H xs ds ∧ PySem.W.AllAlike ds ∧ PySem.W.Sortable ds ∧ (∀ d ∈ ds, d.depth ≤ 150) ∧
  ∀ (zs : List (V × D)) p, zs.Perm (xs.zip ds) → H p = none → Q (.ref p) (upd H p (.lst (zs.map Prod.fst)))
def sortD (ds : List D) (Q : List D → Prop) : Prop := ∃ xs, ds = [.list xs] ∧ PySem.W.AllAlike xs ∧ PySem.W.Sortable xs ∧ (∀ d ∈ xs, d.depth ≤ 150) ∧ ∀ ys, ys.Perm xs → Q ys
theorem dpAll_zip {K : PySem.W.Frag} {H : Hp} : ∀ {vs : List V} {ds : List D}, DpAll K H vs ds → ∀ p ∈ vs.zip ds, Dp K H p.1 p.2
  | _, _, .nil, p, h => by simp at h
  | _, _, .cons r t, p, h => by
    rw [List.zip_cons_cons] at h
    rcases List.mem_cons.mp h with rfl | h
    · exact r
    · exact dpAll_zip t p h
theorem dpAll_unzip {K : PySem.W.Frag} {H : Hp} : ∀ {zs : List (V × D)}, (∀ p ∈ zs, Dp K H p.1 p.2) → DpAll K H (zs.map Prod.fst) (zs.map Prod.snd)
  | [], _ => .nil
  | z :: zs, h => .cons (h z List.mem_cons_self) (dpAll_unzip fun p hp => h p (List.mem_cons_of_mem _ hp))
theorem sim_sort {K : PySem.W.Frag} : SimCN K (rSortD K) sortD := by
  intro Hs H vs ds Q Q' e r h k
  obtain ⟨xs, rfl, h1, h2, h3, q⟩ := h
  cases r with
  | cons r1 r2 =>
    cases r2 with
    | nil =>
      cases r1 with
      | @lst p ws es hs a1 =>
        refine ⟨p, ws, xs, rfl, e.sl hs, dpAll_mono e a1, h1, h2, h3, fun zs p hz hp => ?_⟩
        refine k p _ (zs.map Prod.snd) hp (dpAll_unzip fun z hz' => dpAll_zip a1 z (hz.mem_iff.mp hz')) (q _ ?_)
        have := hz.map Prod.snd
        rw [List.map_snd_zip (by rw [dpAll_len a1]; exact Nat.le_refl _)] at this
        exact this
theorem each_zip {h : Heap} : ∀ {xs : List V} {ds : List D} {us : List Value} {as : List Addr}, Vals xs us → ReadsAll h us ds as →
    PySem.W.EachIs (fun (u : Value) (b : V × D) => RelV b.1 u) us (xs.zip ds) ∧ PySem.W.EachIs (fun (u : Value) (b : V × D) => ∃ as, Reads h u b.2 as) us (xs.zip ds)
  | [], _, _, _, .nil, r => by
    cases r
    exact ⟨.nil, .nil⟩
  | x :: xs, _, _, _, .cons r t, .cons q qs => ⟨.cons r (each_zip t qs).1, .cons ⟨_, q⟩ (each_zip t qs).2⟩
theorem each_vals : ∀ {us : List Value} {bs : List (V × D)}, PySem.W.EachIs (fun (u : Value) (b : V × D) => RelV b.1 u) us bs → Vals (bs.map Prod.fst) us
  | _, _, .nil => .nil
  | _, _, .cons r t => .cons r (each_vals t)
theorem sort_rule {us : List Value} {xs : List V} {ds : List D} {Q : VK} {rev : Bool} {out : List Value} (I : Inv X pins σ H s) (hz : xs.length ≤ sizeLine) (hl : xs.length = ds.length)
    (q : ∀ (zs : List (V × D)) p, zs.Perm (xs.zip ds) → H p = none → Q (.ref p) (upd H p (.lst (zs.map Prod.fst)))) (he : PySem.W.EachIs (fun (u : Value) (b : V × D) => RelV b.1 u) out ((xs.zip ds).mergeSort (PySem.W.dataLe rev Prod.snd))) :
    EP X pins σ Q (.ref (s.heap.objs.size + 1)) { s with heap := PyProof.Rows.sortedAll s.heap us (List.toArray out) } := by
  obtain ⟨ep, he'⟩ := PyProof.Rows.sortedAll_at s.heap us out.toArray
  have hp : ((xs.zip ds).mergeSort (PySem.W.dataLe rev Prod.snd)).Perm (xs.zip ds) := List.mergeSort_perm _ _
  refine ⟨.ref _, upd H (s.heap.objs.size + 1) (.lst (((xs.zip ds).mergeSort (PySem.W.dataLe rev Prod.snd)).map Prod.fst)), I.laid (t' := s.toks) (fun _ _ => PyProof.Rows.sortedAll_old) (Nat.le_succ _) ⟨?_, out, ep, each_vals he, he'⟩, rfl, q _ _ hp (I.hok.fresh (Nat.le_succ _))⟩
  rw [List.length_map, hp.length_eq, List.length_zip]
  omega
theorem cr_sortD (hu : X.A.units + 200 < cLine) : CallR X (.builtin "sorted") (rSortD X.K) := by
  intro pins s σ H vs us Q I r h
  obtain ⟨a, xs, ds, rfl, hs, ha, h1, h2, h3, q⟩ := h
  obtain ⟨its, rv, hl, hz⟩ := I.list hs
  rw [Vals.ref1 r]
  obtain ⟨as, hr⟩ := Dp.readsAll I _ _ its ha rv
  obtain ⟨e1, e2⟩ := each_zip rv hr
  have hm : (xs.zip ds).map Prod.snd = ds := List.map_snd_zip (by rw [dpAll_len ha]; exact Nat.le_refl _)
  refine PySem.W.sorted_data (enc := Prod.snd) hl.isList e1 e2 (by rw [hm]; exact h1) (by rw [hm]; exact h2) (by rw [List.length_zip]; omega) (fun b hb => ?_) fun out ho he => sort_rule I hz (dpAll_len ha) q he
  have := h3 b.2 (List.of_mem_zip (a := b.1) (b := b.2) hb).2
  omega
theorem cn_sorted (hu : X.A.units + 200 < cLine) : CallN X (.builtin "sorted") (rSortD X.K) sortD := ⟨cr_sortD hu, sim_sort⟩
end
end EL
namespace EL
open PySem PySem.Spec PyProof.Rows L2
structure EndsOk (K : PySem.W.Frag) (B H0 Hs : Hp) (D : DEnds) (D' : Ends) : Prop where
  nx : ∀ σ δ H Hs', Rep K B H0 σ δ H Hs' → Ex Hs Hs' → D.nx δ → D'.nx σ H
  rt : ∀ v d σ δ H Hs', Rep K B H0 σ δ H Hs' → Ex Hs Hs' → Dp K Hs' v d → D.rt (.dt d) δ → D'.rt v H
  rn : ∀ p vs xs σ δ H Hs', Rep K (upd B p (.lst vs)) H0 σ δ H Hs' → B p = none → H0 p = none → Ex Hs Hs' → DpAll K Hs' vs xs → D.rt (.new xs) δ → D'.rt (.ref p) H
  ro : ∀ p o a σ δ H Hs', Rep K (upd B p o) H0 σ δ H Hs' → B p = none → H0 p = none → Ex Hs Hs' → a.P K Hs' o → D.rt (.obj a) δ → D'.rt (.ref p) H
  rr : ∀ a L σ δ H Hs' B', Rep K B' H0 σ δ H Hs' → Hid K B B' H0 Hs' L → Ex Hs Hs' → D.rt (.rg a L) δ → D'.rt (.ref a) H
  bk : ∀ σ δ H Hs', Rep K B H0 σ δ H Hs' → Ex Hs Hs' → D.bk δ → D'.bk σ H
  ct : ∀ σ δ H Hs', Rep K B H0 σ δ H Hs' → Ex Hs Hs' → D.ct δ → D'.ct σ H
theorem EndsOk.mono {K : PySem.W.Frag} {B H0 Hs Hs1 : Hp} {D : DEnds} {D' : Ends} (k : EndsOk K B H0 Hs D D') (e : Ex Hs Hs1) : EndsOk K B H0 Hs1 D D' where
  nx := fun _ _ _ _ R x => k.nx _ _ _ _ R (e.trans x)
  rt := fun _ _ _ _ _ _ R x => k.rt _ _ _ _ _ _ R (e.trans x)
  rn := fun _ _ _ _ _ _ _ R h1 h2 x => k.rn _ _ _ _ _ _ _ R h1 h2 (e.trans x)
  ro := fun _ _ _ _ _ _ _ R h1 h2 x => k.ro _ _ _ _ _ _ _ R h1 h2 (e.trans x)
  rr := fun _ _ _ _ _ _ _ R h x => k.rr _ _ _ _ _ _ _ R h (e.trans x)
  bk := fun _ _ _ _ R x => k.bk _ _ _ _ R (e.trans x)
  ct := fun _ _ _ _ R x => k.ct _ _ _ _ R (e.trans x)
def SimS (K : ZX) (ts : TS) (t : TDS) : Prop := ∀ {B H0 : Hp} [XOk K B H0] {σ : L2.St} {δ : Dl} {H Hs : Hp} {D : DEnds} {D' : Ends}, Rep K B H0 σ δ H Hs → t D δ → EndsOk K B H0 Hs D D' → ts D' σ H
structure JS (X : Cy) (st : Stmt) (u : TS) (t : TDS) : Prop where
  p : PS X st u
  s : SimS X.z u t
structure JSs (X : Cy) (st : List Stmt) (u : TS) (t : TDS) : Prop where
  p : PSs X st u
  s : SimS X.z u t
abbrev TDG := D → Dl → (Dl → Prop) → Prop
abbrev TDGs := List D → Dl → (Dl → Prop) → Prop
def SimG (K : ZX) (g : TG) (t : TDG) : Prop := ∀ {B H0 : Hp} [XOk K B H0] {σ : L2.St} {δ : Dl} {H Hs : Hp} {v : V} {d : D} {Q : Dl → Prop} {Q' : L2.St → Hp → Prop}, Rep K B H0 σ δ H Hs → Dp K Hs v d → t d δ Q →
  (∀ σ' δ', Rep K B H0 σ' δ' H Hs → Q δ' → Q' σ' H) → g v σ H Q'
def SimGs (K : ZX) (g : TGs) (t : TDGs) : Prop := ∀ {B H0 : Hp} [XOk K B H0] {σ : L2.St} {δ : Dl} {H Hs : Hp} {vs : List V} {ds : List D} {Q : Dl → Prop} {Q' : L2.St → Hp → Prop}, Rep K B H0 σ δ H Hs → DpAll K Hs vs ds → t ds δ Q →
  (∀ σ' δ', Rep K B H0 σ' δ' H Hs → Q δ' → Q' σ' H) → g vs σ H Q'
structure JG (X : Cy) (e : Expr) (u : TG) (t : TDG) : Prop where
  p : PG X e u
  s : SimG X.z u t
structure JGs (X : Cy) (es : List Expr) (u : TGs) (t : TDGs) : Prop where
  p : PGs X es u
  s : SimGs X.z u t
section
variable {X : Cy} {e a b : Expr} {es : List Expr} {pos : Pos} {t ta tb : TDE} {ue ua ub : TE} {us : TA} {vt : TT} {g : TG} {gs : TGs} {tg : TDG} {tgs : TDGs} {st : Stmt} {sts : List Stmt} {w w1 w2 : TS} {s s1 s2 : TDS}
def sNext : TDS := fun D δ => D.nx δ
def sSeq (t u : TDS) : TDS := fun D δ => t { D with nx := u D } δ
theorem js_nil : JSs X [] tNext sNext := ⟨pss_nil, fun R h k => k.nx _ _ _ _ R (Ex.refl _) h⟩
theorem js_cons (h1 : JS X st w1 s1) (h2 : JSs X sts w2 s2) : JSs X (st :: sts) (tSeq w1 w2) (sSeq s1 s2) := ⟨pss_cons h1.p h2.p, fun R h k =>
  h1.s R h ⟨fun _ _ _ _ R1 x q => h2.s R1 q (k.mono x), k.rt, k.rn, k.ro, k.rr, k.bk, k.ct⟩⟩
theorem js_one (h1 : JS X st w s) : JSs X [st] w s := ⟨pss_one h1.p, h1.s⟩
def sBreak : TDS := fun D δ => D.bk δ
def sCont : TDS := fun D δ => D.ct δ
theorem js_pass : JS X (.Pass pos) tNext sNext := ⟨ps_pass, fun R h k => k.nx _ _ _ _ R (Ex.refl _) h⟩
theorem js_break : JS X (.Break pos) tBreak sBreak := ⟨ps_break, fun R h k => k.bk _ _ _ _ R (Ex.refl _) h⟩
theorem js_continue : JS X (.Continue pos) tCont sCont := ⟨ps_continue, fun R h k => k.ct _ _ _ _ R (Ex.refl _) h⟩
theorem js_doc {x j p'} : JS X (.Expr (.Constant (.str x) j pos) p') tNext sNext := ⟨ps_doc, fun R h k => k.nx _ _ _ _ R (Ex.refl _) h⟩
def sDrop (t : TDE) : TDS := fun D δ => t δ fun _ δ' => D.nx δ'
theorem js_expr (h : JE X e ue t) (hs : swapsWith e none pos.line X.env = pure false := by rfl) : JS X (.Expr e pos) (tDrop ue) (sDrop t) := ⟨ps_expr h.p hs, fun R q k => h.s R q fun _ _ _ _ _ R1 x _ q1 => k.nx _ _ _ _ R1 x q1⟩
def sRet (t : TDE) : TDS := fun D δ => t δ fun d δ' => D.rt (.dt d) δ'
theorem js_ret (h : JE X e ue t) : JS X (.Return (some e) pos) (tRet ue) (sRet t) := ⟨ps_ret h.p, fun R q k => h.s R q fun _ _ _ _ _ R1 x r q1 => k.rt _ _ _ _ _ _ R1 x r q1⟩
def sRetNew (t : TDL) : TDS := fun D δ => t δ fun xs δ' => D.rt (.new xs) δ'
theorem js_retNew {tl : TDL} (h : JN X e ue tl) : JS X (.Return (some e) pos) (tRet ue) (sRetNew tl) := ⟨ps_ret h.p, fun R q k => h.s R q fun _ _ _ _ _ _ R1 hB h0 x r q1 => k.rn _ _ _ _ _ _ _ R1 hB h0 x r q1⟩
def sRetOwn (i : Nat) : TDS := fun D δ => ∃ p xs, δ[i]? = some (.ow p (.lst xs)) ∧ D.rt (.new xs) (δ.set i .un)
theorem js_retOwn (i : Nat) {x : Str} {p : Pos} (hN : X.N[i]? = some x := by rfl) (hv : Vis X.env.scope x := by first | exact Or.inl rfl | exact Or.inr (Or.inl rfl) | exact Or.inr (Or.inr rfl)) (hd : (x == ("__debug__" : Str)) = false := by decide)
    (hcd : (x == ("__classdict__" : Str)) = false := by decide) : JS X (.Return (some (.Name x p)) pos) (tRet (tVar i)) (sRetOwn i) := ⟨ps_ret (pe_var hN hv hd hcd), fun R ⟨p, xs, ex, q⟩ k => by
  obtain ⟨vs, e1, hp, h1, h2, h3, ha, R1⟩ := R.take ex
  exact ⟨_, e1, k.rn p vs xs _ _ _ _ R1 h2 h3 (Ex.refl _) ha q⟩⟩
def sRetObj (i : Nat) : TDS := fun D δ => ∃ p a, δ[i]? = some (.ow p (OD.one a)) ∧ D.rt (.obj a) (δ.set i .un)
theorem js_retObj (i : Nat) {x : Str} {p : Pos} (hN : X.N[i]? = some x := by rfl) (hv : Vis X.env.scope x := by first | exact Or.inl rfl | exact Or.inr (Or.inl rfl) | exact Or.inr (Or.inr rfl)) (hd : (x == ("__debug__" : Str)) = false := by decide)
    (hcd : (x == ("__classdict__" : Str)) = false := by decide) : JS X (.Return (some (.Name x p)) pos) (tRet (tVar i)) (sRetObj i) := ⟨ps_ret (pe_var hN hv hd hcd), fun R ⟨p, a, ex, q⟩ k => by
  obtain ⟨o, e1, hp, h1, h2, h3, ha, R1⟩ := R.takeA ex
  exact ⟨_, e1, k.ro p o a _ _ _ _ R1 h2 h3 (Ex.refl _) ha q⟩⟩
def sRetN : TDS := fun D δ => D.rt (.dt .none) δ
theorem js_retN : JS X (.Return none pos) tRetN sRetN := ⟨ps_retN, fun R q k => k.rt _ _ _ _ _ _ R (Ex.refl _) .non q⟩
def sIf (c : TDB) (t u : TDS) : TDS := fun D δ => c δ fun b δ' => if b = true then t D δ' else u D δ'
theorem js_if {c : Expr} {tc : TDB} {x y : List Stmt} (hc : JT X c vt tc) (ha : JSs X x w1 s1) (hb : JSs X y w2 s2) : JS X (.If c x y pos) (tIfS vt w1 w2) (sIf tc s1 s2) := ⟨ps_if hc.p ha.p hb.p, fun R h k =>
  hc.s R h fun c δ1 H1 Hs1 R1 e1 q => by
    cases c with
    | true =>
      rw [if_pos rfl] at q ⊢
      exact ha.s R1 q (k.mono e1)
    | false =>
      rw [if_neg Bool.false_ne_true] at q ⊢
      exact hb.s R1 q (k.mono e1)⟩
def dgName (i : Nat) : TDG := fun d δ Q => Q (δ.set i (.dt d))
theorem jg_name {i : Nat} {x : Str} (hN : X.N.Nodup) (hi : X.N[i]? = some x := by rfl) (hx : Loc X.env.scope x := by first | exact .inl rfl | exact .inr rfl) (hf : X.fn x = true ∨ X.env.scope.names.lookup x = some .local := by first | exact .inl rfl | exact .inr rfl | assumption) : JG X (.Name x pos) (gName i) (dgName i) :=
  ⟨pg_name hN hi hx hf, fun R r q k => k _ _ (R.set r i) q⟩
def dgNil : TDGs := fun ds δ Q => ds = [] ∧ Q δ
def dgCons (t : TDG) (u : TDGs) : TDGs := fun ds δ Q => ∃ d r, ds = d :: r ∧ t d δ fun δ' => u r δ' Q
def dgTup (n : Nat) (t : TDGs) : TDG := fun d δ Q => ∃ xs, d = .tuple xs ∧ xs.length = n ∧ t xs δ Q
theorem jgs_nil : JGs X [] gNil dgNil := ⟨pgs_nil, fun R r ⟨e, q⟩ k => by
  subst e
  cases r
  exact ⟨rfl, k _ _ R q⟩⟩
theorem jgs_cons (h1 : JG X e g tg) (h2 : JGs X es gs tgs) (hs : (assignEach (e :: es) X.env).map (·.2) = assign e X.env :: (assignEach es X.env).map (·.2) := by rfl) : JGs X (e :: es) (gCons g gs) (dgCons tg tgs) := ⟨pgs_cons h1.p h2.p hs, fun R r ⟨d, ds, e, q⟩ k => by
  subst e
  cases r with
  | cons r1 r2 => exact ⟨_, _, rfl, h1.s R r1 q fun σ' δ' R1 q1 => h2.s R1 r2 q1 k⟩⟩
theorem jg_tup {c n : Nat} (hc : X.calm = true) (h : JGs X es gs tgs) (hn : (assignEach es X.env).length = n := by rfl) (hst : (assignEach es X.env).findIdx? (·.1) = none := by rfl) : JG X (.Tuple es c pos) (gTup X.K n gs) (dgTup n tgs) :=
  ⟨pg_tup hc h.p hn hst, fun R r ⟨xs, e, hl, q⟩ k => by
    subst e
    cases r with
    | tup hs ha => exact ⟨_, _, rfl, R.ex.st hs, by rw [dpAll_len ha]; exact hl, h.s R ha q k⟩⟩
def sAsg (t : TDE) (g : TDG) : TDS := fun D δ => t δ fun d δ' => g d δ' D.nx
theorem js_asg (he : JE X e ue t) (hg : JG X a g tg) (hs : swapsWithSole [a] e pos.line X.env = pure false := by rfl) (hw : swappedStores [a] e X.env = pure none := by rfl)
    (h1 : (assignEach [a] X.env).map (·.2) = [assign a X.env] := by rfl) : JS X (.Assign [a] e pos) (tAsg ue g) (sAsg t tg) := ⟨ps_asg he.p hg.p hs hw h1, fun R q k =>
  he.s R q fun _ _ _ _ _ R1 x r q1 => hg.s R1 r q1 fun _ _ R2 q2 => k.nx _ _ _ _ R2 x q2⟩
theorem js_set {i : Nat} {x : Str} {p' : Pos} (hN : X.N.Nodup) (he : JE X e ue t) (hi : X.N[i]? = some x := by rfl) (hx : Loc X.env.scope x := by first | exact .inl rfl | exact .inr rfl) (hs : swapsWith e (some (.Name x p')) pos.line X.env = pure false := by rfl)
    (hf : X.fn x = true ∨ X.env.scope.names.lookup x = some .local := by first | exact .inl rfl | exact .inr rfl | assumption) : JS X (.Assign [.Name x p'] e pos) (tAsg ue (gName i)) (sAsg t (dgName i)) := ⟨ps_set hN hi hx he.p hs hf, fun R q k =>
  he.s R q fun _ _ _ _ _ R1 x r q1 => k.nx _ _ _ _ (R1.set r i) x q1⟩
def sOwn (t : TDL) (i : Nat) : TDS := fun D δ => t δ fun xs δ' => i < δ'.length ∧ ∀ p, D.nx (δ'.set i (.ow p (.lst xs)))
theorem js_own {i : Nat} {x : Str} {p' : Pos} {tl : TDL} (hN : X.N.Nodup) (he : JN X e ue tl) (hi : X.N[i]? = some x := by rfl) (hx : Loc X.env.scope x := by first | exact .inl rfl | exact .inr rfl) (hs : swapsWith e (some (.Name x p')) pos.line X.env = pure false := by rfl)
    (hf : X.fn x = true ∨ X.env.scope.names.lookup x = some .local := by first | exact .inl rfl | exact .inr rfl | assumption) : JS X (.Assign [.Name x p'] e pos) (tAsg ue (gName i)) (sOwn tl i) := ⟨ps_set hN hi hx he.p hs hf, fun R q k =>
  he.s R q fun p vs xs δ' H' Hs' R1 hB h0 x r ⟨hl, q1⟩ => k.nx _ _ _ _ (R1.own hB h0 r hl) x (q1 p)⟩
def sFrz (i : Nat) (t : TDS) : TDS := fun D δ => ∃ p xs, δ[i]? = some (.ow p (.lst xs)) ∧ t D (δ.set i (.dt (.list xs)))
theorem js_frz (i : Nat) (h : JSs X sts w s) : JSs X sts w (sFrz i s) := ⟨h.p, fun R ⟨p, xs, e, q⟩ k => by
  obtain ⟨v, Hs', e1, x, r, R1⟩ := R.frzAt e
  exact h.s R1 q (k.mono x)⟩
def sAug (i : Nat) (t : TDE) (f : Int → Int → Int) : TDS := fun D δ => ∃ a, δ[i]? = some (.dt (.int a)) ∧ t δ fun d δ' => ∃ b, d = .int b ∧ D.nx (δ'.set i (.dt (.int (f a b))))
theorem js_aug {i : Nat} {x : Str} {op : Operator} {f : Int → Int → Int} {p' : Pos} (ho : PIp X op (ipI f)) (hN : X.N.Nodup) (he : JE X e ue t) (hi : X.N[i]? = some x := by rfl) (hx : Loc X.env.scope x := by first | exact .inl rfl | exact .inr rfl)
    (hf : X.fn x = true ∨ X.env.scope.names.lookup x = some .local := by first | exact .inl rfl | exact .inr rfl | assumption) : JS X (.AugAssign (.Name x p') op e pos) (tAug i ue (ipI f)) (sAug i t f) := ⟨ps_aug hN hi hx he.p ho hf, fun R ⟨a, e, q⟩ k => by
  obtain ⟨v, e1, r⟩ := R.get e
  cases r
  refine ⟨_, e1, he.s R q fun v d δ' H' Hs' R1 x r ⟨b, eb, q1⟩ => ?_⟩
  subst eb
  cases r
  exact ⟨a, b, rfl, rfl, k.nx _ _ _ _ (R1.set (.int _) i) x q1⟩⟩
def sApp (i : Nat) (t : TDE) : TDS := fun D δ => (∃ p xs, δ[i]? = some (.ow p (.lst xs))) ∧ t δ fun d δ' => ∃ p xs, δ'[i]? = some (.ow p (.lst xs)) ∧ xs.length ≤ 100000 ∧ D.nx (δ'.set i (.ow p (.lst (xs ++ [d]))))
theorem own_at {K : PySem.W.Frag} {B H0 H Hs : Hp} {σ : L2.St} {δ : Dl} {i : Nat} {p : Addr} {xs : List D} (R : Rep K B H0 σ δ H Hs) (h : δ[i]? = some (.ow p (.lst xs))) : ∃ vs, σ[i]? = some (some (.ref p)) ∧ H p = some (.lst vs) ∧ DpAll K Hs vs xs := by
  obtain ⟨vs, e, hp, _, _, _, ha, _⟩ := R.take h
  exact ⟨vs, e, hp, ha⟩
theorem lt_line {n : Nat} (h : n ≤ 100000) : n < sizeLine := Nat.lt_of_le_of_lt h (by decide)
theorem je_tVar {K : PySem.W.Frag} {B H0 H Hs : Hp} {σ : L2.St} {δ : Dl} {i : Nat} {p : Addr} {xs : List D} {Q : VK} (R : Rep K B H0 σ δ H Hs) (h : δ[i]? = some (.ow p (.lst xs))) (q : Q (.ref p) H) : tVar i σ H Q := by
  obtain ⟨vs, e, hp, ha⟩ := own_at R h
  exact ⟨_, e, q⟩
theorem js_app {x : Str} {p1 p2 p3 : Pos} (i : Nat) (he : JE X e ue t) (hN : X.N[i]? = some x := by rfl) (hv : Vis X.env.scope x := by first | exact Or.inl rfl | exact Or.inr (Or.inl rfl) | exact Or.inr (Or.inr rfl)) (hd : (x == ("__debug__" : Str)) = false := by decide)
    (hcd : (x == ("__classdict__" : Str)) = false := by decide) (hs : starEach [e] X.env = (false, eval e X.env) :: starEach [] X.env := by rfl)
    (h1 : PE X (.Call (.Attribute (.Name x p1) "append" p2) [e] [] p3) (tBM X.K "list" rAppend (tVar i) (tCons ue tNil)) → PS X (.Expr (.Call (.Attribute (.Name x p1) "append" p2) [e] [] p3) pos) (tDrop (tBM X.K "list" rAppend (tVar i) (tCons ue tNil))) := by exact fun z => ps_expr z)
    (h2 : PE X (.Name x p1) (tVar i) → PA X [e] (tCons ue tNil) → PE X (.Call (.Attribute (.Name x p1) "append" p2) [e] [] p3) (tBM X.K "list" rAppend (tVar i) (tCons ue tNil)) := by exact fun z y => pe_bm PySem.F.plainAttrs_list PySem.F.slot_list_append PySem.F.type_list_append mt_append z y) :
    JS X (.Expr (.Call (.Attribute (.Name x p1) "append" p2) [e] [] p3) pos) (tDrop (tBM X.K "list" rAppend (tVar i) (tCons ue tNil))) (sApp i t) := by
  refine ⟨h1 (h2 (pe_var hN hv hd hcd) (pa_cons he.p pa_nil hs)), fun R ⟨⟨p, xs, ex⟩, q⟩ k => ?_⟩
  obtain ⟨vs, e1, hp, ha⟩ := own_at R ex
  refine ⟨_, e1, .inl ⟨rfl, vs, .inl (.inl hp)⟩, he.s R q fun v d δ' H' Hs' R1 x r ⟨p', ys, ey, hl, q1⟩ => ?_⟩
  obtain ⟨ws, e2, hp2, ha2⟩ := own_at R1 ey
  rw [e1] at e2
  cases e2
  refine ⟨p, ws, v, rfl, rfl, hp2, by rw [dpAll_len ha2]; exact lt_line hl, ?_⟩
  exact k.nx _ _ _ _ (R1.change ey (dpAll_app ha2 (.cons r .nil))) x q1
def dPop (i : Nat) : TDE := fun δ Q => ∃ p xs d, δ[i]? = some (.ow p (.lst (xs ++ [d]))) ∧ Q d (δ.set i (.ow p (.lst xs)))
theorem dpAll_snoc {K : PySem.W.Frag} {H : Hp} {vs : List V} {ds : List D} {d : D} (h : DpAll K H vs (ds ++ [d])) : ∃ ws v, vs = ws ++ [v] ∧ DpAll K H ws ds ∧ Dp K H v d := by
  induction ds generalizing vs with
  | nil =>
    cases h with
    | cons r t =>
      cases t
      exact ⟨[], _, rfl, .nil, r⟩
  | cons x xs ih =>
    cases h with
    | cons r t =>
      obtain ⟨ws, v, rfl, h1, h2⟩ := ih t
      exact ⟨_ :: ws, v, rfl, .cons r h1, h2⟩
theorem je_pop {x : Str} {p1 p2 p3 : Pos} (i : Nat) (hN : X.N[i]? = some x := by rfl) (hv : Vis X.env.scope x := by first | exact Or.inl rfl | exact Or.inr (Or.inl rfl) | exact Or.inr (Or.inr rfl)) (hd : (x == ("__debug__" : Str)) = false := by decide)
    (hcd : (x == ("__classdict__" : Str)) = false := by decide)
    (h2 : PE X (.Name x p1) (tVar i) → PE X (.Call (.Attribute (.Name x p1) "pop" p2) [] [] p3) (tBM0 X.K "list" rPop (tVar i)) := by exact fun z => pe_bm0 PySem.F.plainAttrs_list PySem.F.slot_list_pop PySem.F.type_list_pop mt_pop z) :
    JE X (.Call (.Attribute (.Name x p1) "pop" p2) [] [] p3) (tBM0 X.K "list" rPop (tVar i)) (dPop i) := by
  refine ⟨h2 (pe_var hN hv hd hcd), fun R ⟨p, xs, d, ex, q⟩ k => ?_⟩
  obtain ⟨vs, e1, hp, ha⟩ := own_at R ex
  obtain ⟨ws, v, rfl, h1, h3⟩ := dpAll_snoc ha
  refine ⟨_, e1, .inl ⟨rfl, _, .inl (.inl hp)⟩, p, ws ++ [v], v, rfl, rfl, hp, by simp, ?_⟩
  rw [List.dropLast_concat]
  exact k _ _ _ _ _ (R.change ex h1) (Ex.refl _) h3 q
def dLenO (i : Nat) : TDE := fun δ Q => ∃ p xs, δ[i]? = some (.ow p (.lst xs)) ∧ Q (.int xs.length) δ
theorem je_lenO {x : Str} {p1 p2 : Pos} (i : Nat) (hg : Gl X "len") (hm : X.mg "len" = none) (hN : X.N[i]? = some x := by rfl) (hv : Vis X.env.scope x := by first | exact Or.inl rfl | exact Or.inr (Or.inl rfl) | exact Or.inr (Or.inr rfl)) (hd : (x == ("__debug__" : Str)) = false := by decide)
    (hcd : (x == ("__classdict__" : Str)) = false := by decide) (hs : starEach [.Name x p2] X.env = (false, eval (.Name x p2) X.env) :: starEach [] X.env := by rfl) (hpl : (backTo pos (starEach [] X.env)).any (·.1) = false := by rfl) :
    JE X (.Call (.Name "len" p1) [.Name x p2] [] pos) (tCB (rLenU X.K) (tCons (tVar i) tNil)) (dLenO i) :=
  ⟨pe_callB call_len hg hm PySem.boot_len (pa_cons (pe_var hN hv hd hcd) pa_nil hs) (by decide) (by decide) hs hpl, fun R ⟨p, xs, ex, q⟩ k => by
    obtain ⟨vs, e1, hp, ha⟩ := own_at R ex
    exact ⟨_, e1, _, xs.length, rfl, .inl ⟨vs, .inl (.inl hp), (dpAll_len ha).symm⟩, k _ _ _ _ _ R (Ex.refl _) (.int _) q⟩⟩
def sSetO (i : Nat) (tj t : TDE) : TDS := fun D δ => t δ fun d δ1 => (∃ p xs, δ1[i]? = some (.ow p (.lst xs))) ∧ tj δ1 fun dj δ2 => ∃ p xs j k, δ2[i]? = some (.ow p (.lst xs)) ∧ dj = .int j ∧ ixN xs.length j = some k ∧ D.nx (δ2.set i (.ow p (.lst (xs.set k d))))
theorem js_setO {x : Str} {p1 p2 : Pos} {j : Expr} {uj : TE} {tj : TDE} (i : Nat) (hj : JE X j uj tj) (he : JE X e ue t) (hN : X.N[i]? = some x := by rfl) (hv : Vis X.env.scope x := by first | exact Or.inl rfl | exact Or.inr (Or.inl rfl) | exact Or.inr (Or.inr rfl)) (hd : (x == ("__debug__" : Str)) = false := by decide)
    (hcd : (x == ("__classdict__" : Str)) = false := by decide)
    (h1 : PE X (.Name x p1) (tVar i) → PE X j uj → PE X e ue → PS X (.Assign [.Subscript (.Name x p1) j p2] e pos) (tAsg ue (gSub (tVar i) uj rSetL)) := by exact fun z y v => ps_asg v (pg_sub z y set_list)) :
    JS X (.Assign [.Subscript (.Name x p1) j p2] e pos) (tAsg ue (gSub (tVar i) uj rSetL)) (sSetO i tj t) := by
  refine ⟨h1 (pe_var hN hv hd hcd) hj.p he.p, fun R q k => he.s R q fun v d δ1 H1 Hs1 R1 x1 r ⟨⟨p, xs, ex⟩, q1⟩ => ?_⟩
  obtain ⟨vs, e1, hp, ha⟩ := own_at R1 ex
  refine ⟨_, e1, hj.s R1 q1 fun u dj δ2 H2 Hs2 R2 x2 r2 ⟨p', ys, j', k', ey, ej, hk, q2⟩ => ?_⟩
  subst ej
  cases r2
  obtain ⟨ws, e2, hp2, ha2⟩ := own_at R2 ey
  rw [e1] at e2
  cases e2
  refine ⟨p, ws, j', k', rfl, rfl, hp2, by rw [dpAll_len ha2]; exact hk, ?_⟩
  exact k.nx _ _ _ _ (R2.change ey (dpAll_set (dp_mono x2 r) k' ha2)) (x1.trans x2) q2
end
end EL
namespace EL
open PySem PySem.Spec PyProof.Rows L2
abbrev TDI := Dl → (List D → Dl → Prop) → Prop
def ItOk (K : PySem.W.Frag) (J : It) (xs : List D) (Hs : Hp) : Prop := ∀ (i : Nat) (H Hs1 : Hp), Ex Hs Hs1 → Ex Hs1 H → (xs.length ≤ i → J.stop i H) ∧
  ∀ d, xs[i]? = some d → J.go i H ∧ ∀ x H', J.yld i H x H' → ∃ Hs2, PExt Hs1 H Hs2 H' ∧ Dp K Hs2 x d
def SimI (K : ZX) (wi : TI) (t : TDI) : Prop := ∀ {B H0 : Hp} [XOk K B H0] {σ : L2.St} {δ : Dl} {H Hs : Hp} {Q : List D → Dl → Prop} {R' : It → Hp → Prop}, Rep K B H0 σ δ H Hs → t δ Q →
  (∀ J xs δ' H' Hs', Rep K B H0 σ δ' H' Hs' → Ex Hs Hs' → ItOk K J xs Hs' → Q xs δ' → R' J H') → wi σ H R'
structure JI (X : Cy) (tg iter : Expr) (u : TI) (t : TDI) : Prop where
  p : PI X tg iter u
  s : SimI X.z u t
section
variable {X : Cy} {e a b tg : Expr} {es : List Expr} {pos : Pos} {t ta tb : TDE} {ue ua ub : TE} {us : TA} {vt : TT} {g : TG} {dg : TDG} {sts : List Stmt} {w : TS} {s : TDS} {wi : TI} {ti : TDI}
def iLst (t : TDE) : TDI := fun δ Q => t δ fun d δ' => ∃ xs, d = .list xs ∧ Q xs δ'
theorem it_list {K : PySem.W.Frag} {Hs : Hp} {a : Addr} {vs : List V} {xs : List D} (h : SqL K Hs a vs) (ha : DpAll K Hs vs xs) : ItOk K (Itl K a) xs Hs := fun i H Hs1 e1 e2 =>
  ⟨fun hi => ⟨vs, (e1.trans e2).sl h, by rw [dpAll_len ha]; exact hi⟩, fun d hd => by
    obtain ⟨v, hv, r⟩ := dpAll_get ha hd
    refine ⟨⟨vs, v, (e1.trans e2).sl h, hv⟩, fun x H' ⟨e, y⟩ => ?_⟩
    subst e
    have z := y vs ((e1.trans e2).sl h)
    rw [hv] at z
    cases z
    exact ⟨Hs1, PExt.refl e2, dp_mono e1 r⟩⟩
theorem it_tup {K : PySem.W.Frag} {Hs : Hp} {a : Addr} {vs : List V} {xs : List D} (h : SqT K Hs a vs) (ha : DpAll K Hs vs xs) : ItOk K (Itt K a) xs Hs := fun i H Hs1 e1 e2 =>
  ⟨fun hi => ⟨vs, (e1.trans e2).st h, by rw [dpAll_len ha]; exact hi⟩, fun d hd => by
    obtain ⟨v, hv, r⟩ := dpAll_get ha hd
    refine ⟨⟨vs, v, (e1.trans e2).st h, hv⟩, fun x H' ⟨e, y⟩ => ?_⟩
    subst e
    have z := y vs ((e1.trans e2).st h)
    rw [hv] at z
    cases z
    exact ⟨Hs1, PExt.refl e2, dp_mono e1 r⟩⟩
theorem ji_list (h : JE X e ue t) : JI X tg e (iList X.K ue) (iLst t) := ⟨pi_list h.p, fun R q k => h.s R q fun v d δ1 H1 Hs1 R1 e1 r1 ⟨xs, e, q1⟩ => by
  subst e
  cases r1 with
  | @lst a vs ds hs ha => exact ⟨a, rfl, ⟨vs, R1.ex.sl hs⟩, k _ _ _ _ _ R1 e1 (it_list hs ha) q1⟩⟩
def iTupD (t : TDE) : TDI := fun δ Q => t δ fun d δ' => ∃ xs, d = .tuple xs ∧ Q xs δ'
theorem ji_tup (h : JE X e ue t) : JI X tg e (iTup X.K ue) (iTupD t) := ⟨pi_tup h.p, fun R q k => h.s R q fun v d δ1 H1 Hs1 R1 e1 r1 ⟨xs, e, q1⟩ => by
  subst e
  cases r1 with
  | @tup a vs ds hs ha => exact ⟨a, rfl, ⟨vs, R1.ex.st hs⟩, k _ _ _ _ _ R1 e1 (it_tup hs ha) q1⟩⟩
def rngD (lo : Int) (n : Nat) : List D := (List.range n).map fun (i : Nat) => PyData.int (lo + (i : Int))
theorem it_rng {K : PySem.W.Frag} {Hs : Hp} (lo : Int) (n : Nat) : ItOk K (Itr lo n) (rngD lo n) Hs := fun i H Hs1 e1 e2 =>
  ⟨fun hi => by
    unfold rngD at hi
    rw [List.length_map, List.length_range] at hi
    exact hi, fun d hd => by
    unfold rngD at hd
    rw [List.getElem?_map] at hd
    by_cases hi : i < n
    · rw [List.getElem?_range hi] at hd
      cases hd
      exact ⟨hi, fun x H' ⟨e, y⟩ => by
        subst e y
        exact ⟨Hs1, PExt.refl e2, .int _⟩⟩
    · rw [List.getElem?_eq_none (by rw [List.length_range]; omega)] at hd
      cases hd⟩
def iRg1 (t : TDL) : TDI := fun δ Q => t δ fun ds δ' => ∃ n : Int, ds = [.int n] ∧ n ≤ 1000000 ∧ -1000000 ≤ n ∧ Q (rngD 0 n.toNat) δ'
theorem ji_range1 {p p2 : Pos} {u : TDL} (hg : Gl X "range") (hm : X.mg "range" = none) (ha : JA X [a] us u) (hs : starEach [a] X.env = [(false, eval a X.env)] := by rfl) : JI X tg (.Call (.Name "range" p) [a] [] p2) (iRng1 us) (iRg1 u) :=
  ⟨pi_range1 hg hm ha.p hs, fun R q k => ha.s R q fun vs ds δ1 H1 Hs1 R1 e1 r1 ⟨n, e, h1, h2, q1⟩ => by
    subst e
    cases r1 with
    | cons r1 r2 =>
      cases r1
      cases r2
      exact ⟨n, rfl, by omega, by omega, k _ _ _ _ _ R1 e1 (it_rng 0 n.toNat) q1⟩⟩
def iRg2 (t : TDL) : TDI := fun δ Q => t δ fun ds δ' => ∃ m n : Int, ds = [.int m, .int n] ∧ (n ≤ 1000000 ∧ -1000000 ≤ n ∧ m ≤ 1000000 ∧ -1000000 ≤ m) ∧ Q (rngD m (n - m).toNat) δ'
theorem ji_range2 {p p2 : Pos} {u : TDL} (hg : Gl X "range") (hm : X.mg "range" = none) (ha : JA X [a, b] us u) (hs : starEach [a, b] X.env = [(false, eval a X.env), (false, eval b X.env)] := by rfl) (hs2 : starEach [b] X.env = [(false, eval b X.env)] := by rfl) : JI X tg (.Call (.Name "range" p) [a, b] [] p2) (iRng2 us) (iRg2 u) :=
  ⟨pi_range2 hg hm ha.p hs hs2, fun R q k => ha.s R q fun vs ds δ1 H1 Hs1 R1 e1 r1 ⟨m, n, e, h1, q1⟩ => by
    subst e
    cases r1 with
    | cons r1 r2 =>
      cases r2 with
      | cons r2 r3 =>
        cases r1
        cases r2
        cases r3
        exact ⟨m, n, rfl, by omega, k _ _ _ _ _ R1 e1 (it_rng m (n - m).toNat) q1⟩⟩
def sForGo (dg : TDG) (s : TDS) (D0 : DEnds) : List D → Dl → Prop
  | [], δ => D0.nx δ
  | x :: xs, δ => dg x δ fun δ1 => s { D0 with nx := sForGo dg s D0 xs, ct := sForGo dg s D0 xs, bk := D0.nx } δ1
def sFor (ti : TDI) (dg : TDG) (s : TDS) : TDS := fun D δ => ti δ fun xs δ' => sForGo dg s D xs δ'
theorem js_for (hc : X.calm = true) (hi : JI X tg a wi ti) (hg : JG X tg g dg) (hb : JSs X sts w s) (hs : ∀ x, foldedSetIterable a X.env x = pure x := by intro _; rfl) (hp : PassesOwn (model X.prog X.w) X.A X.env X.xe := by exact PassesOwn.never) : JS X (.For tg a sts [] pos) (tFor wi g w) (sFor ti dg s) := by
  refine ⟨ps_for hp hc hi.p hg.p hb.p hs, ?_⟩
  intro B H0 hX σ δ H Hs D0 D' R q k
  refine hi.s R q fun J xs δ1 H1 Hs1 R1 e1 it q1 => ?_
  have k1 := k.mono e1
  refine ⟨fun i m σ' H' => m + i = xs.length ∧ ∃ δ' Hs', Rep X.K B H0 σ' δ' H' Hs' ∧ Ex Hs1 Hs' ∧ sForGo dg s D0 (xs.drop i) δ', ⟨xs.length, by omega, δ1, Hs1, R1, Ex.refl _, q1⟩, ?_⟩
  rintro i m σ' H' ⟨hm, δ', Hs', R', e', q'⟩
  obtain ⟨h1, h2⟩ := it i H' Hs' e' R'.ex
  by_cases hi' : i < xs.length
  · obtain ⟨go, yl⟩ := h2 xs[i] (List.getElem?_eq_getElem hi')
    rw [List.drop_eq_getElem_cons hi'] at q'
    refine .inr ⟨go, fun σ2 H2 => ∃ δ2 Hs2, Rep X.K B H0 σ2 δ2 H2 Hs2 ∧ Ex Hs1 Hs2 ∧ sForGo dg s D0 (xs.drop (i + 1)) δ2, fun σ2 H2 ⟨δ2, Hs2, R2, e2, q2⟩ => ⟨m - 1, by omega, by omega, δ2, Hs2, R2, e2, q2⟩, fun x H2 y => ?_⟩
    obtain ⟨Hs2, x2, r2⟩ := yl x H2 y
    refine hg.s (R'.ext x2) r2 q' fun σ3 δ3 R3 q3 => ?_
    have e3 := e'.trans x2.s
    exact hb.s R3 q3 ⟨fun σ4 δ4 H4 Hs4 R4 e4 q4 => ⟨δ4, Hs4, R4, e3.trans e4, q4⟩, (k1.mono e3).rt, (k1.mono e3).rn, (k1.mono e3).ro, (k1.mono e3).rr, (k1.mono e3).nx, fun σ4 δ4 H4 Hs4 R4 e4 q4 => ⟨δ4, Hs4, R4, e3.trans e4, q4⟩⟩
  · have ed : xs.drop i = [] := List.drop_eq_nil_of_le (by omega)
    rw [ed] at q'
    exact .inl ⟨h1 (by omega), k1.nx _ _ _ _ R' e' q'⟩
def sWhile (tc : TDB) (s : TDS) : TDS := fun D δ => ∃ W : Nat → Dl → Prop, (∃ m, W m δ) ∧ ∀ m δ, W m δ → tc δ fun b δ1 => if b = true then s { D with nx := fun δ' => ∃ m', m' < m ∧ W m' δ', ct := fun δ' => ∃ m', m' < m ∧ W m' δ', bk := D.nx } δ1 else D.nx δ1
theorem js_while {c : Expr} {tc : TDB} (hc : JT X c vt tc) (hb : JSs X sts w s) (hp : PassesOwn (model X.prog X.w) X.A X.env X.xe := by exact PassesOwn.never) : JS X (.While c sts [] pos) (tWhile vt w) (sWhile tc s) := by
  refine ⟨ps_while hp hc.p hb.p, ?_⟩
  intro B H0 hX σ δ H Hs D0 D' R q k
  obtain ⟨W, ⟨m0, w0⟩, turn⟩ := q
  refine ⟨fun m σ' H' => ∃ δ' Hs', Rep X.K B H0 σ' δ' H' Hs' ∧ Ex Hs Hs' ∧ W m δ', ⟨m0, δ, Hs, R, Ex.refl _, w0⟩, ?_⟩
  rintro m σ' H' ⟨δ', Hs', R', e', w'⟩
  refine hc.s R' (turn m δ' w') fun c δ1 H1 Hs1 R1 e1 q1 => ?_
  cases c with
  | true =>
    rw [if_pos rfl] at q1 ⊢
    have e2 := e'.trans e1
    refine ⟨fun σ2 H2 => ∃ δ2 Hs2, Rep X.K B H0 σ2 δ2 H2 Hs2 ∧ Ex Hs Hs2 ∧ ∃ m', m' < m ∧ W m' δ2, fun σ2 H2 ⟨δ2, Hs2, R2, e3, n2⟩ => ?_, ?_⟩
    · obtain ⟨m', hm, w2⟩ := n2
      exact ⟨m', hm, δ2, Hs2, R2, e3, w2⟩
    · exact hb.s R1 q1 ⟨fun σ4 δ4 H4 Hs4 R4 e4 q4 => ⟨δ4, Hs4, R4, e2.trans e4, q4⟩, (k.mono e2).rt, (k.mono e2).rn, (k.mono e2).ro, (k.mono e2).rr, (k.mono e2).nx, fun σ4 δ4 H4 Hs4 R4 e4 q4 => ⟨δ4, Hs4, R4, e2.trans e4, q4⟩⟩
  | false =>
    rw [if_neg Bool.false_ne_true] at q1 ⊢
    exact k.nx _ _ _ _ R1 (e'.trans e1) q1
def wipeD (δ : Dl) : List Nat → Dl
  | [] => δ
  | v :: vs => (wipeD δ vs).set v .un
def mixD (δ2 δ : Dl) : List Nat → Dl
  | [] => δ2
  | v :: vs => (mixD δ2 δ vs).set v (δ[v]?.getD .un)
def mixS (σ2 σ : L2.St) : List Nat → L2.St
  | [] => σ2
  | v :: vs => (mixS σ2 σ vs).set v (σ[v]?.getD none)
def isOw : SD → Bool
  | .ow _ _ => true
  | _ => false
theorem Rep.setUn {K : PySem.W.Frag} {B H0 H Hs : Hp} {σ : L2.St} {δ : Dl} (R : Rep K B H0 σ δ H Hs) (i : Nat) (x : Option V) : Rep K B H0 (σ.set i x) (δ.set i .un) H Hs where
  len := by rw [List.length_set, List.length_set, R.len]
  ex := R.ex
  base := R.base
  frz := R.frz
  frs := R.frs
  sl := by
    obtain ⟨fps, F⟩ := R.sl
    refine ⟨fun j b => j ≠ i ∧ fps j b, fun j s hs => ?_, fun j hj b hb => F.out j (by rw [List.length_set] at hj; exact hj) b hb.2, fun j k b h1 h2 => F.dj j k b h1.2 h2.2⟩
    by_cases hj : i = j
    · subst hj
      have hl : i < δ.length := by
        have := (List.getElem?_eq_some_iff.mp hs).1
        rw [List.length_set] at this
        exact this
      rw [List.getElem?_set_self hl] at hs
      cases hs
      exact ⟨x, List.getElem?_set_self (by rw [R.len]; exact hl), fun b hb => hb.1 rfl⟩
    · rw [List.getElem?_set_ne hj] at hs
      obtain ⟨x, e, q⟩ := F.sl j s hs
      refine ⟨x, by rw [List.getElem?_set_ne hj]; exact e, ?_⟩
      have : (fun b => j ≠ i ∧ fps j b) = fps j := funext fun b => propext ⟨fun z => z.2, fun z => ⟨fun z => hj z.symm, z⟩⟩
      rw [this]
      exact q
theorem Rep.wipe {K : PySem.W.Frag} {B H0 H Hs : Hp} {σ : L2.St} {δ : Dl} (R : Rep K B H0 σ δ H Hs) : ∀ vs : List Nat, Rep K B H0 (L2.wipe σ vs) (wipeD δ vs) H Hs
  | [] => R
  | v :: vs => (R.wipe vs).setUn v none
theorem Rep.mix {K : PySem.W.Frag} {B H0 H Hs H2 Hs2 : Hp} {σ σ2 : L2.St} {δ δ2 : Dl} (R : Rep K B H0 σ δ H Hs) (R2 : Rep K B H0 σ2 δ2 H2 Hs2) (e : Ex Hs Hs2) : ∀ vs : List Nat, (∀ v ∈ vs, ∃ s, δ[v]? = some s ∧ isOw s = false) → Rep K B H0 (mixS σ2 σ vs) (mixD δ2 δ vs) H2 Hs2
  | [], _ => R2
  | v :: vs, h => by
    have ih := R.mix R2 e vs fun u hu => h u (List.mem_cons_of_mem _ hu)
    obtain ⟨s, hs, ho⟩ := h v List.mem_cons_self
    obtain ⟨fps, F⟩ := R.sl
    obtain ⟨x, ex, r⟩ := F.sl v s hs
    show Rep K B H0 ((mixS σ2 σ vs).set v (σ[v]?.getD none)) ((mixD δ2 δ vs).set v (δ[v]?.getD .un)) H2 Hs2
    rw [hs, ex]
    cases s with
    | un => exact ih.setUn v x
    | dt d =>
      cases x with
      | none => exact r.elim
      | some y => exact ih.set (dp_mono e r.1) v
    | ow p o => cases ho
theorem mixS_len (σ2 σ : L2.St) : ∀ vs, (mixS σ2 σ vs).length = σ2.length
  | [] => rfl
  | v :: vs => by
    unfold mixS
    rw [List.length_set, mixS_len σ2 σ vs]
theorem mixS_get {σ2 σ : L2.St} (hl : σ2.length = σ.length) {i : Nat} (hi : i < σ.length) : ∀ vs : List Nat, (mixS σ2 σ vs)[i]? = if i ∈ vs then σ[i]? else σ2[i]?
  | [] => by rw [if_neg (by simp)]; rfl
  | v :: vs => by
    show ((mixS σ2 σ vs).set v (σ[v]?.getD none))[i]? = _
    by_cases hv : v = i
    · subst hv
      rw [List.getElem?_set_self (by rw [mixS_len, hl]; exact hi), if_pos List.mem_cons_self, List.getElem?_eq_getElem hi]
      rfl
    · rw [List.getElem?_set_ne hv, mixS_get hl hi vs]
      by_cases hm : i ∈ vs
      · rw [if_pos hm, if_pos (List.mem_cons_of_mem _ hm)]
      · rw [if_neg hm, if_neg (fun z => by rcases List.mem_cons.mp z with z | z; exact hv z.symm; exact hm z)]
theorem mixS_eq {σ2 σ : L2.St} {vs : List Nat} (h : L2.wipe σ2 vs = L2.wipe σ vs) : mixS σ2 σ vs = σ := by
  have hl : σ2.length = σ.length := by
    have := congrArg List.length h
    rw [wipe_length, wipe_length] at this
    exact this
  refine List.ext_getElem? fun i => ?_
  by_cases hi : i < σ.length
  · rw [mixS_get hl hi vs]
    by_cases hm : i ∈ vs
    · rw [if_pos hm]
    · rw [if_neg hm]
      have := congrArg (fun l => l[i]?) h
      simp only [wipe_out hm] at this
      exact this
  · rw [List.getElem?_eq_none (by rw [mixS_len, hl]; omega), List.getElem?_eq_none (by omega)]
def dLcGo (dg : TDG) (tt : TDB) (te : TDE) (vs : List Nat) (Q : List D → Dl → Prop) : List D → List D → Dl → Prop
  | [], acc, δ => Q acc δ
  | x :: xs, acc, δ => dg x (wipeD δ vs) fun δ1 => tt δ1 fun b δ2 => if b = true then te δ2 fun y δ3 => acc.length ≤ 100000 ∧ dLcGo dg tt te vs Q xs (acc ++ [y]) (mixD δ3 δ vs) else dLcGo dg tt te vs Q xs acc (mixD δ2 δ vs)
def dLc (ti : TDI) (dg : TDG) (tt : TDB) (te : TDE) (vs : List Nat) : TDL := fun δ Q => (∀ v ∈ vs, ∃ s, δ[v]? = some s ∧ isOw s = false) ∧ ti δ fun xs δ' => (∀ v ∈ vs, ∃ s, δ'[v]? = some s ∧ isOw s = false) ∧ dLcGo dg tt te vs Q xs [] δ'
theorem wipe_own {σ : L2.St} {i : Nat} {x : Option V} : ∀ {vs : List Nat}, i ∈ vs → L2.wipe ((L2.wipe σ vs).set i x) vs = L2.wipe σ vs := by
  intro vs hi
  refine List.ext_getElem? fun j => ?_
  have key : ∀ (us : List Nat) (τ : L2.St), j ∈ us → j < τ.length → (L2.wipe τ us)[j]? = some none := by
    intro us
    induction us with
    | nil => intro τ h; simp at h
    | cons v us ih =>
      intro τ h hl
      show ((L2.wipe τ us).set v none)[j]? = some none
      by_cases hv : v = j
      · subst hv
        rw [List.getElem?_set_self (by rw [wipe_length]; exact hl)]
      · rw [List.getElem?_set_ne hv]
        rcases List.mem_cons.mp h with z | z
        · exact absurd z.symm hv
        · exact ih τ z hl
  by_cases hj : j ∈ vs
  · by_cases hl : j < σ.length
    · rw [key vs _ hj (by rw [List.length_set, wipe_length]; exact hl), key vs _ hj hl]
    · rw [List.getElem?_eq_none (by rw [wipe_length, List.length_set, wipe_length]; omega), List.getElem?_eq_none (by rw [wipe_length]; omega)]
  · rw [wipe_out hj, List.getElem?_set_ne (fun (z : i = j) => hj (z ▸ hi)), wipe_out hj]
theorem sim_lc {K : ZX} {i : Nat} {vt : TT} {ue : TE} {tt : TDB} {te : TDE} {vs : List Nat} (hi : SimI K wi ti) (ht : SimT K vt tt) (he : SimE K ue te) (hv : i ∈ vs) : SimN K (tLc wi (gName i) vt ue vs) (dLc ti (dgName i) tt te vs) := by
  intro B H0 hX σ δ H Hs Q Q' R q k
  obtain ⟨_, q⟩ := q
  refine hi R q fun J xs δ1 H1 Hs1 R1 e1 it ⟨ho, q1⟩ => ?_
  intro p hp
  have hB : B p = none := R1.base.none hp
  have hH0 : H0 p = none := R1.frz.none (R1.ex.none hp)
  refine ⟨fun j m H' => m + j = xs.length ∧ ∃ δ' Hs' acc vacc, Rep K (upd B p (.lst vacc)) H0 σ δ' H' Hs' ∧ Ex Hs1 Hs' ∧ DpAll K Hs' vacc acc ∧ (∀ v ∈ vs, ∃ s, δ'[v]? = some s ∧ isOw s = false) ∧ dLcGo (dgName i) tt te vs Q (xs.drop j) acc δ',
    ⟨xs.length, by omega, δ1, Hs1, [], [], R1.hide hp, Ex.refl _, .nil, ho, q1⟩, ?_⟩
  rintro j m H' ⟨hm, δ', Hs', acc, vacc, R', e', ha, ho', q'⟩
  obtain ⟨h1, h2⟩ := it j H' Hs' e' R'.ex
  by_cases hj : j < xs.length
  · obtain ⟨go, yl⟩ := h2 xs[j] (List.getElem?_eq_getElem hj)
    rw [List.drop_eq_getElem_cons hj] at q'
    refine .inr ⟨go, fun H2 => ∃ δ2 Hs2 acc vacc, Rep K (upd B p (.lst vacc)) H0 σ δ2 H2 Hs2 ∧ Ex Hs1 Hs2 ∧ DpAll K Hs2 vacc acc ∧ (∀ v ∈ vs, ∃ s, δ2[v]? = some s ∧ isOw s = false) ∧ dLcGo (dgName i) tt te vs Q (xs.drop (j + 1)) acc δ2,
      fun H2 ⟨δ2, Hs2, acc2, vacc2, R2, e2, a2, o2, q2⟩ => ⟨m - 1, by omega, by omega, δ2, Hs2, acc2, vacc2, R2, e2, a2, o2, q2⟩, fun x H2 y => ?_⟩
    obtain ⟨Hs2, x2, r2⟩ := yl x H2 y
    haveI := hX.hide (o := .lst vacc) hB
    have R2 := R'.ext x2
    have R3 := (R2.wipe vs).set r2 i
    have hw : L2.wipe ((L2.wipe σ vs).set i (some x)) vs = L2.wipe σ vs := wipe_own hv
    refine ⟨hw, ht R3 q' fun c δ4 H4 Hs4 R4 e4 q4 => ?_⟩
    have mono : ∀ {δx : Dl}, (∀ v ∈ vs, ∃ s, (mixD δx δ' vs)[v]? = some s ∧ isOw s = false) ↔ (∀ v ∈ vs, ∃ s, (mixD δx δ' vs)[v]? = some s ∧ isOw s = false) := Iff.rfl
    have keep : ∀ {δx : Dl} {us : List Nat}, δx.length = δ'.length → (∀ v ∈ us, v ∈ vs) → ∀ v ∈ us, ∃ s, (mixD δx δ' us)[v]? = some s ∧ isOw s = false := by
      intro δx us hl
      have ml : ∀ us, (mixD δx δ' us).length = δx.length := by
        intro us
        induction us with
        | nil => rfl
        | cons v us ih =>
          show ((mixD δx δ' us).set v _).length = _
          rw [List.length_set, ih]
      induction us with
      | nil =>
        intro _ v hv
        simp at hv
      | cons u us ih =>
        intro hsub v hv
        show ∃ s, ((mixD δx δ' us).set u (δ'[u]?.getD .un))[v]? = some s ∧ isOw s = false
        obtain ⟨s, hs, hso⟩ := ho' u (hsub u List.mem_cons_self)
        have hul : u < δ'.length := lt_of_get hs
        by_cases huv : u = v
        · subst huv
          rw [List.getElem?_set_self (by rw [ml, hl]; exact hul), hs]
          exact ⟨s, rfl, hso⟩
        · rw [List.getElem?_set_ne huv]
          rcases List.mem_cons.mp hv with z | z
          · exact absurd z.symm huv
          · exact ih (fun w hw => hsub w (List.mem_cons_of_mem _ hw)) v z
    cases c with
    | true =>
      rw [if_pos rfl] at q4 ⊢
      refine he R4 q4 fun z d δ5 H5 Hs5 R5 e5 r5 ⟨hlen, q5⟩ => ?_
      refine ⟨vacc, R5.at_p, by rw [dpAll_len ha]; exact lt_line hlen, ?_⟩
      have R6 := R2.mix R5 (e4.trans e5) vs ho'
      rw [mixS_eq hw] at R6
      have hl5 : δ5.length = δ'.length := by
        have a1 := R5.len
        have a2 := R2.len
        rw [List.length_set, wipe_length] at a1
        omega
      have e6 := (x2.s.trans e4).trans e5
      exact ⟨mixD δ5 δ' vs, Hs5, acc ++ [d], vacc ++ [z], R6.hset hH0, e'.trans e6, dpAll_app (dpAll_mono e6 ha) (.cons r5 .nil), keep hl5 (fun _ h => h), q5⟩
    | false =>
      rw [if_neg Bool.false_ne_true] at q4 ⊢
      have R6 := R2.mix R4 e4 vs ho'
      rw [mixS_eq hw] at R6
      have hl5 : δ4.length = δ'.length := by
        have a1 := R4.len
        have a2 := R2.len
        rw [List.length_set, wipe_length] at a1
        omega
      have e6 := x2.s.trans e4
      exact ⟨mixD δ4 δ' vs, Hs4, acc, vacc, R6, e'.trans e6, dpAll_mono e6 ha, keep hl5 (fun _ h => h), q4⟩
  · have ed : xs.drop j = [] := List.drop_eq_nil_of_le (by omega)
    rw [ed] at q'
    exact .inl ⟨h1 (by omega), k _ _ _ _ _ _ R' hB hH0 (e1.trans e') ha q'⟩
def dYes : TDB := fun δ Q => Q true δ
theorem sim_yes {K : ZX} : SimT K tYes dYes := fun R h k => k _ _ _ _ R (Ex.refl _) h
abbrev Bk (X : Cy) (s : Shared) (H : Hp) (scope : Scope) (C : Addr) (cl : List (Str × Addr)) (fp : List Addr) : Cy := ⟨X.toCx.blk s H scope (compEnvC scope cl C X.env) fp, X.W, X.xk⟩
section
variable {x : Str} {i : Nat} {iter elt : Expr} {ifs : List Expr} {scope : Scope} {p1 : Pos} {tt : TDB} {te : TDE} {uf : Shared → Hp → Addr → List (Str × Addr) → List Addr → TE} {vf : Shared → Hp → Addr → List (Str × Addr) → List Addr → TT}
theorem jn_lc (hc : X.calm = true) (hN : X.N.Nodup) (hi : JI X (.Name x p1) iter wi ti) (ok : BlkOk X.N X.env.scope scope [(x, i)])
    (hg : ∀ (s : Shared) (H : Hp) (C : Addr) (cl : List (Str × Addr)) (fp : List Addr), PG (Bk X s H scope C cl fp) (.Name x p1) (gName i))
    (he : ∀ (s : Shared) (H : Hp) (C : Addr) (cl : List (Str × Addr)) (fp : List Addr), JE (Bk X s H scope C cl fp) elt (uf s H C cl fp) te) (hu : ∀ (s : Shared) (H : Hp) (C : Addr) (cl : List (Str × Addr)) (fp : List Addr), uf s H C cl fp = uf X.s_0 X.H_0 0 [] [] := by intros; rfl) (hs : ∀ x, foldedSetIterable iter X.env x = pure x := by intro _; rfl) :
    JN X (.ListComp elt [⟨.Name x p1, iter, [], 0⟩] scope pos) (tLc wi (gName i) tYes (uf X.s_0 X.H_0 0 [] []) [i]) (dLc ti (dgName i) dYes te [i]) :=
  ⟨pe_lc (own := [(x, i)]) hc hN hi.p ok hg (fun _ _ _ _ _ => pts_nil) (fun s H C cl fp => hu s H C cl fp ▸ (he s H C cl fp).p) hs, sim_lc hi.s sim_yes (he X.s_0 X.H_0 0 [] []).s List.mem_cons_self⟩
theorem jn_lcIf {c : Expr} (hc : X.calm = true) (hN : X.N.Nodup) (hi : JI X (.Name x p1) iter wi ti) (ok : BlkOk X.N X.env.scope scope [(x, i)])
    (hg : ∀ (s : Shared) (H : Hp) (C : Addr) (cl : List (Str × Addr)) (fp : List Addr), PG (Bk X s H scope C cl fp) (.Name x p1) (gName i))
    (ht : ∀ (s : Shared) (H : Hp) (C : Addr) (cl : List (Str × Addr)) (fp : List Addr), JT (Bk X s H scope C cl fp) c (vf s H C cl fp) tt)
    (he : ∀ (s : Shared) (H : Hp) (C : Addr) (cl : List (Str × Addr)) (fp : List Addr), JE (Bk X s H scope C cl fp) elt (uf s H C cl fp) te) (hu : ∀ (s : Shared) (H : Hp) (C : Addr) (cl : List (Str × Addr)) (fp : List Addr), uf s H C cl fp = uf X.s_0 X.H_0 0 [] [] := by intros; rfl) (hv : ∀ (s : Shared) (H : Hp) (C : Addr) (cl : List (Str × Addr)) (fp : List Addr), vf s H C cl fp = vf X.s_0 X.H_0 0 [] [] := by intros; rfl) (hs : ∀ x, foldedSetIterable iter X.env x = pure x := by intro _; rfl) :
    JN X (.ListComp elt [⟨.Name x p1, iter, [c], 0⟩] scope pos) (tLc wi (gName i) (vf X.s_0 X.H_0 0 [] []) (uf X.s_0 X.H_0 0 [] []) [i]) (dLc ti (dgName i) tt te [i]) :=
  ⟨pe_lc (own := [(x, i)]) hc hN hi.p ok hg (fun s H C cl fp => pts_one (hv s H C cl fp ▸ (ht s H C cl fp).p)) (fun s H C cl fp => hu s H C cl fp ▸ (he s H C cl fp).p) hs, sim_lc hi.s (ht X.s_0 X.H_0 0 [] []).s (he X.s_0 X.H_0 0 [] []).s List.mem_cons_self⟩
theorem js_setLc {y : Str} {py p2 spos : Pos} {n : Nat} (hc : X.calm = true) (hN : X.N.Nodup) (hi : JI X (.Name x p1) iter wi ti) (ok : BlkOk X.N X.env.scope scope [(x, i)])
    (hg : ∀ (s : Shared) (H : Hp) (C : Addr) (cl : List (Str × Addr)) (fp : List Addr), PG (Bk X s H scope C cl fp) (.Name x p1) (gName i))
    (he : ∀ (s : Shared) (H : Hp) (C : Addr) (cl : List (Str × Addr)) (fp : List Addr), JE (Bk X s H scope C cl fp) elt (uf s H C cl fp) te) (hu : ∀ (s : Shared) (H : Hp) (C : Addr) (cl : List (Str × Addr)) (fp : List Addr), uf s H C cl fp = uf X.s_0 X.H_0 0 [] [] := by intros; rfl) (hy : X.N[n]? = some y := by rfl) (hyl : X.env.scope.names.lookup y = some .local := by rfl)
    (hsw : swapsWith (.ListComp elt [⟨.Name x p1, iter, [], 0⟩] scope p2) (some (.Name y py)) spos.line X.env = pure true := by exact sw_true rfl rfl rfl (by decide +kernel)) (hs : ∀ x, foldedSetIterable iter X.env x = pure x := by intro _; rfl) :
    JS X (.Assign [.Name y py] (.ListComp elt [⟨.Name x p1, iter, [], 0⟩] scope p2) spos) (tAsg (tLc wi (gName i) tYes (uf X.s_0 X.H_0 0 [] []) [i]) (gName n)) (sAsg (dN (dLc ti (dgName i) dYes te [i])) (dgName n)) := by
  have h := jn_lc (pos := p2) hc hN hi ok hg he hu hs
  refine ⟨ps_setLc (own := [(x, i)]) hc hN hy hyl hsw hi.p ok hg (fun _ _ _ _ _ => pts_nil) (fun s H C cl fp => hu s H C cl fp ▸ (he s H C cl fp).p) hs, fun R q k => ?_⟩
  exact (je_new h).s R q fun _ _ _ _ _ R1 x r q1 => k.nx _ _ _ _ (R1.set r n) x q1
theorem js_ownLc {y : Str} {py p2 spos : Pos} {n : Nat} (hc : X.calm = true) (hN : X.N.Nodup) (hi : JI X (.Name x p1) iter wi ti) (ok : BlkOk X.N X.env.scope scope [(x, i)])
    (hg : ∀ (s : Shared) (H : Hp) (C : Addr) (cl : List (Str × Addr)) (fp : List Addr), PG (Bk X s H scope C cl fp) (.Name x p1) (gName i))
    (he : ∀ (s : Shared) (H : Hp) (C : Addr) (cl : List (Str × Addr)) (fp : List Addr), JE (Bk X s H scope C cl fp) elt (uf s H C cl fp) te) (hu : ∀ (s : Shared) (H : Hp) (C : Addr) (cl : List (Str × Addr)) (fp : List Addr), uf s H C cl fp = uf X.s_0 X.H_0 0 [] [] := by intros; rfl) (hy : X.N[n]? = some y := by rfl) (hyl : X.env.scope.names.lookup y = some .local := by rfl)
    (hsw : swapsWith (.ListComp elt [⟨.Name x p1, iter, [], 0⟩] scope p2) (some (.Name y py)) spos.line X.env = pure true := by exact sw_true rfl rfl rfl (by decide +kernel)) (hs : ∀ x, foldedSetIterable iter X.env x = pure x := by intro _; rfl) :
    JS X (.Assign [.Name y py] (.ListComp elt [⟨.Name x p1, iter, [], 0⟩] scope p2) spos) (tAsg (tLc wi (gName i) tYes (uf X.s_0 X.H_0 0 [] []) [i]) (gName n)) (sOwn (dLc ti (dgName i) dYes te [i]) n) := by
  have h := jn_lc (pos := p2) hc hN hi ok hg he hu hs
  refine ⟨ps_setLc (own := [(x, i)]) hc hN hy hyl hsw hi.p ok hg (fun _ _ _ _ _ => pts_nil) (fun s H C cl fp => hu s H C cl fp ▸ (he s H C cl fp).p) hs, fun R q k => ?_⟩
  exact h.s R q fun p vs xs δ' H' Hs' R1 hB h0 x r ⟨hl, q1⟩ => k.nx _ _ _ _ (R1.own hB h0 r hl) x (q1 p)
end
end
end EL
namespace EL
open PySem PySem.Spec PyProof.Rows L2
abbrev DSp := List SD → (RS → List SD → Prop) → Prop
open Classical in
noncomputable def Bm (H : Hp) (fps : Nat → Foot) : Hp := fun b => if ∃ i, fps i b then none else H b
theorem bm_in {H : Hp} {fps : Nat → Foot} {b : Addr} {i : Nat} (h : fps i b) : Bm H fps b = none := by
  unfold Bm
  rw [if_pos ⟨i, h⟩]
theorem bm_out {H : Hp} {fps : Nat → Foot} {b : Addr} (h : ∀ i, ¬ fps i b) : Bm H fps b = H b := by
  unfold Bm
  rw [if_neg (fun ⟨i, z⟩ => h i z)]
theorem bm_ex {H : Hp} {fps : Nat → Foot} : Ex (Bm H fps) H := fun b o e => by
  by_cases h : ∃ i, fps i b
  · obtain ⟨i, h⟩ := h
    rw [bm_in h] at e
    cases e
  · rw [bm_out (fun i z => h ⟨i, z⟩)] at e
    exact e
def XcOk (K : PySem.W.Frag) (Bx Hs' H' : Hp) (fps' : Nat → Foot) (x : Exn) (d : Option Addr) : Prop :=
  x.fs = [] ∨ ∃ a vs, d = some a ∧ Hs' a = none ∧ H' a = some (.xd vs) ∧ Bx a = none ∧ (∀ i, ¬ fps' i a) ∧ FAll K Hs' vs x.fs
def ResOk (K : PySem.W.Frag) (Bx Hs' H' : Hp) (fps' : Nat → Foot) (v : V) : RS → Prop
  | .dt d => Dp K Hs' v d
  | .new xs => ∃ p vs, v = .ref p ∧ Hs' p = none ∧ H' p = some (.lst vs) ∧ Bx p = none ∧ (∀ i, ¬ fps' i p) ∧ DpAll K Hs' vs xs
  | .obj a => ∃ p o, v = .ref p ∧ Hs' p = none ∧ H' p = some o ∧ Bx p = none ∧ (∀ i, ¬ fps' i p) ∧ a.P K Hs' o
  | .rg a L => v = .ref a ∧ Reg K Hs' H' L ∧ ∀ b ∈ addrsL L, Hs' b = none ∧ Bx b = none ∧ ∀ i, ¬ fps' i b
  | .exn _ => False
def FinOk (K : PySem.W.Frag) (Bx Hs' H' : Hp) (fps' : Nat → Foot) (Q : VK) (E : XK) : RS → Prop
  | .exn x => ∀ d, XcOk K Bx Hs' H' fps' x d → E x.c d H'
  | r => ∀ v, ResOk K Bx Hs' H' fps' v r → Q v H'
def spOf (K : PySem.W.Frag) (dsp : DSp) : Sp := fun vs H Q E => ∃ (Hs : Hp) (as : List SD) (fps : Nat → Foot), vs.length = as.length ∧ Ex Hs H ∧ Fps K (Bm H fps) Hs H (vs.map some) as fps ∧
  dsp as fun d as' => ∀ (H' Hs' : Hp) (fps' : Nat → Foot), Ex (Bm H fps) H' → Ex Hs Hs' → Ex Hs' H' → (∀ b, Hs' b ≠ none → Hs b = none → NewT (Bm H fps) b) →
    (∀ i s, as'[i]? = some s → s = .un ∨ ∃ p o o', as[i]? = some (.ow p o) ∧ s = .ow p o' ∧ SRep K (Bm H fps) Hs' H' (fps' i) (some (.ref p)) (.ow p o')) → (∀ i j b, fps' i b → fps' j b → i = j) → FinOk K (Bm H fps) Hs' H' fps' Q E d
def oneOut : SD → SD → SD
  | .ow p _, .ow q o => if p = q then .ow q o else .un
  | _, _ => .un
def outs : List SD → Dl → List SD
  | a :: as, s :: ss => oneOut a s :: outs as ss
  | _, _ => []
theorem outs_get : ∀ {as : List SD} {ss : Dl} {i : Nat} {s : SD}, (outs as ss)[i]? = some s → s = .un ∨ ∃ p o o', as[i]? = some (.ow p o) ∧ s = .ow p o' ∧ ss[i]? = some (.ow p o')
  | [], _, _, _, h => by simp [outs] at h
  | _ :: _, [], _, _, h => by simp [outs] at h
  | a :: as, t :: ss, 0, s, h => by
    have h : some (oneOut a t) = some s := h
    cases h
    cases a with
    | un => exact .inl rfl
    | dt d => exact .inl rfl
    | ow p o =>
      cases t with
      | un => exact .inl rfl
      | dt d => exact .inl rfl
      | ow q o' =>
        by_cases e : p = q
        · subst e
          exact .inr ⟨p, o, o', rfl, (show (if p = p then SD.ow p o' else SD.un) = _ from if_pos rfl), rfl⟩
        · exact .inl (show (if p = q then SD.ow q o' else SD.un) = _ from if_neg e)
  | a :: as, t :: ss, i + 1, s, h => by
    have h : (outs as ss)[i]? = some s := h
    exact outs_get (i := i) h
def startD (n : Nat) (as : List SD) : Dl := as ++ List.replicate (n - as.length) .un
section
variable {P : Program} {w : World} {K : PySem.W.Frag} {mg : Str → Option Value} {base : Heap}
abbrev cyOf (P : Program) (w : World) (K : PySem.W.Frag) (mg : Str → Option Value) (base : Heap) (N : List Str) (qual : Str) (scope : Scope) (f : Addr) (cdv : Value) (A : Around) (outer : List Env) (s : Shared) (H : Hp) (E : XK) (xk : Exn → Dl → Prop) : Cy :=
  ⟨cxOf (L2.CX P w) P w K mg base N qual scope f cdv A outer s H E, fun cls d _ H => E cls d H, xk⟩
theorem cy_takes {N : List Str} {qual : Str} {scope : Scope} {f : Addr} {cdv : Value} {A : Around} {outer : List Env} {s : Shared} {H : Hp} {E : XK} {xk : Exn → Dl → Prop} : Takes (cyOf P w K mg base N qual scope f cdv A outer s H E xk).toCx (cyOf P w K mg base N qual scope f cdv A outer s H E xk).W :=
  takes_of rfl rfl rfl rfl
theorem fn_ok {x qual : Str} {st : Stmt} {f : Addr} {fd : FuncData} {N ps : List Str} {k : Nat} {dsp : DSp} {t : (Exn → Dl → Prop) → TDS} (F : Fun K x qual st f fd) (S : FnScope N ps (defScope st)) (len : ∀ as Q, dsp as Q → as.length = ps.length) (hN : ps.length ≤ N.length)
    (body : ∀ (cdv : Value) (A : Around) (outer : List Env) (s : Shared) (H : Hp) (E : XK) (xk : Exn → Dl → Prop), Takes (cyOf P w K mg base N qual (defScope st) f cdv A outer s H E xk).toCx (cyOf P w K mg base N qual (defScope st) f cdv A outer s H E xk).W → Room k (A.deeper (envOfC qual (defScope st) s.heap.objs.size f cdv)) →
      ∃ u, JSs (cyOf P w K mg base N qual (defScope st) f cdv A outer s H E xk) (defBody st) u (t xk))
    (rp : ∀ (as : List SD) (Q : RS → List SD → Prop), dsp as Q → t (fun x δ => Q (.exn x) (outs as δ)) { nx := fun δ => Q (.dt .none) (outs as δ), rt := fun d δ => Q d (outs as δ) } (startD N.length as)) :
    FnOk P w K mg base (L2.CX P w) (k + 1) f fd ps (spOf K dsp) := by
  refine F.okX S (fun vs H Q E h => ?_) (fun cdv A outer s H vs Q E hr h => ?_)
  · obtain ⟨Hs, as, fps, hl, _, _, hd⟩ := h
    rw [hl]
    exact len _ _ hd
  · obtain ⟨Hs, as, fps, hl, hx, F1, hd⟩ := h
    obtain ⟨Q0, hQ0⟩ : ∃ z : RS → List SD → Prop, z = fun d as' => ∀ (H' Hs' : Hp) (fps' : Nat → Foot), Ex (Bm H fps) H' → Ex Hs Hs' → Ex Hs' H' → (∀ b, Hs' b ≠ none → Hs b = none → NewT (Bm H fps) b) →
    (∀ i s, as'[i]? = some s → s = .un ∨ ∃ p o o', as[i]? = some (.ow p o) ∧ s = .ow p o' ∧ SRep K (Bm H fps) Hs' H' (fps' i) (some (.ref p)) (.ow p o')) → (∀ i j b, fps' i b → fps' j b → i = j) → FinOk K (Bm H fps) Hs' H' fps' Q E d := ⟨_, rfl⟩
    rw [← hQ0] at hd
    have un : ∀ {d : RS} {as' : List SD}, Q0 d as' → ∀ (H' Hs' : Hp) (fps' : Nat → Foot), Ex (Bm H fps) H' → Ex Hs Hs' → Ex Hs' H' → (∀ b, Hs' b ≠ none → Hs b = none → NewT (Bm H fps) b) →
    (∀ i s, as'[i]? = some s → s = .un ∨ ∃ p o o', as[i]? = some (.ow p o) ∧ s = .ow p o' ∧ SRep K (Bm H fps) Hs' H' (fps' i) (some (.ref p)) (.ow p o')) → (∀ i j b, fps' i b → fps' j b → i = j) → FinOk K (Bm H fps) Hs' H' fps' Q E d := fun h => by
      rw [hQ0] at h
      exact h
    obtain ⟨u, J⟩ := body cdv A outer s H E (fun x δ => Q0 (.exn x) (outs as δ)) cy_takes hr
    have hal := len _ _ hd
    refine ⟨u, J.p, ?_⟩
    have R : Rep K (Bm H fps) Hs (L2.start N vs) (startD N.length as) H Hs := by
      refine ⟨?_, hx, bm_ex, Ex.refl _, fun b h1 h2 => absurd h2 h1, fps, fun i s hs => ?_, fun i hi => F1.out i ?_, F1.dj⟩
      · unfold L2.start startD
        rw [List.length_append, List.length_append, List.length_map, List.length_replicate, List.length_replicate, hl]
      · unfold startD at hs
        unfold L2.start
        by_cases hi : i < as.length
        · rw [List.getElem?_append_left hi] at hs
          obtain ⟨y, e, r⟩ := F1.sl i s hs
          exact ⟨y, by rw [List.getElem?_append_left (by rw [List.length_map, hl]; exact hi)]; exact e, r⟩
        · rw [List.getElem?_append_right (by omega)] at hs
          have hs2 := (List.getElem?_eq_some_iff.mp hs)
          obtain ⟨h3, h4⟩ := hs2
          rw [List.length_replicate] at h3
          rw [List.getElem_replicate] at h4
          subst h4
          refine ⟨none, ?_, F1.out i (by omega)⟩
          rw [List.getElem?_append_right (by rw [List.length_map, hl]; omega), List.length_map, hl, List.getElem?_replicate, if_pos h3]
      · unfold startD at hi
        rw [List.length_append] at hi
        omega
    have fin : ∀ {r : RS} {σ' : L2.St} {δ' : Dl} {H' Hs' : Hp}, Rep K (Bm H fps) Hs σ' δ' H' Hs' → (∀ (H' Hs' : Hp) (fps' : Nat → Foot), Ex (Bm H fps) H' → Ex Hs Hs' → Ex Hs' H' → (∀ b, Hs' b ≠ none → Hs b = none → NewT (Bm H fps) b) →
        (∀ i s, (outs as δ')[i]? = some s → s = .un ∨ ∃ p o o', as[i]? = some (.ow p o) ∧ s = .ow p o' ∧ SRep K (Bm H fps) Hs' H' (fps' i) (some (.ref p)) (.ow p o')) → (∀ i j b, fps' i b → fps' j b → i = j) → FinOk K (Bm H fps) Hs' H' fps' Q E r) → ∀ fps', Fps K (Bm H fps) Hs' H' σ' δ' fps' → FinOk K (Bm H fps) Hs' H' fps' Q E r := by
      intro r σ' δ' H' Hs' R' q' fps' F'
      refine q' H' Hs' fps' R'.base R'.frz R'.ex R'.frs (fun i s hs => ?_) F'.dj
      rcases outs_get hs with h | ⟨p, o, o', h1, h2, h3⟩
      · exact .inl h
      · obtain ⟨y, e, r⟩ := F'.sl i _ h3
        cases y with
        | none => exact r.elim
        | some y =>
          obtain ⟨⟨e2, _⟩, _⟩ := id r
          subst e2
          exact .inr ⟨p, o, o', h1, h2, r⟩
    have hidF : ∀ {p : Addr} {o : HO} {σ' : L2.St} {δ' : Dl} {H' Hs' : Hp}, Rep K (upd (Bm H fps) p o) Hs σ' δ' H' Hs' → Bm H fps p = none → Hs p = none → (∀ xs, o ≠ .tup xs) → ∃ fps', Fps K (Bm H fps) Hs' H' σ' δ' fps' ∧ (∀ i, ¬ fps' i p) ∧ H' p = some o ∧ Hs' p = none := by
      intro p o σ' δ' H' Hs' R' hB h0 no
      obtain ⟨fps', F'⟩ := R'.sl
      exact ⟨fps', ⟨fun i s hs => by
        obtain ⟨y, e1, r⟩ := F'.sl i s hs
        exact ⟨y, e1, r.base (ex_upd_B hB)⟩, F'.out, F'.dj⟩, fun i => F'.not_p i, R'.at_p, R'.hs_none h0 no⟩
    haveI xo : XOk (cyOf P w K mg base N qual (defScope st) f cdv A outer s H E (fun x δ => Q0 (.exn x) (outs as δ))).z (Bm H fps) Hs := by
      refine ⟨fun {x σ' δ' H' Hs' d} R' xr q' => ?_⟩
      have q' : Q0 (.exn x) (outs as δ') := q'
      show E x.c d H'
      have R' : Rep K (Bm H fps) Hs σ' δ' H' Hs' := R'
      rcases xr with z | ⟨a, vs', ed, R2, hB, h0, hf⟩
      · obtain ⟨fps', F'⟩ := R'.sl
        exact fin R' (un q') fps' F' d (.inl z)
      · obtain ⟨fps', F2, np, hp, hs0⟩ := hidF R2 hB h0 (fun _ z => nomatch z)
        exact fin R' (un q') fps' F2 d (.inr ⟨a, vs', ed, hs0, hp, hB, np, hf⟩)
    refine J.s R (rp as _ hd) ⟨fun σ' δ' H' Hs' R' e' q' => ?_, fun v d σ' δ' H' Hs' R' e' r' q' => ?_, fun p vs' xs σ' δ' H' Hs' R' hB h0 e' r' q' => ?_, fun p o a σ' δ' H' Hs' R' hB h0 e' r' q' => ?_, fun a L σ' δ' H' Hs' B' R' hh e' q' => ?_, fun _ _ _ _ _ _ z => z.elim, fun _ _ _ _ _ _ z => z.elim⟩
    · obtain ⟨fps', F'⟩ := R'.sl
      exact fin R' (un q') fps' F' .non .non
    · obtain ⟨fps', F'⟩ := R'.sl
      exact fin R' (un q') fps' F' v r'
    · obtain ⟨fps', F2, np, hp, hs0⟩ := hidF R' hB h0 (fun _ z => nomatch z)
      exact fin (R'.weaken (ex_upd_B hB)) (un q') fps' F2 (.ref p) ⟨p, vs', rfl, hs0, hp, hB, np, r'⟩
    · obtain ⟨fps', F2, np, hp, hs0⟩ := hidF R' hB h0 (a.nt r')
      exact fin (R'.weaken (ex_upd_B hB)) (un q') fps' F2 (.ref p) ⟨p, o, rfl, hs0, hp, hB, np, r'⟩
    · obtain ⟨fps', F'⟩ := R'.sl
      have F2 : Fps K (Bm H fps) Hs' H' σ' δ' fps' := ⟨fun i s hs => by
        obtain ⟨y, e1, r⟩ := F'.sl i s hs
        exact ⟨y, e1, r.base hh.ex⟩, F'.out, F'.dj⟩
      refine fin (R'.weaken hh.ex) (un q') fps' F2 (.ref a) ⟨rfl, hh.rg.mono (Ex.refl _) fun b _ u hu => R'.base b u hu, fun b hb => ?_⟩
      obtain ⟨z1, z2⟩ := R'.hid_off hh F' hb
      exact ⟨z1, (hh.nw b hb).1, z2⟩
end
abbrev Ent := Nat ⊕ D
abbrev TDC := Dl → (List Ent → Dl → Prop) → Prop
def EntOk (K : PySem.W.Frag) (Hs : Hp) (σ : L2.St) : V → Ent → Prop
  | v, .inl i => σ[i]? = some (some v)
  | v, .inr d => Dp K Hs v d
inductive Ents (K : PySem.W.Frag) (Hs : Hp) (σ : L2.St) : List V → List Ent → Prop
  | nil : Ents K Hs σ [] []
  | cons {v : V} {vs : List V} {e : Ent} {es : List Ent} : EntOk K Hs σ v e → Ents K Hs σ vs es → Ents K Hs σ (v :: vs) (e :: es)
theorem EntOk.mono {K : PySem.W.Frag} {Hs Hs' : Hp} {σ : L2.St} {v : V} {e : Ent} (h : EntOk K Hs σ v e) (x : Ex Hs Hs') : EntOk K Hs' σ v e := by
  cases e with
  | inl i => exact h
  | inr d => exact dp_mono x h
theorem Ents.len {K : PySem.W.Frag} {Hs : Hp} {σ : L2.St} {vs : List V} {es : List Ent} (h : Ents K Hs σ vs es) : vs.length = es.length := by
  induction h with
  | nil => rfl
  | cons _ _ ih => exact congrArg (· + 1) ih
theorem Ents.get {K : PySem.W.Frag} {Hs : Hp} {σ : L2.St} {vs : List V} {es : List Ent} (h : Ents K Hs σ vs es) : ∀ {i : Nat} {e : Ent}, es[i]? = some e → ∃ v, vs[i]? = some v ∧ EntOk K Hs σ v e := by
  induction h with
  | nil =>
    intro i e h
    simp at h
  | cons r t ih =>
    intro i e h
    cases i with
    | zero =>
      cases (show some _ = some e from h)
      exact ⟨_, rfl, r⟩
    | succ i => exact ih (i := i) h
def SimCl (K : ZX) (u : TA) (t : TDC) : Prop := ∀ {B H0 : Hp} [XOk K B H0] {σ : L2.St} {δ : Dl} {H Hs : Hp} {Q : List Ent → Dl → Prop} {Q' : List V → Hp → Prop}, Rep K B H0 σ δ H Hs → t δ Q →
  (∀ vs es δ' H' Hs', Rep K B H0 σ δ' H' Hs' → Ex Hs Hs' → Ents K Hs' σ vs es → Q es δ' → Q' vs H') → u σ H Q'
structure JC (X : Cy) (es : List Expr) (u : TA) (t : TDC) : Prop where
  p : PA X es u
  s : SimCl X.z u t
section
variable {X : Cy} {e : Expr} {es : List Expr} {pos : Pos} {t : TDE} {ue : TE} {us ur : TA} {tc : TDC}
def cNil : TDC := fun δ Q => Q [] δ
def cCons (t : TDE) (u : TDC) : TDC := fun δ Q => t δ fun d δ1 => u δ1 fun es δ2 => Q (.inr d :: es) δ2
theorem jc_nil : JC X [] tNil cNil := ⟨pa_nil, fun R h k => k _ _ _ _ _ R (Ex.refl _) .nil h⟩
theorem jc_cons (ha : JE X e ue t) (hr : JC X es ur tc) (hs : starEach (e :: es) X.env = (false, eval e X.env) :: starEach es X.env := by rfl) : JC X (e :: es) (tCons ue ur) (cCons t tc) :=
  ⟨pa_cons ha.p hr.p hs, fun R h k => ha.s R h fun v d δ1 H1 Hs1 R1 e1 r1 h1 => hr.s R1 h1 fun vs es δ2 H2 Hs2 R2 e2 r2 h2 => k _ _ _ _ _ R2 (e1.trans e2) (Ents.cons (e := .inr d) (dp_mono e2 r1) r2) h2⟩
def cLendT (i : Nat) (u : TDC) : TDC := fun δ Q => (∃ p o, δ[i]? = some (.ow p o)) ∧ u δ fun es δ2 => Q (.inl i :: es) δ2
theorem jc_own (i : Nat) {x : Str} {p : Pos} (hr : JC X es ur tc) (hN : X.N[i]? = some x := by rfl) (hv : Vis X.env.scope x := by first | exact Or.inl rfl | exact Or.inr (Or.inl rfl) | exact Or.inr (Or.inr rfl)) (hd : (x == ("__debug__" : Str)) = false := by decide)
    (hcd : (x == ("__classdict__" : Str)) = false := by decide) (hs : starEach (.Name x p :: es) X.env = (false, eval (.Name x p) X.env) :: starEach es X.env := by rfl) : JC X (.Name x p :: es) (tCons (tVar i) ur) (cLendT i tc) :=
  ⟨pa_cons (pe_var hN hv hd hcd) hr.p hs, fun {B H0} [hX : XOk _ _ _] {σ δ H Hs Q Q'} R ⟨⟨q, o, ho⟩, h⟩ k => by
    obtain ⟨fps, F⟩ := R.sl
    obtain ⟨y, ey, r⟩ := F.sl i _ ho
    cases y with
    | none => exact r.elim
    | some v => exact ⟨v, ey, hr.s R h fun vs es δ2 H2 Hs2 R2 e2 r2 h2 => k _ _ _ _ _ R2 e2 (Ents.cons (e := .inl i) ey r2) h2⟩⟩
def resD (δ : Dl) : Ent → SD
  | .inl i => δ[i]?.getD .un
  | .inr d => .dt d
def bors : List Ent → List Nat
  | [] => []
  | .inl i :: es => i :: bors es
  | .inr _ :: es => bors es
def back : List Ent → List SD → Dl → Dl
  | .inl i :: es, s :: as, δ => (back es as δ).set i s
  | .inr _ :: es, _ :: as, δ => back es as δ
  | _, _, δ => δ
def dCallF (dsp : DSp) (t : TDC) : TDE := fun δ Q => t δ fun es δ' => (bors es).Nodup ∧ (∀ i ∈ bors es, i < δ'.length) ∧ ∀ Q2 : RS → List SD → Prop, (∀ d as', as'.length = es.length → Q d (back es as' δ') → Q2 (.dt d) as') → dsp (es.map (resD δ')) Q2
def dCallNw (dsp : DSp) (t : TDC) : TDL := fun δ Q => t δ fun es δ' => (bors es).Nodup ∧ (∀ i ∈ bors es, i < δ'.length) ∧ ∀ Q2 : RS → List SD → Prop, (∀ xs as', as'.length = es.length → Q xs (back es as' δ') → Q2 (.new xs) as') → dsp (es.map (resD δ')) Q2
theorem back_len : ∀ (es : List Ent) (as : List SD) (δ : Dl), (back es as δ).length = δ.length
  | [], _, _ => by simp [back]
  | .inl i :: es, [], _ => by simp [back]
  | .inr d :: es, [], _ => by simp [back]
  | .inl i :: es, s :: as, δ => by
    show ((back es as δ).set i s).length = _
    rw [List.length_set, back_len es as δ]
  | .inr d :: es, s :: as, δ => back_len es as δ
theorem mem_bors : ∀ {es : List Ent} {j : Nat}, j ∈ bors es ↔ ∃ k : Nat, es[k]? = some (Sum.inl j : Ent)
  | [], j => by simp [bors]
  | .inl i :: es, j => by
    show j ∈ i :: bors es ↔ _
    rw [List.mem_cons, mem_bors (es := es)]
    constructor
    · rintro (rfl | ⟨k, h⟩)
      · exact ⟨0, rfl⟩
      · exact ⟨k + 1, h⟩
    · rintro ⟨k, h⟩
      cases k with
      | zero =>
        cases (show some (Sum.inl i : Ent) = some (Sum.inl j) from h)
        exact .inl rfl
      | succ k => exact .inr ⟨k, h⟩
  | .inr d :: es, j => by
    show j ∈ bors es ↔ _
    rw [mem_bors (es := es)]
    constructor
    · rintro ⟨k, h⟩
      exact ⟨k + 1, h⟩
    · rintro ⟨k, h⟩
      cases k with
      | zero => cases (show some (Sum.inr d : Ent) = some (Sum.inl j) from h)
      | succ k => exact ⟨k, h⟩
theorem back_out : ∀ {es : List Ent} {as : List SD} {δ : Dl} {j : Nat}, j ∉ bors es → (back es as δ)[j]? = δ[j]?
  | [], _, _, _, _ => by simp [back]
  | .inl i :: es, [], _, _, _ => by simp [back]
  | .inr d :: es, [], _, _, _ => by simp [back]
  | .inl i :: es, s :: as, δ, j, h => by
    have h : j ∉ i :: bors es := h
    rw [List.mem_cons, not_or] at h
    show ((back es as δ).set i s)[j]? = _
    rw [List.getElem?_set_ne (fun z => h.1 z.symm), back_out h.2]
  | .inr d :: es, s :: as, δ, j, h => back_out (es := es) (as := as) h
theorem back_in : ∀ {es : List Ent} {as : List SD} {δ : Dl} {j k : Nat} {s : SD}, (bors es).Nodup → es[k]? = some (.inl j) → as[k]? = some s → j < δ.length → (back es as δ)[j]? = some s
  | [], _, _, _, _, _, _, h, _, _ => by simp at h
  | _ :: _, [], _, _, _, _, _, _, h, _ => by simp at h
  | .inl i :: es, a :: as, δ, j, k, s, nd, h1, h2, hj => by
    show ((back es as δ).set i a)[j]? = _
    cases k with
    | zero =>
      cases (show some (Sum.inl i : Ent) = some (Sum.inl j) from h1)
      cases (show some a = some s from h2)
      rw [List.getElem?_set_self (by rw [back_len]; exact hj)]
    | succ k =>
      have nd : (i :: bors es).Nodup := nd
      rw [List.nodup_cons] at nd
      have hm : j ∈ bors es := mem_bors.mpr ⟨k, h1⟩
      rw [List.getElem?_set_ne (fun (z : i = j) => nd.1 (z ▸ hm))]
      exact back_in nd.2 (k := k) h1 h2 hj
  | .inr d :: es, a :: as, δ, j, k, s, nd, h1, h2, hj => by
    cases k with
    | zero => cases (show some (Sum.inr d : Ent) = some (Sum.inl j) from h1)
    | succ k => exact back_in (es := es) (as := as) nd (k := k) h1 h2 hj
theorem bors_inj {es : List Ent} (nd : (bors es).Nodup) : ∀ {k k' j : Nat}, es[k]? = some (.inl j) → es[k']? = some (.inl j) → k = k' := by
  induction es with
  | nil =>
    intro k k' j h
    simp at h
  | cons x xs ih =>
    intro k k' j h1 h2
    cases x with
    | inl i =>
      have nd : (i :: bors xs).Nodup := nd
      rw [List.nodup_cons] at nd
      cases k with
      | zero =>
        cases k' with
        | zero => rfl
        | succ k' =>
          cases (show some (Sum.inl i : Ent) = some (Sum.inl j) from h1)
          exact absurd (mem_bors.mpr ⟨k', h2⟩) nd.1
      | succ k =>
        cases k' with
        | zero =>
          cases (show some (Sum.inl i : Ent) = some (Sum.inl j) from h2)
          exact absurd (mem_bors.mpr ⟨k, h1⟩) nd.1
        | succ k' => exact congrArg (· + 1) (ih nd.2 (k := k) (k' := k') h1 h2)
    | inr d =>
      cases k with
      | zero => cases (show some (Sum.inr d : Ent) = some (Sum.inl j) from h1)
      | succ k =>
        cases k' with
        | zero => cases (show some (Sum.inr d : Ent) = some (Sum.inl j) from h2)
        | succ k' => exact congrArg (· + 1) (ih nd (k := k) (k' := k') h1 h2)
theorem call_core {K : PySem.W.Frag} {dsp : DSp} {B H0 : Hp} {σ : L2.St} {Q' : VK} {E' : XK} {vs : List V} {es : List Ent} {δ1 : Dl} {H1 Hs1 : Hp} {Qr : RS → Dl → Prop} (R1 : Rep K B H0 σ δ1 H1 Hs1) (r1 : Ents K Hs1 σ vs es) (nd : (bors es).Nodup) (hlt : ∀ i ∈ bors es, i < δ1.length)
    (hd : ∀ Q2 : RS → List SD → Prop, (∀ r as', as'.length = es.length → Qr r (back es as' δ1) → Q2 r as') → dsp (es.map (resD δ1)) Q2)
    (xq : ∀ x d δ' H' Hs', Rep K B H0 σ δ' H' Hs' → XcRep K B H0 σ δ' H' Hs' x d → Qr (.exn x) δ' → E' x.c d H')
    (k : ∀ v r δ' H' Hs', Rep K B H0 σ δ' H' Hs' → Ex Hs1 Hs' → (∀ d, r = .dt d → Dp K Hs' v d) → (∀ xs, r = .new xs → ∃ p vs, v = .ref p ∧ Rep K (upd B p (.lst vs)) H0 σ δ' H' Hs' ∧ B p = none ∧ H0 p = none ∧ DpAll K Hs' vs xs) → (∀ a, r = .obj a → ∃ p o, v = .ref p ∧ Rep K (upd B p o) H0 σ δ' H' Hs' ∧ B p = none ∧ H0 p = none ∧ a.P K Hs' o) →
      (∀ a L, r = .rg a L → v = .ref a ∧ ∃ B', Rep K B' H0 σ δ' H' Hs' ∧ Hid K B B' H0 Hs' L) → (∀ x, r ≠ .exn x) → Qr r δ' → Q' v H') : spOf K dsp vs H1 Q' E' := by
  obtain ⟨fpsC, F⟩ := R1.sl
  let fpsA : Nat → Foot := fun k b => ∃ j, es[k]? = some (.inl j) ∧ fpsC j b
  have own : ∀ j b, fpsC j b → B b = none ∧ Hs1 b = none ∧ H1 b ≠ none := by
    intro j b hb
    by_cases hj : j < δ1.length
    · obtain ⟨x, ex, r⟩ := F.sl j δ1[j] (List.getElem?_eq_getElem hj)
      cases hsd : δ1[j] with
      | un =>
        rw [hsd] at r
        exact absurd hb (r b)
      | dt d =>
        rw [hsd] at r
        cases x with
        | none => exact r.elim
        | some v => exact absurd hb (r.2 b)
      | ow p o =>
        rw [hsd] at r
        cases x with
        | none => exact r.elim
        | some v => exact ⟨(r.2 b hb).2.1, (r.2 b hb).1, (r.2 b hb).2.2⟩
    · exact absurd hb (F.out j (by omega) b)
  have FA : Fps K (Bm H1 fpsA) Hs1 H1 (vs.map some) (es.map (resD δ1)) fpsA := by
    refine ⟨fun i s hi => ?_, fun i hi b ⟨j, hj, _⟩ => ?_, fun i i' b ⟨j, hj, hb⟩ ⟨j', hj', hb'⟩ => ?_⟩
    · rw [List.getElem?_map] at hi
      cases he : es[i]? with
      | none =>
        rw [he] at hi
        cases hi
      | some en =>
        rw [he] at hi
        cases (show some (resD δ1 en) = some s from hi)
        obtain ⟨v, hv, ro⟩ := r1.get he
        refine ⟨some v, by rw [List.getElem?_map, hv]; rfl, ?_⟩
        cases en with
        | inr d =>
          refine ⟨ro, fun b ⟨j, hj, _⟩ => ?_⟩
          rw [he] at hj
          cases hj
        | inl j =>
          have hjl := hlt j (mem_bors.mpr ⟨i, he⟩)
          obtain ⟨x, ex, r⟩ := F.sl j δ1[j] (List.getElem?_eq_getElem hjl)
          have er : resD δ1 (.inl j) = δ1[j] := by
            show (δ1[j]?).getD .un = _
            rw [List.getElem?_eq_getElem hjl]
            rfl
          rw [er]
          have ro' : σ[j]? = some (some v) := ro
          rw [ro'] at ex
          cases ex
          have efp : fpsA i = fpsC j := funext fun b => propext ⟨fun ⟨j', hj', hb⟩ => by
            rw [he] at hj'
            cases hj'
            exact hb, fun hb => ⟨j, he, hb⟩⟩
          cases hsd : δ1[j] with
          | un =>
            rw [hsd] at r
            rw [efp]
            exact r
          | dt d =>
            rw [hsd] at r
            rw [efp]
            exact r
          | ow p o =>
            rw [hsd] at r
            refine ⟨by rw [efp]; exact r.1, fun b hb => ⟨?_, bm_in hb, ?_⟩⟩
            · rw [efp] at hb
              exact (r.2 b hb).1
            · rw [efp] at hb
              exact (r.2 b hb).2.2
    · rw [List.length_map] at hi
      rw [List.getElem?_eq_none hi] at hj
      cases hj
    · have := F.dj j j' b hb hb'
      subst this
      exact bors_inj nd hj hj'
  refine ⟨Hs1, es.map (resD δ1), fpsA, by rw [List.length_map]; exact r1.len, R1.ex, FA, ?_⟩
  have key : ∀ d as', as'.length = es.length → Qr d (back es as' δ1) → ∀ (H' Hs' : Hp) (fps' : Nat → Foot), Ex (Bm H1 fpsA) H' → Ex Hs1 Hs' → Ex Hs' H' → (∀ b, Hs' b ≠ none → Hs1 b = none → NewT (Bm H1 fpsA) b) →
    (∀ i s, as'[i]? = some s → s = .un ∨ ∃ p o o', (es.map (resD δ1))[i]? = some (.ow p o) ∧ s = .ow p o' ∧ SRep K (Bm H1 fpsA) Hs' H' (fps' i) (some (.ref p)) (.ow p o')) → (∀ i j b, fps' i b → fps' j b → i = j) → FinOk K (Bm H1 fpsA) Hs' H' fps' Q' E' d := by
    intro d as' hlen q H' Hs' fps' x1 x2 x3 x4 x5 x6
    have notA : ∀ j b, j ∉ bors es → fpsC j b → ∀ k, ¬ fpsA k b := fun j b hj hb k ⟨j', hj', hb'⟩ => by
      have := F.dj j j' b hb hb'
      subst this
      exact hj (mem_bors.mpr ⟨k, hj'⟩)
    have FF : Fps K B Hs' H' σ (back es as' δ1) (fun j b => (∃ k, es[k]? = some (.inl j) ∧ (∃ s, as'[k]? = some s ∧ isOw s = true) ∧ fps' k b) ∨ (j ∉ bors es ∧ fpsC j b)) := by
      refine ⟨fun j s hj => ?_, fun j hj b hb => ?_, fun j j' b h1 h2 => ?_⟩
      · have hjl : j < δ1.length := by
          have := lt_of_get hj
          rw [back_len] at this
          exact this
        by_cases hm : j ∈ bors es
        · obtain ⟨k, hk⟩ := mem_bors.mp hm
          have hkl : k < as'.length := by
            rw [hlen]
            exact lt_of_get hk
          have hb := back_in nd hk (List.getElem?_eq_getElem hkl) hjl (as := as')
          rw [hb] at hj
          cases hj
          obtain ⟨x, ex, rx⟩ := F.sl j δ1[j] (List.getElem?_eq_getElem hjl)
          refine ⟨x, ex, ?_⟩
          rcases x5 k as'[k] (List.getElem?_eq_getElem hkl) with hu | ⟨p, o, o', hA, hs', S⟩
          · have nofp : ∀ b, ¬ ((∃ k, es[k]? = some (.inl j) ∧ (∃ s, as'[k]? = some s ∧ isOw s = true) ∧ fps' k b) ∨ (j ∉ bors es ∧ fpsC j b)) := by
              rintro b (⟨k', hk', ⟨s, hs, hso⟩, _⟩ | ⟨z, _⟩)
              · have := bors_inj nd hk hk'
                subst this
                rw [List.getElem?_eq_getElem hkl] at hs
                cases hs
                rw [hu] at hso
                cases hso
              · exact z hm
            rw [hu]
            exact nofp
          · have efp : (fun b => (∃ k, es[k]? = some (.inl j) ∧ (∃ s, as'[k]? = some s ∧ isOw s = true) ∧ fps' k b) ∨ (j ∉ bors es ∧ fpsC j b)) = fps' k := funext fun b => propext ⟨by
              rintro (⟨k', hk', _, hb⟩ | ⟨z, _⟩)
              · have := bors_inj nd hk hk'
                subst this
                exact hb
              · exact absurd hm z, fun hb => .inl ⟨k, hk, ⟨as'[k], List.getElem?_eq_getElem hkl, by rw [hs']; rfl⟩, hb⟩⟩
            rw [efp, hs']
            have hA' : some (resD δ1 (.inl j)) = some (SD.ow p o) := by
              rw [← hA, List.getElem?_map, hk]
              rfl
            have er : resD δ1 (.inl j) = δ1[j] := by
              show (δ1[j]?).getD .un = _
              rw [List.getElem?_eq_getElem hjl]
              rfl
            rw [er] at hA'
            have hd1 : δ1[j] = SD.ow p o := Option.some.inj hA'
            rw [hd1] at rx
            cases x with
            | none => exact rx.elim
            | some y =>
              obtain ⟨⟨ey, _⟩, _⟩ := rx
              subst ey
              refine ⟨S.1, fun b hb => ⟨(S.2 b hb).1, ?_, (S.2 b hb).2.2⟩⟩
              have h4 := (S.2 b hb).2.1
              by_cases h5 : ∃ k, fpsA k b
              · obtain ⟨k, j, _, hb⟩ := h5
                exact (own j b hb).1
              · rw [bm_out (fun k z => h5 ⟨k, z⟩)] at h4
                exact R1.base.none h4
        · rw [back_out hm] at hj
          obtain ⟨x, ex, rx⟩ := F.sl j s hj
          refine ⟨x, ex, ?_⟩
          have efp : (fun b => (∃ k, es[k]? = some (.inl j) ∧ (∃ s, as'[k]? = some s ∧ isOw s = true) ∧ fps' k b) ∨ (j ∉ bors es ∧ fpsC j b)) = fpsC j := funext fun b => propext ⟨by
            rintro (⟨k', hk', _⟩ | ⟨_, z⟩)
            · exact absurd (mem_bors.mpr ⟨k', hk'⟩) hm
            · exact z, fun hb => .inr ⟨hm, hb⟩⟩
          rw [efp]
          refine rx.mono x2 (fun b o hb hu => x1 b o ?_) fun b hb h1 hnt h2 _ => ?_
          · rw [bm_out (notA j b hm hb)]
            exact hu
          · cases h3 : Hs' b with
            | none => rfl
            | some o =>
              have h4 := x4 b (by rw [h3]; exact fun z => nomatch z) h2
              unfold NewT at h4
              rw [bm_out (notA j b hm hb)] at h4
              rcases h4 with h4 | ⟨xs, h4⟩
              · exact absurd h4 h1
              · exact absurd h4 (hnt xs)
      · rw [back_len] at hj
        rcases hb with ⟨k, hk, _⟩ | ⟨_, hb⟩
        · have := hlt j (mem_bors.mpr ⟨k, hk⟩)
          omega
        · exact F.out j hj b hb
      · have cross : ∀ k j j', es[k]? = some (.inl j) → (∃ s, as'[k]? = some s ∧ isOw s = true) → fps' k b → j' ∉ bors es → fpsC j' b → False := by
          intro k j j' hk ⟨s, hs, hso⟩ hb hm hb'
          rcases x5 k s hs with hu | ⟨p, o, o', hA, hs', S⟩
          · rw [hu] at hso
            cases hso
          · have h4 := (S.2 b hb).2.1
            rw [bm_out (notA j' b hm hb')] at h4
            exact (own j' b hb').2.2 h4
        rcases h1 with ⟨k1, hk1, ho1, hb1⟩ | ⟨hm1, hb1⟩
        · rcases h2 with ⟨k2, hk2, ho2, hb2⟩ | ⟨hm2, hb2⟩
          · have := x6 k1 k2 b hb1 hb2
            subst this
            rw [hk1] at hk2
            cases hk2
            rfl
          · exact (cross k1 j j' hk1 ho1 hb1 hm2 hb2).elim
        · rcases h2 with ⟨k2, hk2, ho2, hb2⟩ | ⟨hm2, hb2⟩
          · exact (cross k2 j' j hk2 ho2 hb2 hm1 hb1).elim
          · exact F.dj j j' b hb1 hb2
    have base : Ex B H' := fun b o hb => by
      refine x1 b o ?_
      have hno : ∀ i, ¬ fpsA i b := fun i ⟨j, _, hb'⟩ => by
        rw [(own j b hb').1] at hb
        cases hb
      rw [bm_out hno]
      exact R1.base b o hb
    have frs : ∀ b, Hs' b ≠ none → H0 b = none → NewT B b := fun b h1 h2 => by
      cases h3 : Hs1 b with
      | some o => exact R1.frs b (by rw [h3]; exact fun z => nomatch z) h2
      | none =>
        have h4 := x4 b h1 h3
        by_cases h5 : ∃ k, fpsA k b
        · obtain ⟨k, j, _, hb⟩ := h5
          exact .inl (own j b hb).1
        · unfold NewT at h4
          rw [bm_out (fun k z => h5 ⟨k, z⟩)] at h4
          exact NewT.back R1.base h4
    have RR : Rep K B H0 σ (back es as' δ1) H' Hs' := ⟨by rw [back_len]; exact R1.len, x3, base, R1.frz.trans x2, frs, _, FF⟩
    have bx : ∀ p, Bm H1 fpsA p = none → B p = none := fun p hbp => by
      by_cases h5 : ∃ k, fpsA k p
      · obtain ⟨k, j, _, hb⟩ := h5
        exact (own j p hb).1
      · rw [bm_out (fun k z => h5 ⟨k, z⟩)] at hbp
        exact R1.base.none hbp
    have offF : ∀ p, Bm H1 fpsA p = none → (∀ i, ¬ fps' i p) → ∀ j, ¬ ((∃ k, es[k]? = some (.inl j) ∧ (∃ s, as'[k]? = some s ∧ isOw s = true) ∧ fps' k p) ∨ (j ∉ bors es ∧ fpsC j p)) := fun p hbp hnp i hi => by
      rcases hi with ⟨k, hk, _, hb⟩ | ⟨hm, hb⟩
      · exact hnp k hb
      · rw [bm_out (notA i p hm hb)] at hbp
        exact (own i p hb).2.2 hbp
    cases d with
    | dt d => exact fun v r => k v (.dt d) _ H' Hs' RR x2 (fun d' ed => by cases ed; exact r) (fun _ z => nomatch z) (fun _ z => nomatch z) (fun _ _ z => nomatch z) (fun _ z => nomatch z) q
    | new xs => exact fun v ⟨p, ws, ev, hs0, hp, hbp, hnp, ha⟩ => k v (.new xs) _ H' Hs' RR x2 (fun _ z => nomatch z) (fun xs' ed => by cases ed; exact ⟨p, ws, ev, RR.reveal FF (offF p hbp hnp) hp hs0, bx p hbp, RR.frz.none hs0, ha⟩) (fun _ z => nomatch z) (fun _ _ z => nomatch z) (fun _ z => nomatch z) q
    | obj a => exact fun v ⟨p, ws, ev, hs0, hp, hbp, hnp, ha⟩ => k v (.obj a) _ H' Hs' RR x2 (fun _ z => nomatch z) (fun _ z => nomatch z) (fun xs' ed => by cases ed; exact ⟨p, ws, ev, RR.reveal FF (offF p hbp hnp) hp hs0, bx p hbp, RR.frz.none hs0, ha⟩) (fun _ _ z => nomatch z) (fun _ z => nomatch z) q
    | rg a L => exact fun v ⟨ev, hr, hL⟩ => k v (.rg a L) _ H' Hs' RR x2 (fun _ z => nomatch z) (fun _ z => nomatch z) (fun _ z => nomatch z) (fun a' L' ed => by
        cases ed
        exact ⟨ev, RR.revealR FF hr fun b hb => ⟨(hL b hb).1, bx b (hL b hb).2.1, offF b (hL b hb).2.1 (hL b hb).2.2⟩⟩) (fun _ z => nomatch z) q
    | exn x =>
      intro d hxc
      refine xq x d _ H' Hs' RR ?_ q
      rcases hxc with z | ⟨a, vs', ed, hs0, hp, hbp, hnp, hf⟩
      · exact .inl z
      · exact .inr ⟨a, vs', ed, RR.reveal FF (offF a hbp hnp) hp hs0, bx a hbp, RR.frz.none hs0, hf⟩
  exact hd _ key
theorem pass00 {X : Cx} : Passes (L2.CX X.prog X.w) X E0 := fun _ _ _ _ _ _ _ ⟨_, _, _, _, _, _, _, _, _, _, _, _, h⟩ => h.elim
theorem sim_callF {K : ZX} {dsp : DSp} (hs : SimCl K us tc) : SimE K (tCall (spOf K dsp) [] E0 us) (dCallF dsp tc) := by
  intro B H0 hX σ δ H Hs Q Q' R h k
  refine hs R h fun vs es δ1 H1 Hs1 R1 e1 r1 ⟨nd, hlt, hd⟩ => ?_
  show spOf K dsp (vs ++ []) H1 Q' E0
  rw [List.append_nil]
  refine call_core (Qr := fun r δ' => ∃ d, r = .dt d ∧ Q d δ') R1 r1 nd hlt (fun Q2 h2 => hd Q2 fun d as' hl q => h2 _ _ hl ⟨d, rfl, q⟩) (fun _ _ _ _ _ _ _ ⟨_, z, _⟩ => nomatch z) fun v r δ' H' Hs' R' x rd _ _ _ _ ⟨d, ed, q⟩ => k v d δ' H' Hs' R' (e1.trans x) (rd d ed) q
theorem sim_callNw {K : ZX} {dsp : DSp} (hs : SimCl K us tc) : SimN K (tCall (spOf K dsp) [] E0 us) (dCallNw dsp tc) := by
  intro B H0 hX σ δ H Hs Q Q' R h k
  refine hs R h fun vs es δ1 H1 Hs1 R1 e1 r1 ⟨nd, hlt, hd⟩ => ?_
  show spOf K dsp (vs ++ []) H1 Q' E0
  rw [List.append_nil]
  refine call_core (Qr := fun r δ' => ∃ d, r = .new d ∧ Q d δ') R1 r1 nd hlt (fun Q2 h2 => hd Q2 fun d as' hl q => h2 _ _ hl ⟨d, rfl, q⟩) (fun _ _ _ _ _ _ _ ⟨_, z, _⟩ => nomatch z) fun v r δ' H' Hs' R' x _ rn _ _ _ ⟨d, ed, q⟩ => ?_
  obtain ⟨p, ws, ev, R2, hB, h0, ha⟩ := rn d ed
  subst ev
  exact k p ws d δ' H' Hs' R2 hB h0 (e1.trans x) ha q
def dCallX (xk : Exn → Dl → Prop) (dsp : DSp) (t : TDC) : TDE := fun δ Q => t δ fun es δ' => (bors es).Nodup ∧ (∀ i ∈ bors es, i < δ'.length) ∧ ∀ Q2 : RS → List SD → Prop, (∀ d as', as'.length = es.length → Q d (back es as' δ') → Q2 (.dt d) as') → (∀ x as', as'.length = es.length → xk x (back es as' δ') → Q2 (.exn x) as') → dsp (es.map (resD δ')) Q2
theorem sim_callX {K : ZX} {dsp : DSp} (hs : SimCl K us tc) : SimE K (tCallS (spOf K dsp) (WE K.W) us) (dCallX K.xk dsp tc) := by
  intro B H0 hX σ δ H Hs Q Q' R h k
  refine hs R h fun vs es δ1 H1 Hs1 R1 e1 r1 ⟨nd, hlt, hd⟩ => ?_
  refine call_core (Qr := fun r δ' => (∃ d, r = .dt d ∧ Q d δ') ∨ ∃ x, r = .exn x ∧ K.xk x δ') R1 r1 nd hlt (fun Q2 h2 => hd Q2 (fun d as' hl q => h2 _ _ hl (.inl ⟨d, rfl, q⟩)) fun x as' hl q => h2 _ _ hl (.inr ⟨x, rfl, q⟩)) (fun x d δ' H' Hs' R' xr q => ?_) fun v r δ' H' Hs' R' x rd _ _ _ nx q => ?_
  · rcases q with ⟨_, z, _⟩ | ⟨y, z, q⟩
    · cases z
    · cases z
      exact hX.out R' xr q
  · rcases q with ⟨d, ed, q⟩ | ⟨y, z, q⟩
    · exact k v d δ' H' Hs' R' (e1.trans x) (rd d ed) q
    · exact absurd z (nx y)
section
variable {x : Str} {p : Pos} {f : Addr} {fd : FuncData} {ps : List Str} {n : Nat} {dsp : DSp}
theorem je_call {K' : PySem.W.Frag} (F : FnOk X.prog X.w X.K X.mg X.base (L2.CX X.prog X.w) n f fd ps (spOf K' dsp)) (hr : Room n X.A) (hm : X.mg x = some (.ref f)) (hk : PySem.W.keepIn X.K (.ref f) = true) (hb : Binds X.K fd ps []) (ha : JC X (e :: es) us tc) (hK : X.K = K' := by rfl) (hg : Gl X x := by rfl) (hdb : (x == ("__debug__" : Str)) = false := by decide)
    (he : starEach (e :: es) X.env = (false, eval e X.env) :: starEach es X.env := by rfl) (hpl : (backTo pos (starEach es X.env)).any (·.1) = false := by rfl) :
    JE X (.Call (.Name x p) (e :: es) [] pos) (tCall (spOf K' dsp) [] E0 us) (dCallF dsp tc) := by
  subst hK
  exact ⟨pe_call F hr hg hm hk hb .nil pass00 ha.p hdb he hpl, sim_callF ha.s⟩
theorem jn_call {K' : PySem.W.Frag} (F : FnOk X.prog X.w X.K X.mg X.base (L2.CX X.prog X.w) n f fd ps (spOf K' dsp)) (hr : Room n X.A) (hm : X.mg x = some (.ref f)) (hk : PySem.W.keepIn X.K (.ref f) = true) (hb : Binds X.K fd ps []) (ha : JC X (e :: es) us tc) (hK : X.K = K' := by rfl) (hg : Gl X x := by rfl) (hdb : (x == ("__debug__" : Str)) = false := by decide)
    (he : starEach (e :: es) X.env = (false, eval e X.env) :: starEach es X.env := by rfl) (hpl : (backTo pos (starEach es X.env)).any (·.1) = false := by rfl) :
    JN X (.Call (.Name x p) (e :: es) [] pos) (tCall (spOf K' dsp) [] E0 us) (dCallNw dsp tc) := by
  subst hK
  exact ⟨pe_call F hr hg hm hk hb .nil pass00 ha.p hdb he hpl, sim_callNw ha.s⟩
theorem je_callX {K' : PySem.W.Frag} {xk : Exn → Dl → Prop} (tk : Takes X.toCx X.W) (F : FnOk X.prog X.w X.K X.mg X.base (L2.CX X.prog X.w) n f fd ps (spOf K' dsp)) (hr : Room n X.A) (hm : X.mg x = some (.ref f)) (hk : PySem.W.keepIn X.K (.ref f) = true) (hb : Binds X.K fd ps []) (ha : JC X (e :: es) us tc) (hK : X.K = K' := by rfl) (hxk : X.xk = xk := by rfl) (hg : Gl X x := by rfl) (hdb : (x == ("__debug__" : Str)) = false := by decide)
    (he : starEach (e :: es) X.env = (false, eval e X.env) :: starEach es X.env := by rfl) (hpl : (backTo pos (starEach es X.env)).any (·.1) = false := by rfl) :
    JE X (.Call (.Name x p) (e :: es) [] pos) (tCallS (spOf K' dsp) (WE X.W) us) (dCallX xk dsp tc) := by
  subst hK hxk
  exact ⟨pe_callS F hr hg hm hk hb (fun σ => passAt tk σ) ha.p hdb he hpl, sim_callX ha.s⟩
end
end
end EL
namespace EL
open PySem PySem.Spec PyProof.Rows L2
theorem huD {k : Nat} {A : Around} (hr : Room k A) : A.units + 200 < cLine := by
  have := hr.un
  omega
section
variable {δ : Dl} {d d1 d2 : D} {Q : D → Dl → Prop} {Qd : D → Prop} {Qb : Bool → Dl → Prop} {Ql : List D → Dl → Prop} {t ta tb : TDE} {tl : TDL} {c c' : TDB} {s s1 s2 : TDS} {De : DEnds} {i : Nat} {rd : D → D → (D → Prop) → Prop}
theorem st_var (h : δ[i]? = some (.dt d)) (q : Q d δ) : dVar i δ Q := ⟨d, h, q⟩
theorem st_frz {p : Addr} {xs : List D} (h : δ[i]? = some (.ow p (.lst xs))) (q : Q (.list xs) (δ.set i (.dt (.list xs)))) : dFrz i δ Q := ⟨p, xs, h, q⟩
theorem st_c (q : Q d δ) : dC d δ Q := q
theorem st_nil (q : Ql [] δ) : dNil δ Ql := q
theorem st_cons (q : t δ fun d δ1 => tl δ1 fun ds δ2 => Ql (d :: ds) δ2) : dCons t tl δ Ql := q
theorem st_tup (q : tl δ fun ds δ' => ds.length ≤ 10000 ∧ Q (.tuple ds) δ') : dTup tl δ Q := q
theorem st_new (q : tl δ fun xs δ' => Q (.list xs) δ') : dN tl δ Q := q
theorem st_lst (q : tl δ fun ds δ' => ds.length ≤ 10000 ∧ Ql ds δ') : dLst tl δ Ql := q
theorem st_op (q : ta δ fun x δ1 => tb δ1 fun y δ2 => rd x y fun d => Q d δ2) : dOp rd ta tb δ Q := q
theorem st_test (q : t δ fun d δ' => ∃ c, d = .bool c ∧ Qb c δ') : dTest t δ Qb := q
theorem st_tru (q : t δ fun d δ' => truD d fun c => Qb c δ') : dTru t δ Qb := q
theorem st_isN (q : t δ fun d δ' => Q (.bool (isNoneD d)) δ') : dIsN t δ Q := q
theorem st_notN (q : t δ fun d δ' => Q (.bool (!isNoneD d)) δ') : dNotN t δ Q := q
theorem st_and (q : c δ fun b δ1 => if b = true then c' δ1 Qb else Qb false δ1) : dAnd c c' δ Qb := q
theorem st_or (q : c δ fun b δ1 => if b = true then Qb true δ1 else c' δ1 Qb) : dOr c c' δ Qb := q
theorem st_not (q : c δ fun b δ1 => Qb (!b) δ1) : dNot c δ Qb := q
theorem st_andV (q : ta δ fun d δ1 => ∃ c, d = .bool c ∧ if c = true then tb δ1 Q else Q (.bool false) δ1) : dAndV ta tb δ Q := q
theorem st_orV (q : ta δ fun d δ1 => ∃ c, d = .bool c ∧ if c = true then Q (.bool true) δ1 else tb δ1 Q) : dOrV ta tb δ Q := q
theorem st_notV (q : t δ fun d δ1 => ∃ c, d = .bool c ∧ Q (.bool (!c)) δ1) : dNotV t δ Q := q
theorem st_ifE (q : c δ fun b δ1 => if b = true then ta δ1 Q else tb δ1 Q) : dIf c ta tb δ Q := q
theorem st_chain {rd' : D → D → (D → Prop) → Prop} {tc : TDE} (q : ta δ fun x δ1 => tb δ1 fun y δ2 => rd x y fun z => ∃ k, z = .bool k ∧ (if k = true then tc δ2 fun w δ3 => rd' y w fun d => Q d δ3 else Q (.bool false) δ2)) : dChain rd rd' ta tb tc δ Q := q
theorem st_call {rc : List D → (D → Prop) → Prop} (q : tl δ fun ds δ' => rc ds fun d => Q d δ') : dCall rc tl δ Q := q
theorem st_callN {rc : List D → (List D → Prop) → Prop} (q : tl δ fun ds δ' => rc ds fun xs => Ql xs δ') : dCallN rc tl δ Ql := q
theorem st_isi {T : String} (q : t δ fun d δ' => Q (.bool (isT T d)) δ') : dIsi T t δ Q := q
theorem st_isi2 {T T' : String} (q : t δ fun d δ' => Q (.bool (isT T d || isT T' d)) δ') : dIsi2 T T' t δ Q := q
theorem st_slN {lo hi : TDO} (q : t δ fun d δ1 => lo δ1 fun l δ2 => hi δ2 fun u δ3 => ∃ xs, d = .list xs ∧ Ql (cutA xs l u) δ3) : dSlN t lo hi δ Ql := q
theorem st_sl {lo hi : TDO} (q : t δ fun d δ1 => lo δ1 fun l δ2 => hi δ2 fun u δ3 => slD d l u fun d' => Q d' δ3) : dSl t lo hi δ Q := q
theorem st_nopart {Qo : Option Int → Dl → Prop} (q : Qo none δ) : dNoPart δ Qo := q
theorem st_part {Qo : Option Int → Dl → Prop} (q : t δ fun d δ' => ∃ i, d = .int i ∧ Qo (some i) δ') : dPart t δ Qo := q
theorem st_rev (q : t δ fun d δ1 => ∃ xs, d = .list xs ∧ Ql xs.reverse δ1) : dRev t δ Ql := q
theorem st_lenO {p : Addr} {xs : List D} (h : δ[i]? = some (.ow p (.lst xs))) (q : Q (.int xs.length) δ) : dLenO i δ Q := ⟨p, xs, h, q⟩
theorem st_seq (q : s1 { De with nx := s2 De } δ) : sSeq s1 s2 De δ := q
theorem st_next (q : De.nx δ) : sNext De δ := q
theorem st_brk (q : De.bk δ) : sBreak De δ := q
theorem st_cont (q : De.ct δ) : sCont De δ := q
theorem st_drop (q : t δ fun _ δ' => De.nx δ') : sDrop t De δ := q
theorem st_ret (q : t δ fun d δ' => De.rt (.dt d) δ') : sRet t De δ := q
theorem st_retNew (q : tl δ fun xs δ' => De.rt (.new xs) δ') : sRetNew tl De δ := q
theorem st_retOwn {p : Addr} {xs : List D} (h : δ[i]? = some (.ow p (.lst xs))) (q : De.rt (.new xs) (δ.set i .un)) : sRetOwn i De δ := ⟨p, xs, h, q⟩
theorem st_retN (q : De.rt (.dt .none) δ) : sRetN De δ := q
theorem st_if (q : c δ fun b δ' => if b = true then s1 De δ' else s2 De δ') : sIf c s1 s2 De δ := q
theorem st_asg {g : TDG} (q : t δ fun d δ' => g d δ' De.nx) : sAsg t g De δ := q
theorem st_name {Qx : Dl → Prop} (q : Qx (δ.set i (.dt d))) : dgName i d δ Qx := q
theorem st_own (q : tl δ fun xs δ' => i < δ'.length ∧ ∀ p, De.nx (δ'.set i (.ow p (.lst xs)))) : sOwn tl i De δ := q
theorem st_sfrz {p : Addr} {xs : List D} (h : δ[i]? = some (.ow p (.lst xs))) (q : s De (δ.set i (.dt (.list xs)))) : sFrz i s De δ := ⟨p, xs, h, q⟩
theorem st_aug {a : Int} {f : Int → Int → Int} (h : δ[i]? = some (.dt (.int a))) (q : t δ fun d δ' => ∃ b, d = .int b ∧ De.nx (δ'.set i (.dt (.int (f a b))))) : sAug i t f De δ := ⟨a, h, q⟩
theorem st_app {p : Addr} {xs : List D} (h : δ[i]? = some (.ow p (.lst xs))) (q : t δ fun d δ' => ∃ p xs, δ'[i]? = some (.ow p (.lst xs)) ∧ xs.length ≤ 100000 ∧ De.nx (δ'.set i (.ow p (.lst (xs ++ [d]))))) : sApp i t De δ := ⟨⟨p, xs, h⟩, q⟩
theorem st_for {ti : TDI} {g : TDG} (q : ti δ fun xs δ' => sForGo g s De xs δ') : sFor ti g s De δ := q
theorem st_iLst (q : t δ fun d δ' => ∃ xs, d = .list xs ∧ Ql xs δ') : iLst t δ Ql := q
theorem st_iTup (q : t δ fun d δ' => ∃ xs, d = .tuple xs ∧ Ql xs δ') : iTupD t δ Ql := q
theorem st_iRg1 (q : tl δ fun ds δ' => ∃ n : Int, ds = [.int n] ∧ n ≤ 1000000 ∧ -1000000 ≤ n ∧ Ql (rngD 0 n.toNat) δ') : iRg1 tl δ Ql := q
theorem st_iRg2 (q : tl δ fun ds δ' => ∃ m n : Int, ds = [.int m, .int n] ∧ (n ≤ 1000000 ∧ -1000000 ≤ n ∧ m ≤ 1000000 ∧ -1000000 ≤ m) ∧ Ql (rngD m (n - m).toNat) δ') : iRg2 tl δ Ql := q
theorem st_yes (q : Qb true δ) : dYes δ Qb := q
theorem st_gTup {n : Nat} {gs : TDGs} {xs : List D} {Qx : Dl → Prop} (h : xs.length = n) (q : gs xs δ Qx) : dgTup n gs (.tuple xs) δ Qx := ⟨xs, rfl, h, q⟩
theorem st_gCons {g : TDG} {gs : TDGs} {ds : List D} {Qx : Dl → Prop} (q : g d δ fun δ' => gs ds δ' Qx) : dgCons g gs (d :: ds) δ Qx := ⟨d, ds, rfl, q⟩
theorem st_gNil {Qx : Dl → Prop} (q : Qx δ) : dgNil [] δ Qx := ⟨rfl, q⟩
theorem st_cNil {Qe : List Ent → Dl → Prop} (q : Qe [] δ) : cNil δ Qe := q
theorem st_cCons {u : TDC} {Qe : List Ent → Dl → Prop} (q : t δ fun d δ1 => u δ1 fun es δ2 => Qe (.inr d :: es) δ2) : cCons t u δ Qe := q
theorem st_cLend {u : TDC} {Qe : List Ent → Dl → Prop} {p : Addr} {o : OD} (h : δ[i]? = some (.ow p o)) (q : u δ fun es δ2 => Qe (.inl i :: es) δ2) : cLendT i u δ Qe := ⟨⟨p, o, h⟩, q⟩
theorem st_callF {dsp : DSp} {u : TDC} (q : u δ fun es δ' => (bors es).Nodup ∧ (∀ i ∈ bors es, i < δ'.length) ∧ ∀ Q2 : RS → List SD → Prop, (∀ d as', as'.length = es.length → Q d (back es as' δ') → Q2 (.dt d) as') → dsp (es.map (resD δ')) Q2) : dCallF dsp u δ Q := q
theorem st_callNw {dsp : DSp} {u : TDC} (q : u δ fun es δ' => (bors es).Nodup ∧ (∀ i ∈ bors es, i < δ'.length) ∧ ∀ Q2 : RS → List SD → Prop, (∀ xs as', as'.length = es.length → Ql xs (back es as' δ') → Q2 (.new xs) as') → dsp (es.map (resD δ')) Q2) : dCallNw dsp u δ Ql := q
theorem st_add {a b : Int} (q : Qd (.int (a + b))) : addD (.int a) (.int b) Qd := q
theorem st_sub {a b : Int} (q : Qd (.int (a - b))) : subD (.int a) (.int b) Qd := q
theorem smallI {i : Int} (h : -(18446744073709551616) < i ∧ i < 18446744073709551616) : SmallI i := h
theorem st_mulR {a b : Int} (h : -(18446744073709551616) < b ∧ b < 18446744073709551616) (q : Qd (.int (a * b))) : mulD (.int a) (.int b) Qd := ⟨.inr h, q⟩
theorem st_mulL {a b : Int} (h : -(18446744073709551616) < a ∧ a < 18446744073709551616) (q : Qd (.int (a * b))) : mulD (.int a) (.int b) Qd := ⟨.inl h, q⟩
theorem st_mod {a b : Int} (h : 0 < b) (q : Qd (.int (a % b))) : modD (.int a) (.int b) Qd := ⟨h, q⟩
theorem st_fdiv {a b : Int} (h : 0 < b ∧ b < 1073741824) (q : Qd (.int (a / b))) : fdivD (.int a) (.int b) Qd := ⟨h, q⟩
theorem st_pow {a b : Int} (h : (0 ≤ b ∧ b ≤ 1000) ∧ -(18446744073709551616) < a ∧ a < 18446744073709551616) (q : Qd (.int (a ^ b.toNat))) : powD (.int a) (.int b) Qd := ⟨h, q⟩
theorem d0 (b : D) : min (PyData.depth (.int 0)) b.depth ≤ 150 := by simp [PyData.depth]
theorem st_eqI {a b : Int} (q : Qd (.bool (decide (a = b)))) : eqD (.int a) (.int b) Qd := ⟨by simp [PyData.depth], by
  have e : PyData.eqv (.int a) (.int b) = decide (a = b) := by
    simp only [PyData.eqv]
    by_cases h : a = b
    · subst h
      simp
    · rw [decide_eq_false h]
      exact beq_eq_false_iff_ne.mpr h
  rw [e]
  exact q⟩
theorem st_neI {a b : Int} (q : Qd (.bool (!decide (a = b)))) : neD (.int a) (.int b) Qd := ⟨by simp [PyData.depth], by
  have e : PyData.eqv (.int a) (.int b) = decide (a = b) := by
    simp only [PyData.eqv]
    by_cases h : a = b
    · subst h
      simp
    · rw [decide_eq_false h]
      exact beq_eq_false_iff_ne.mpr h
  rw [e]
  exact q⟩
theorem st_eqS {a b : Str} (q : Qd (.bool (decide (a = b)))) : eqD (.str a) (.str b) Qd := ⟨by simp [PyData.depth], by
  have e : PyData.eqv (.str a) (.str b) = decide (a = b) := by
    simp only [PyData.eqv]
    by_cases h : a = b
    · subst h
      simp
    · rw [decide_eq_false h]
      exact beq_eq_false_iff_ne.mpr h
  rw [e]
  exact q⟩
theorem st_eqB {a b : Bool} (q : Qd (.bool (a == b))) : eqD (.bool a) (.bool b) Qd := ⟨by simp [PyData.depth], by
  simp only [PyData.eqv]
  exact q⟩
theorem st_neB {a b : Bool} (q : Qd (.bool (!(a == b)))) : neD (.bool a) (.bool b) Qd := ⟨by simp [PyData.depth], by
  simp only [PyData.eqv]
  exact q⟩
theorem st_ordI {g : D → D → Bool} {a b : Int} (q : Qd (.bool (g (.int a) (.int b)))) : ordD g (.int a) (.int b) Qd := ⟨by simp [PySem.W.alike], rfl, by simp [PyData.depth], q⟩
theorem st_ltI {a b : Int} (q : Qd (.bool (decide (a < b)))) : ltD (.int a) (.int b) Qd := st_ordI (by rw [PySem.W.dataLt_int]; exact q)
theorem st_gtI {a b : Int} (q : Qd (.bool (decide (b < a)))) : gtD (.int a) (.int b) Qd := st_ordI (by rw [PySem.W.dataLt_int]; exact q)
theorem st_leI {a b : Int} (q : Qd (.bool (decide (a ≤ b)))) : leD (.int a) (.int b) Qd := st_ordI (by
  rw [PySem.W.dataLt_int]
  have e : (!decide (b < a)) = decide (a ≤ b) := by
    by_cases h : b < a
    · simp [h]
    · simp [h]; omega
  rw [e]
  exact q)
theorem st_geI {a b : Int} (q : Qd (.bool (decide (b ≤ a)))) : geD (.int a) (.int b) Qd := st_ordI (by
  rw [PySem.W.dataLt_int]
  have e : (!decide (a < b)) = decide (b ≤ a) := by
    by_cases h : a < b
    · simp [h]
    · simp [h]; omega
  rw [e]
  exact q)
theorem st_ixL {xs : List D} {j : Int} (h : atI xs j = some d) (q : Qd d) : ixD (.list xs) (.int j) Qd := ⟨d, h, q⟩
theorem st_ixT {xs : List D} {j : Int} (h : atI xs j = some d) (q : Qd d) : ixD (.tuple xs) (.int j) Qd := ⟨d, h, q⟩
theorem st_lenL {xs : List D} (q : Qd (.int xs.length)) : lenD [.list xs] Qd := q
theorem st_lenT {xs : List D} (q : Qd (.int xs.length)) : lenD [.tuple xs] Qd := q
theorem st_int {a : Int} (q : Qd (.int a)) : toIntD [.int a] Qd := q
theorem st_intB {a : Bool} (q : Qd (.int (if a then 1 else 0))) : toIntD [.bool a] Qd := q
theorem ite_dec {p A B : Prop} [Decidable p] (h1 : p → A) (h2 : ¬ p → B) : if decide p = true then A else B := by
  by_cases h : p
  · rw [if_pos (by simp [h])]
    exact h1 h
  · rw [if_neg (by simp [h])]
    exact h2 h
theorem ite_b {b : Bool} {A B : Prop} (h1 : b = true → A) (h2 : b = false → B) : if b = true then A else B := by
  cases b with
  | true => exact h1 rfl
  | false => exact h2 rfl
theorem ite_T {A B : Prop} (h : A) : if true = true then A else B := h
theorem ite_F {A B : Prop} (h : B) : if false = true then A else B := by
  rw [if_neg Bool.false_ne_true]
  exact h
end
theorem for_inv {g : TDG} {s : TDS} {De : DEnds} {xs : List D} {δ : Dl} (I : Nat → Dl → Prop) (h0 : I 0 δ)
    (step : ∀ (i : Nat) (x : D) (δ' : Dl) (N : Dl → Prop), xs[i]? = some x → I i δ' → (∀ δ'', I (i + 1) δ'' → N δ'') → g x δ' fun δ1 => s { De with nx := N, ct := N, bk := De.nx } δ1)
    (done : ∀ δ', I xs.length δ' → De.nx δ') : sForGo g s De xs δ := by
  have key : ∀ (n i : Nat) (δ' : Dl), n + i = xs.length → I i δ' → sForGo g s De (xs.drop i) δ' := by
    intro n
    induction n with
    | zero =>
      intro i δ' hn hi
      have e : i = xs.length := by omega
      subst e
      rw [List.drop_length]
      exact done δ' hi
    | succ n ih =>
      intro i δ' hn hi
      have hl : i < xs.length := by omega
      rw [List.drop_eq_getElem_cons hl]
      exact step i xs[i] δ' _ (List.getElem?_eq_getElem hl) hi fun δ'' h => ih (i + 1) δ'' (by omega) h
  have := key xs.length 0 δ (by omega) h0
  rw [List.drop_zero] at this
  exact this
theorem rngD_len (lo : Int) (n : Nat) : (rngD lo n).length = n := by
  unfold rngD
  rw [List.length_map, List.length_range]
theorem rngD_get {lo : Int} {n i : Nat} {x : D} (h : (rngD lo n)[i]? = some x) : i < n ∧ x = .int (lo + (i : Int)) := by
  have hl := lt_of_get h
  rw [rngD_len] at hl
  unfold rngD at h
  rw [List.getElem?_map, List.getElem?_range hl] at h
  cases h
  exact ⟨hl, rfl⟩
theorem for_rng {g : TDG} {s : TDS} {De : DEnds} {lo : Int} {n : Nat} {δ : Dl} (I : Nat → Dl → Prop) (h0 : I 0 δ)
    (step : ∀ (i : Nat) (δ' : Dl) (N : Dl → Prop), i < n → I i δ' → (∀ δ'', I (i + 1) δ'' → N δ'') → g (.int (lo + (i : Int))) δ' fun δ1 => s { De with nx := N, ct := N, bk := De.nx } δ1)
    (done : ∀ δ', I n δ' → De.nx δ') : sForGo g s De (rngD lo n) δ :=
  for_inv I h0 (fun i x δ' N hx hi hN => by
    obtain ⟨h1, rfl⟩ := rngD_get hx
    exact step i δ' N h1 hi hN) fun δ' h => done δ' (by rw [rngD_len] at h; exact h)
theorem lc_inv {g : TDG} {tt : TDB} {te : TDE} {vs : List Nat} {Q : List D → Dl → Prop} {xs : List D} {δ : Dl} (I : Nat → List D → Dl → Prop) (h0 : I 0 [] δ)
    (step : ∀ (i : Nat) (x : D) (acc : List D) (δ' : Dl) (N : List D → Dl → Prop), xs[i]? = some x → I i acc δ' → (∀ acc' δ'', I (i + 1) acc' δ'' → N acc' δ'') →
      g x (wipeD δ' vs) fun δ1 => tt δ1 fun b δ2 => if b = true then te δ2 fun y δ3 => acc.length ≤ 100000 ∧ N (acc ++ [y]) (mixD δ3 δ' vs) else N acc (mixD δ2 δ' vs))
    (done : ∀ acc δ', I xs.length acc δ' → Q acc δ') : dLcGo g tt te vs Q xs [] δ := by
  have key : ∀ (n i : Nat) (acc : List D) (δ' : Dl), n + i = xs.length → I i acc δ' → dLcGo g tt te vs Q (xs.drop i) acc δ' := by
    intro n
    induction n with
    | zero =>
      intro i acc δ' hn hi
      have e : i = xs.length := by omega
      subst e
      rw [List.drop_length]
      exact done acc δ' hi
    | succ n ih =>
      intro i acc δ' hn hi
      have hl : i < xs.length := by omega
      rw [List.drop_eq_getElem_cons hl]
      exact step i xs[i] acc δ' _ (List.getElem?_eq_getElem hl) hi fun acc' δ'' h => ih (i + 1) acc' δ'' (by omega) h
  have := key xs.length 0 [] δ (by omega) h0
  rw [List.drop_zero] at this
  exact this
theorem while_inv {c : TDB} {s : TDS} {De : DEnds} {δ : Dl} (W : Nat → Dl → Prop) (m : Nat) (h0 : W m δ)
    (step : ∀ m δ', W m δ' → c δ' fun b δ1 => if b = true then s { De with nx := fun δ' => ∃ m', m' < m ∧ W m' δ', ct := fun δ' => ∃ m', m' < m ∧ W m' δ', bk := De.nx } δ1 else De.nx δ1) : sWhile c s De δ := ⟨W, ⟨m, h0⟩, step⟩
theorem fn_never {P : Program} {w : World} {K : PySem.W.Frag} {mg : Str → Option Value} {base : Heap} {k : Nat} {f : Addr} {fd : FuncData} {ps : List Str} {dsp : DSp} (no : ∀ as Q, ¬ dsp as Q) : FnOk P w K mg base (L2.CX P w) k f fd ps (spOf K dsp) :=
  ⟨fun vs H Q E ⟨_, _, _, _, _, _, h⟩ => absurd h (no _ _), fun A outer s H args us vs Q E _ _ _ _ ⟨_, _, _, _, _, _, h⟩ => absurd h (no _ _)⟩
def spLaw : DSp := fun as Q => ∃ ns : List Int, as = [.dt (.list (ns.map .int))] ∧ ns.length ≤ 63 ∧ Q (.dt (.bool true)) [.un]
theorem law_ask {K : PySem.W.Frag} {H : Hp} {a : Addr} {ns : List Int} (hl : ns.length ≤ 63) (hS : SqL K H a (ns.map V.int)) : spOf K spLaw [.ref a] H (fun v _ => v = .bl true) fun _ _ _ => False := by
  refine ⟨H, [.dt (.list (ns.map .int))], fun _ _ => False, rfl, Ex.refl _, ⟨fun i s hs => ?_, fun _ _ _ h => h, fun _ _ _ h => h.elim⟩, ns, rfl, hl, fun v H' Hs' fps' _ _ _ _ _ _ r => ?_⟩
  · cases i with
    | zero =>
      cases (show some _ = some s from hs)
      refine ⟨some (.ref a), rfl, .lst hS ?_, fun b h => h⟩
      have : ∀ l : List Int, DpAll K H (l.map V.int) (l.map PyData.int) := by
        intro l
        induction l with
        | nil => exact .nil
        | cons x l ih => exact .cons (.int x) ih
      exact this ns
    | succ i => simp at hs
  · cases r
    rfl
end EL
namespace EL
open PySem PySem.Spec PyProof.Rows L2
section
variable {X : Cy} {e a b : Expr} {es : List Expr} {pos : Pos} {t ta tb : TDE} {ue ua ub : TE} {us : TA} {pins : List (Addr × Obj)} {σ : L2.St} {H : Hp} {s : Shared}
def dIxO (i : Nat) (t : TDE) : TDE := fun δ Q => (∃ p xs, δ[i]? = some (.ow p (.lst xs))) ∧ t δ fun d δ' => ∃ p xs j z, δ'[i]? = some (.ow p (.lst xs)) ∧ d = .int j ∧ atI xs j = some z ∧ Q z δ'
theorem je_ixO {x : Str} {p1 : Pos} (i : Nat) (hb : JE X b ub tb) (hN : X.N[i]? = some x := by rfl) (hv : Vis X.env.scope x := by first | exact Or.inl rfl | exact Or.inr (Or.inl rfl) | exact Or.inr (Or.inr rfl)) (hd : (x == ("__debug__" : Str)) = false := by decide)
    (hcd : (x == ("__classdict__" : Str)) = false := by decide) (hs : PlainIx b := by exact fun _ _ => rfl) : JE X (.Subscript (.Name x p1) b pos) (tOp (rIxU X.K) (tVar i) ub) (dIxO i tb) := by
  refine ⟨pe_ix ix_seq (pe_var hN hv hd hcd) hb.p hs, fun R ⟨⟨p, xs, ex⟩, q⟩ k => ?_⟩
  obtain ⟨vs, e1, hp, ha⟩ := own_at R ex
  refine ⟨_, e1, hb.s R q fun v d δ' H' Hs' R1 x r ⟨p', ys, j, z, ey, ed, hz, q1⟩ => ?_⟩
  subst ed
  cases r
  obtain ⟨ws, e2, hp2, ha2⟩ := own_at R1 ey
  rw [e1] at e2
  cases e2
  obtain ⟨w, hw, rw'⟩ := dpAll_at ha2 hz
  exact .inl ⟨p, ws, j, w, rfl, rfl, .inl (.inl hp2), hw, k _ _ _ _ _ R1 x rw' q1⟩
theorem st_ixO {δ : Dl} {i : Nat} {Q : D → Dl → Prop} {p : Addr} {xs : List D} (h : δ[i]? = some (.ow p (.lst xs))) (q : t δ fun d δ' => ∃ p xs j z, δ'[i]? = some (.ow p (.lst xs)) ∧ d = .int j ∧ atI xs j = some z ∧ Q z δ') : dIxO i t δ Q := ⟨⟨p, xs, h⟩, q⟩
def dNeg (t : TDE) : TDE := fun δ Q => t δ fun d δ' => ∃ i, d = .int i ∧ Q (.int (-i)) δ'
theorem je_neg (h : JE X e ue t) : JE X (.UnaryOp .USub e pos) (tUn (rU fun i => .int (-i)) ue) (dNeg t) := ⟨pe_un un_neg h.p, fun R q k => h.s R q fun v d δ' H' Hs' R1 x r ⟨i, ed, q1⟩ => by
  subst ed
  cases r
  exact ⟨i, rfl, k _ _ _ _ _ R1 x (.int _) q1⟩⟩
theorem st_neg {δ : Dl} {Q : D → Dl → Prop} (q : t δ fun d δ' => ∃ i, d = .int i ∧ Q (.int (-i)) δ') : dNeg t δ Q := q
def rSortK (K : PySem.W.Frag) : List V → List V → Hp → VK → Prop := fun vs zs H Q => zs = [.bl true] ∧ rSortD K vs H Q
theorem cr_sortK (hu : X.A.units + 200 < cLine) : CallRK X (.builtin "sorted") [Str.ofString "reverse"] (rSortK X.K) := by
  intro pins s σ H vs zs us ws Q I r rz h
  obtain ⟨rfl, a, xs, ds, rfl, hs, ha, h1, h2, h3, q⟩ := h
  obtain ⟨w1, rfl, e1⟩ := vals1 rz
  obtain rfl : w1 = Value.bool true := e1
  obtain ⟨its, rv, hl, hz⟩ := I.list hs
  rw [Vals.ref1 r]
  obtain ⟨as, hr⟩ := Dp.readsAll I _ _ its ha rv
  obtain ⟨e1, e2⟩ := each_zip rv hr
  have hm : (xs.zip ds).map Prod.snd = ds := List.map_snd_zip (by rw [dpAll_len ha]; exact Nat.le_refl _)
  refine PySem.W.sorted_rev_data (enc := Prod.snd) hl.isList e1 e2 (by rw [hm]; exact h1) (by rw [hm]; exact h2) (by rw [List.length_zip]; omega) (fun b hb => ?_) fun out ho he => sort_rule I hz (dpAll_len ha) q he
  have := h3 b.2 (List.of_mem_zip (a := b.1) (b := b.2) hb).2
  omega
theorem jn_sortRev {p pk : Pos} {j : Nat} {pc : Pos} {u : TDL} (hu : X.A.units + 200 < cLine) (hg : Gl X "sorted") (hm : X.mg "sorted" = none) (ha : JA X (e :: es) us u)
    (he : backTo pos (starEach (e :: es) X.env) = (false, eval e X.env) :: backTo pos (starEach es X.env) := by rfl) (hpl : (backTo pos (starEach (e :: es) X.env)).any (·.1) = false := by rfl)
    (hall : (backToKw pos (keywordEach [⟨some "reverse", .Constant (.bool true) j pc, pk⟩] X.env)).all (·.1.isSome) = true := by rfl) (hnone : (backToKw pos (keywordEach [⟨some "reverse", .Constant (.bool true) j pc, pk⟩] X.env)).any (·.1.isNone) = false := by rfl) (hks : (backToKw pos (keywordEach [⟨some "reverse", .Constant (.bool true) j pc, pk⟩] X.env)).filterMap (·.1) = [Str.ofString "reverse"] := by rfl) :
    JN X (.Call (.Name "sorted" p) (e :: es) [⟨some "reverse", .Constant (.bool true) j pc, pk⟩] pos) (tCKw (rSortK X.K) us (tCons (tC (.bl true)) tNil)) (dCallN sortD u) := ⟨pe_callBK (cr_sortK hu) hg hm (by decide +kernel) ha.p (pk_cons pe_bl pk_nil) (by decide) (by decide) he hpl hall hnone hks, fun R q k => ha.s R q fun vs ds δ1 H1 Hs1 R1 e1 r1 h1 => by
    refine ⟨rfl, ?_⟩
    exact sim_sort (Q' := _) R1.ex r1 h1 fun p ws xs hp r q => k _ _ _ _ _ _ (R1.hide hp) (R1.base.none hp) (R1.frz.none (R1.ex.none hp)) e1 r q⟩
end
end EL
namespace EL
open PySem PySem.Spec PyProof.Rows L2
theorem ex_bool {b : Bool} {Q : Bool → Prop} (q : Q b) : ∃ c, PyData.bool b = .bool c ∧ Q c := ⟨b, rfl, q⟩
theorem ex_int {b : Int} {Q : Int → Prop} (q : Q b) : ∃ c, PyData.int b = .int c ∧ Q c := ⟨b, rfl, q⟩
theorem ex_list {b : List D} {Q : List D → Prop} (q : Q b) : ∃ c, PyData.list b = .list c ∧ Q c := ⟨b, rfl, q⟩
theorem ex_tuple {b : List D} {Q : List D → Prop} (q : Q b) : ∃ c, PyData.tuple b = .tuple c ∧ Q c := ⟨b, rfl, q⟩
theorem and_ok {ds : List D} {Q : Prop} (h : Nat.ble ds.length 10000 = true) (q : Q) : ds.length ≤ 10000 ∧ Q := ⟨Nat.le_of_ble_eq_true h, q⟩
theorem own_ok {i : Nat} {δ : Dl} {Q : Addr → Prop} (h : Nat.ble (i + 1) δ.length = true) (q : ∀ p, Q p) : i < δ.length ∧ ∀ p, Q p := ⟨Nat.le_of_ble_eq_true h, q⟩
theorem call_ok {es : List Ent} {n : Nat} {P : Prop} (h1 : (bors es).Nodup) (h2 : ∀ i ∈ bors es, i < n) (q : P) : (bors es).Nodup ∧ (∀ i ∈ bors es, i < n) ∧ P := ⟨h1, h2, q⟩
theorem boolsD_ok {g : List Bool → Bool} {xs : List D} {Q : D → Prop} (bs : List Bool) (h : xs = bs.map .bool) (q : Q (.bool (g bs))) : boolsD g [.list xs] Q := ⟨bs, by rw [h], q⟩
theorem st_listL {xs : List D} {Q : List D → Prop} (q : Q xs) : listD [.list xs] Q := q
theorem st_listT {xs : List D} {Q : List D → Prop} (q : Q xs) : listD [.tuple xs] Q := q
theorem st_tupleL {xs : List D} {Q : D → Prop} (q : Q (.tuple xs)) : tupleD [.list xs] Q := q
theorem st_int2 {g : Int → Int → Int} {i j : Int} {Q : D → Prop} (q : Q (.int (g i j))) : int2D g [.int i, .int j] Q := q
theorem st_slL {xs : List D} {l u : Option Int} {Q : D → Prop} (q : Q (.list (cutA xs l u))) : slD (.list xs) l u Q := q
theorem st_slT {xs : List D} {l u : Option Int} {Q : D → Prop} (q : Q (.tuple (cutA xs l u))) : slD (.tuple xs) l u Q := q
theorem st_slS {z : Str} {l u : Option Int} {Q : D → Prop} (h : z.length ≤ 100000) (q : Q (.str (cutS z l u))) : slD (.str z) l u Q := ⟨h, q⟩
theorem st_addL {xs ys : List D} {Q : D → Prop} (h : xs.length + ys.length ≤ 100000) (q : Q (.list (xs ++ ys))) : addD (.list xs) (.list ys) Q := ⟨h, q⟩
theorem st_iRgOk {n : Int} {Q : List D → Prop} (h1 : n ≤ 1000000) (h2 : -1000000 ≤ n) (q : Q (rngD 0 n.toNat)) : ∃ m : Int, [PyData.int n] = [.int m] ∧ m ≤ 1000000 ∧ -1000000 ≤ m ∧ Q (rngD 0 m.toNat) := ⟨n, rfl, h1, h2, q⟩
theorem cut_take {α : Type} (xs : List α) (k : Nat) : cutA xs none (some (k : Int)) = xs.take k := by
  unfold cutA
  rw [HT.sIx_none, HT.sIx_nat, List.drop_zero, Nat.sub_zero]
  by_cases h : k ≤ xs.length
  · rw [Nat.min_eq_left h]
  · rw [Nat.min_eq_right (by omega), List.take_length, List.take_of_length_le (by omega)]
theorem cut_drop {α : Type} (xs : List α) (k : Nat) : cutA xs (some (k : Int)) none = xs.drop k := by
  unfold cutA
  rw [HT.sIx_none, HT.sIx_nat]
  by_cases h : k ≤ xs.length
  · rw [Nat.min_eq_left h, List.take_of_length_le (by rw [List.length_drop]; exact Nat.le_refl _)]
  · rw [Nat.min_eq_right (by omega), List.drop_length, List.drop_eq_nil_of_le (by omega), List.take_nil]
theorem cut_takeI {α : Type} (xs : List α) {k : Int} (h : 0 ≤ k) : cutA xs none (some k) = xs.take k.toNat := by
  have e : k = ((k.toNat : Nat) : Int) := by omega
  rw [e, cut_take]
  rfl
theorem cut_dropI {α : Type} (xs : List α) {k : Int} (h : 0 ≤ k) : cutA xs (some k) none = xs.drop k.toNat := by
  have e : k = ((k.toNat : Nat) : Int) := by omega
  rw [e, cut_drop]
  rfl
theorem lc_pure {i : Nat} {te : TDE} {Q : List D → Dl → Prop} {xs : List D} {δ : Dl} (f : D → D) (s : SD) (hs : δ[i]? = some s) (hl : xs.length ≤ 100000)
    (step : ∀ x ∈ xs, ∀ N : D → Dl → Prop, N (f x) (δ.set i (.dt x)) → te (δ.set i (.dt x)) N) (done : Q (xs.map f) δ) : dLcGo (dgName i) dYes te [i] Q xs [] δ := by
  refine lc_inv (fun k acc δ' => δ' = δ ∧ acc = (xs.take k).map f) ⟨rfl, rfl⟩ (fun k x acc δ' N hx ⟨e1, e2⟩ hN => ?_) fun acc δ' ⟨e1, e2⟩ => ?_
  · subst e1 e2
    have hm : x ∈ xs := List.mem_of_getElem? hx
    have hk := lt_of_get hx
    show te ((δ'.set i .un).set i (.dt x)) _
    rw [List.set_set]
    refine step x hm _ ⟨?_, hN _ _ ⟨?_, ?_⟩⟩
    · rw [List.length_map, List.length_take]
      omega
    · show ((δ'.set i (.dt x)).set i (δ'[i]?.getD .un)) = δ'
      rw [List.set_set, hs]
      exact set_self hs
    · rw [List.take_add_one, hx, List.map_append]
      rfl
  · subst e1 e2
    rw [List.take_length]
    exact done
theorem lc_filter {i : Nat} {tt : TDB} {te : TDE} {Q : List D → Dl → Prop} {xs : List D} {δ : Dl} (p : D → Bool) (f : D → D) (s : SD) (hs : δ[i]? = some s) (hl : xs.length ≤ 100000)
    (test : ∀ x ∈ xs, ∀ N : Bool → Dl → Prop, N (p x) (δ.set i (.dt x)) → tt (δ.set i (.dt x)) N)
    (step : ∀ x ∈ xs, p x = true → ∀ N : D → Dl → Prop, N (f x) (δ.set i (.dt x)) → te (δ.set i (.dt x)) N) (done : Q ((xs.filter p).map f) δ) : dLcGo (dgName i) tt te [i] Q xs [] δ := by
  refine lc_inv (fun k acc δ' => δ' = δ ∧ acc = ((xs.take k).filter p).map f) ⟨rfl, rfl⟩ (fun k x acc δ' N hx ⟨e1, e2⟩ hN => ?_) fun acc δ' ⟨e1, e2⟩ => ?_
  · subst e1 e2
    have hm : x ∈ xs := List.mem_of_getElem? hx
    have hk := lt_of_get hx
    show tt ((δ'.set i .un).set i (.dt x)) _
    rw [List.set_set]
    have back1 : ((δ'.set i (.dt x)).set i (δ'[i]?.getD .un)) = δ' := by
      rw [List.set_set, hs]
      exact set_self hs
    refine test x hm _ ?_
    cases hp : p x with
    | true =>
      rw [if_pos rfl]
      refine step x hm hp _ ⟨?_, hN _ _ ⟨back1, ?_⟩⟩
      · rw [List.length_map]
        have := List.length_filter_le p (xs.take k)
        rw [List.length_take] at this
        omega
      · rw [List.take_add_one, hx, List.filter_append, List.map_append]
        show _ = _ ++ (List.filter p [x]).map f
        rw [List.filter_cons, if_pos hp]
        rfl
    | false =>
      rw [if_neg Bool.false_ne_true]
      refine hN _ _ ⟨back1, ?_⟩
      rw [List.take_add_one, hx, List.filter_append, List.map_append]
      show _ = _ ++ (List.filter p [x]).map f
      rw [List.filter_cons, if_neg (by rw [hp]; exact Bool.false_ne_true)]
      show _ = _ ++ []
      rw [List.append_nil]
  · subst e1 e2
    rw [List.take_length]
    exact done
theorem st_lc {ti : TDI} {g : TDG} {tt : TDB} {te : TDE} {vs : List Nat} {δ : Dl} {Q : List D → Dl → Prop} (h : ∀ v ∈ vs, ∃ s, δ[v]? = some s ∧ isOw s = false) (q : ti δ fun xs δ' => (∀ v ∈ vs, ∃ s, δ'[v]? = some s ∧ isOw s = false) ∧ dLcGo g tt te vs Q xs [] δ') : dLc ti g tt te vs δ Q := ⟨h, q⟩
theorem st_popInts {δ : Dl} {i : Nat} {p : Addr} {ns : List Int} {z : Int} {Q : D → Dl → Prop} (h : δ[i]? = some (.ow p (.lst ((ns ++ [z]).map PyData.int)))) (q : Q (.int z) (δ.set i (.ow p (.lst (ns.map PyData.int))))) : dPop i δ Q :=
  ⟨p, ns.map .int, .int z, by rw [h, List.map_append]; rfl, q⟩
theorem snoc_of {α : Type} {l : List α} (h : ¬ ((l.length : Int) = 0)) : ∃ l' z, l = l' ++ [z] := by
  have h0 : l ≠ [] := fun z => h (by rw [z]; rfl)
  exact ⟨l.dropLast, l.getLast h0, (List.dropLast_concat_getLast h0).symm⟩
theorem own1 {δ : Dl} {i : Nat} {s : SD} (h : δ[i]? = some s) (o : isOw s = false) : ∀ v ∈ [i], ∃ s, δ[v]? = some s ∧ isOw s = false := fun v hv => by
  rcases List.mem_cons.mp hv with rfl | hv
  · exact ⟨s, h, o⟩
  · simp at hv
theorem st_setO {δ : Dl} {De : DEnds} {i : Nat} {tj t : TDE} (q : t δ fun d δ1 => (∃ p xs, δ1[i]? = some (.ow p (.lst xs))) ∧ tj δ1 fun dj δ2 => ∃ p xs j k, δ2[i]? = some (.ow p (.lst xs)) ∧ dj = .int j ∧ ixN xs.length j = some k ∧ De.nx (δ2.set i (.ow p (.lst (xs.set k d))))) : sSetO i tj t De δ := q
theorem ixN_nat {n k : Nat} (h : k < n) : ixN n (k : Int) = some k := by
  unfold ixN
  simp [h]
theorem st_ifJ {c : TDB} {s1 s2 : TDS} {De : DEnds} {δ : Dl} (I : Dl → Prop) (h : ∀ N : Dl → Prop, (∀ δ', I δ' → N δ') → sIf c s1 s2 { De with nx := N } δ) (k : ∀ δ', I δ' → De.nx δ') : sIf c s1 s2 De δ := h De.nx k
theorem sort_ok {xs : List D} {Q : List D → Prop} (h1 : PySem.W.AllAlike xs) (h2 : PySem.W.Sortable xs) (h3 : ∀ d ∈ xs, d.depth ≤ 150) (q : ∀ ys, ys.Perm xs → Q ys) : sortD [.list xs] Q := ⟨xs, rfl, h1, h2, h3, q⟩
end EL
namespace EL
open PySem PySem.Spec PyProof.Rows L2
section
variable {X : Cy} {e a b : Expr} {es : List Expr} {pos : Pos} {t ta tb : TDE} {ue ua ub : TE} {us : TA}
def seqOf : D → Option (List D)
  | .list xs => some xs
  | .tuple xs => some xs
  | _ => none
def inG (neg : Bool) (x y : D) (Q : D → Prop) : Prop := ∃ xs, seqOf y = some xs ∧ x.depth ≤ 150 ∧ Q (.bool (neg ^^ xs.any fun z => PyData.eqv z x))
abbrev inD : D → D → (D → Prop) → Prop := inG false
abbrev notInD : D → D → (D → Prop) → Prop := inG true
def rInP (K : PySem.W.Frag) (neg : Bool) : R2 := fun x y H Q => ∃ d e xs, Dp K H x d ∧ Dp K H y e ∧ seqOf e = some xs ∧ d.depth ≤ 150 ∧ Q (.bl (neg ^^ xs.any fun z => PyData.eqv z d)) H
theorem op_inP (hu : X.A.units + 200 < cLine) : OpR X (compareOp .In) (rInP X.K false) := by
  intro pins s σ H x y v u Q I rx ry h
  obtain ⟨d, e, xs, hd, he, hs, hm, q⟩ := h
  obtain ⟨as, r1⟩ := Dp.reads I d x v hd rx
  obtain ⟨bs, r2⟩ := Dp.reads I e y u he ry
  have pe := dp_plain he
  cases e with
  | list ys =>
    cases hs
    simp only [PyData.plain] at pe
    exact SeqAt.in_list_data r2 r1 pe (dp_plain hd) (by omega) ⟨.bl _, H, I, rfl, by rw [Bool.false_xor] at q; exact q⟩
  | tuple ys =>
    cases hs
    simp only [PyData.plain] at pe
    exact SeqAt.in_tuple_data r2 r1 pe (dp_plain hd) (by omega) ⟨.bl _, H, I, rfl, by rw [Bool.false_xor] at q; exact q⟩
  | _ => cases hs
theorem op_notInP (hu : X.A.units + 200 < cLine) : OpR X (compareOp .NotIn) (rInP X.K true) := by
  intro pins s σ H x y v u Q I rx ry h
  obtain ⟨d, e, xs, hd, he, hs, hm, q⟩ := h
  obtain ⟨as, r1⟩ := Dp.reads I d x v hd rx
  obtain ⟨bs, r2⟩ := Dp.reads I e y u he ry
  have pe := dp_plain he
  cases e with
  | list ys =>
    cases hs
    simp only [PyData.plain] at pe
    exact SeqAt.notIn_list_data r2 r1 pe (dp_plain hd) (by omega) ⟨.bl _, H, I, rfl, by rw [Bool.true_xor] at q; exact q⟩
  | tuple ys =>
    cases hs
    simp only [PyData.plain] at pe
    exact SeqAt.notIn_tuple_data r2 r1 pe (dp_plain hd) (by omega) ⟨.bl _, H, I, rfl, by rw [Bool.true_xor] at q; exact q⟩
  | _ => cases hs
theorem do_in (hu : X.A.units + 200 < cLine) : OpD X (compareOp .In) (rInP X.K false) inD := ⟨op_inP hu, fun e rx ry ⟨xs, h1, h2, q⟩ k => ⟨_, _, xs, dp_mono e rx, dp_mono e ry, h1, h2, k _ _ _ _ (PExt.refl e) (.bl _) q⟩⟩
theorem do_notIn (hu : X.A.units + 200 < cLine) : OpD X (compareOp .NotIn) (rInP X.K true) notInD := ⟨op_notInP hu, fun e rx ry ⟨xs, h1, h2, q⟩ k => ⟨_, _, xs, dp_mono e rx, dp_mono e ry, h1, h2, k _ _ _ _ (PExt.refl e) (.bl _) q⟩⟩
def dInO (neg : Bool) (i : Nat) (t : TDE) : TDE := fun δ Q => t δ fun d δ' => ∃ p xs, δ'[i]? = some (.ow p (.lst xs)) ∧ d.depth ≤ 150 ∧ Q (.bool (neg ^^ xs.any fun z => PyData.eqv z d)) δ'
theorem sim_inO {K : ZX} {neg : Bool} {i : Nat} (ha : SimE K ua ta) : SimE K (tOp (rInP K neg) ua (tVar i)) (dInO neg i ta) := fun R q k => ha R q fun v d δ' H' Hs' R1 x r ⟨p, xs, ex, hd, q1⟩ => by
  obtain ⟨vs, e1, hp, hx⟩ := own_at R1 ex
  exact ⟨_, e1, d, .list xs, xs, dp_mono R1.ex r, .lst (.inl (.inl hp)) (dpAll_mono R1.ex hx), rfl, hd, k _ _ _ _ _ R1 x (.bl _) q1⟩
theorem jt_inO {x : Str} {p1 : Pos} (hu : X.A.units + 200 < cLine) (i : Nat) (ha : JE X a ua ta) (hN : X.N[i]? = some x := by rfl) (hv : Vis X.env.scope x := by first | exact Or.inl rfl | exact Or.inr (Or.inl rfl) | exact Or.inr (Or.inr rfl)) (hd : (x == ("__debug__" : Str)) = false := by decide)
    (hcd : (x == ("__classdict__" : Str)) = false := by decide) (hm : behindInMarks .In (.Name x p1) = false := by with_unfolding_all rfl) : JT X (.Compare a [.In] [.Name x p1] pos) (tTest (tOp (rInP X.K false) ua (tVar i))) (dTest (dInO false i ta)) := ⟨pt_cmpR (op_inP hu) ha.p (pe_var hN hv hd hcd) hm, sim_test (sim_inO ha.s)⟩
theorem jt_notInO {x : Str} {p1 : Pos} (hu : X.A.units + 200 < cLine) (i : Nat) (ha : JE X a ua ta) (hN : X.N[i]? = some x := by rfl) (hv : Vis X.env.scope x := by first | exact Or.inl rfl | exact Or.inr (Or.inl rfl) | exact Or.inr (Or.inr rfl)) (hd : (x == ("__debug__" : Str)) = false := by decide)
    (hcd : (x == ("__classdict__" : Str)) = false := by decide) (hm : behindInMarks .NotIn (.Name x p1) = false := by with_unfolding_all rfl) : JT X (.Compare a [.NotIn] [.Name x p1] pos) (tTest (tOp (rInP X.K true) ua (tVar i))) (dTest (dInO true i ta)) := ⟨pt_cmpR (op_notInP hu) ha.p (pe_var hN hv hd hcd) hm, sim_test (sim_inO ha.s)⟩
def dTruO (i : Nat) : TDB := fun δ Q => ∃ p xs, δ[i]? = some (.ow p (.lst xs)) ∧ Q (!xs.isEmpty) δ
theorem jt_truO {x : Str} {p1 : Pos} (i : Nat) (hN : X.N[i]? = some x := by rfl) (hv : Vis X.env.scope x := by first | exact Or.inl rfl | exact Or.inr (Or.inl rfl) | exact Or.inr (Or.inr rfl)) (hd : (x == ("__debug__" : Str)) = false := by decide)
    (hcd : (x == ("__classdict__" : Str)) = false := by decide) (he : ∀ whole, isTrue (.Name x p1) X.env whole = (do let v ← whole; standAt p1; holding [v] (truthy v)) := by intro _; rfl) : JT X (.Name x p1) (fun σ H Q => tVar i σ H fun x H' => ∃ k, TruV X.K x H' k ∧ Q k H') (dTruO i) := by
  refine ⟨pt_truth (pe_var hN hv hd hcd) he, fun R ⟨p, xs, ex, q⟩ k => ?_⟩
  obtain ⟨vs, e1, hp, hx⟩ := own_at R ex
  refine ⟨_, e1, _, .inl ⟨vs, .inl (.inl hp), rfl⟩, ?_⟩
  have e : (!vs.isEmpty) = !xs.isEmpty := by
    have := dpAll_len hx
    cases vs <;> cases xs <;> simp at this <;> rfl
  rw [e]
  exact k _ _ _ _ R (Ex.refl _) q
def sRevO (i : Nat) : TDS := fun De δ => ∃ p xs, δ[i]? = some (.ow p (.lst xs)) ∧ De.nx (δ.set i (.ow p (.lst xs.reverse)))
theorem js_revO {x : Str} {p1 p2 p3 : Pos} (i : Nat) (hN : X.N[i]? = some x := by rfl) (hv : Vis X.env.scope x := by first | exact Or.inl rfl | exact Or.inr (Or.inl rfl) | exact Or.inr (Or.inr rfl)) (hd : (x == ("__debug__" : Str)) = false := by decide)
    (hcd : (x == ("__classdict__" : Str)) = false := by decide) (h1 : PE X (.Call (.Attribute (.Name x p1) "reverse" p2) [] [] p3) (tBM0 X.K "list" rReverse (tVar i)) → PS X (.Expr (.Call (.Attribute (.Name x p1) "reverse" p2) [] [] p3) pos) (tDrop (tBM0 X.K "list" rReverse (tVar i))) := by exact fun z => ps_expr z)
    (h2 : PE X (.Name x p1) (tVar i) → PE X (.Call (.Attribute (.Name x p1) "reverse" p2) [] [] p3) (tBM0 X.K "list" rReverse (tVar i)) := by exact fun z => pe_bm0 PySem.F.plainAttrs_list PySem.F.slot_list_reverse PySem.F.type_list_reverse mt_reverse z) :
    JS X (.Expr (.Call (.Attribute (.Name x p1) "reverse" p2) [] [] p3) pos) (tDrop (tBM0 X.K "list" rReverse (tVar i))) (sRevO i) := by
  refine ⟨h1 (h2 (pe_var hN hv hd hcd)), fun R ⟨p, xs, ex, q⟩ k => ?_⟩
  obtain ⟨vs, e1, hp, ha⟩ := own_at R ex
  exact ⟨_, e1, .inl ⟨rfl, vs, .inl (.inl hp)⟩, p, vs, rfl, rfl, hp, k.nx _ _ _ _ (R.change ex (dpAll_rev ha)) (Ex.refl _) q⟩
def dSlO (i : Nat) (lo hi : TDO) : TDL := fun δ Q => (∃ p xs, δ[i]? = some (.ow p (.lst xs))) ∧ lo δ fun l δ2 => hi δ2 fun u δ3 => ∃ p xs, δ3[i]? = some (.ow p (.lst xs)) ∧ Q (cutA xs l u) δ3
theorem jn_sliceO {x : Str} {p1 : Pos} {lo hi : Option Expr} {ul uh : TO} {tl th : TDO} {p2 : Pos} (i : Nat) (hl : JO X lo ul tl) (hh : JO X hi uh th) (hN : X.N[i]? = some x := by rfl) (hv : Vis X.env.scope x := by first | exact Or.inl rfl | exact Or.inr (Or.inl rfl) | exact Or.inr (Or.inr rfl)) (hd : (x == ("__debug__" : Str)) = false := by decide)
    (hcd : (x == ("__classdict__" : Str)) = false := by decide) : JN X (.Subscript (.Name x p1) (.Slice lo hi none p2) pos) (tSl (rSlL X.K) (tVar i) ul uh) (dSlO i tl th) := by
  obtain ⟨pl, sl⟩ := hl
  obtain ⟨ph, sh⟩ := hh
  refine ⟨pe_slice sl_list (pe_var hN hv hd hcd) pl ph, fun R ⟨⟨p, xs, ex⟩, h1⟩ k => ?_⟩
  obtain ⟨vs, e1, hp, ha⟩ := own_at R ex
  refine ⟨_, e1, sl R h1 fun o δ2 H2 Hs2 R2 e2 h2 => sh R2 h2 fun o' δ3 H3 Hs3 R3 e3 ⟨p', ys, ey, q⟩ => ?_⟩
  obtain ⟨ws, e4, hp4, ha4⟩ := own_at R3 ey
  rw [e1] at e4
  cases e4
  refine ⟨_, ws, rfl, .inl (.inl hp4), fun z hz => ?_⟩
  exact k _ _ _ _ _ _ (R3.hide hz) (R3.base.none hz) (R3.frz.none (R3.ex.none hz)) (e2.trans e3) (dpAll_cut ha4 o o') q
def dAddN (ta tb : TDE) : TDL := fun δ Q => ta δ fun x δ1 => tb δ1 fun y δ2 => ∃ xs ys, x = .list xs ∧ y = .list ys ∧ xs.length + ys.length ≤ 100000 ∧ Q (xs ++ ys) δ2
theorem jn_add (ha : JE X a ua ta) (hb : JE X b ub tb) : JN X (.BinOp a .Add b pos) (tOp (rCatS X.K) ua ub) (dAddN ta tb) := by
  refine ⟨pe_op op_catS ha.p hb.p, fun R q k => ha.s R q fun v d δ1 H1 Hs1 R1 x1 r1 q1 => hb.s R1 q1 fun u f δ2 H2 Hs2 R2 x2 r2 ⟨xs, ys, e1, e2, hl, q2⟩ => ?_⟩
  subst e1 e2
  cases r1 with
  | @lst l vs _ h1 a1 =>
    cases r2 with
    | @lst m ws _ h2 a2 =>
      refine ⟨l, m, vs, ws, rfl, rfl, R2.ex.sl (x2.sl h1), R2.ex.sl h2, by rw [dpAll_len a1, dpAll_len a2]; exact sz5 hl, fun p hp => ?_⟩
      exact k _ _ _ _ _ _ (R2.hide hp) (R2.base.none hp) (R2.frz.none (R2.ex.none hp)) (x1.trans x2) (dpAll_app (dpAll_mono x2 a1) a2) q2
def absD : List D → (D → Prop) → Prop
  | [.int i], Q => Q (.int (if i < 0 then -i else i))
  | _, _ => False
theorem cd_abs : CallD X (.builtin "abs") (fun xs H Q => ∃ i, xs = [.int i] ∧ Q (.int (if i < 0 then -i else i)) H) absD := ⟨call_abs, fun {Hs H vs ds Q Q'} e r h k => by
  match ds, h with
  | [.int i], h =>
    cases r with
    | cons r1 r2 =>
      cases r1
      cases r2
      exact ⟨i, rfl, k _ _ _ _ (PExt.refl e) (.int _) h⟩⟩
theorem st_abs {i : Int} {Q : D → Prop} (q : Q (.int (if i < 0 then -i else i))) : absD [.int i] Q := q
theorem st_truO {δ : Dl} {i : Nat} {Q : Bool → Dl → Prop} {p : Addr} {xs : List D} (h : δ[i]? = some (.ow p (.lst xs))) (q : Q (!xs.isEmpty) δ) : dTruO i δ Q := ⟨p, xs, h, q⟩
theorem st_inO {δ : Dl} {i : Nat} {neg : Bool} {Q : D → Dl → Prop} (q : t δ fun d δ' => ∃ p xs, δ'[i]? = some (.ow p (.lst xs)) ∧ d.depth ≤ 150 ∧ Q (.bool (neg ^^ xs.any fun z => PyData.eqv z d)) δ') : dInO neg i t δ Q := q
theorem st_in {neg : Bool} {x y : D} {xs : List D} {Q : D → Prop} (h1 : seqOf y = some xs) (h2 : x.depth ≤ 150) (q : Q (.bool (neg ^^ xs.any fun z => PyData.eqv z x))) : inG neg x y Q := ⟨xs, h1, h2, q⟩
theorem st_slO {δ : Dl} {i : Nat} {lo hi : TDO} {Q : List D → Dl → Prop} {p : Addr} {xs : List D} (h : δ[i]? = some (.ow p (.lst xs))) (q : lo δ fun l δ2 => hi δ2 fun u δ3 => ∃ p xs, δ3[i]? = some (.ow p (.lst xs)) ∧ Q (cutA xs l u) δ3) : dSlO i lo hi δ Q := ⟨⟨p, xs, h⟩, q⟩
theorem st_revO {De : DEnds} {δ : Dl} {i : Nat} {p : Addr} {xs : List D} (h : δ[i]? = some (.ow p (.lst xs))) (q : De.nx (δ.set i (.ow p (.lst xs.reverse)))) : sRevO i De δ := ⟨p, xs, h, q⟩
theorem st_addN {δ : Dl} {Q : List D → Dl → Prop} (q : ta δ fun x δ1 => tb δ1 fun y δ2 => ∃ xs ys, x = .list xs ∧ y = .list ys ∧ xs.length + ys.length ≤ 100000 ∧ Q (xs ++ ys) δ2) : dAddN ta tb δ Q := q
end
end EL
namespace EL
open PySem PySem.Spec PyProof.Rows L2
theorem wipe_get {σ : L2.St} {j : Nat} : ∀ {us : List Nat}, (L2.wipe σ us)[j]? = if j ∈ us ∧ j < σ.length then some none else σ[j]?
  | [] => by rw [if_neg (by simp)]; rfl
  | u :: us => by
    show ((L2.wipe σ us).set u none)[j]? = _
    by_cases hu : u = j
    · subst hu
      by_cases hl : u < σ.length
      · rw [List.getElem?_set_self (by rw [wipe_length]; exact hl), if_pos ⟨List.mem_cons_self, hl⟩]
      · rw [List.getElem?_eq_none (by rw [List.length_set, wipe_length]; omega), if_neg (fun z => hl z.2), List.getElem?_eq_none (by omega)]
    · rw [List.getElem?_set_ne hu, wipe_get]
      by_cases hm : j ∈ us ∧ j < σ.length
      · rw [if_pos hm, if_pos ⟨List.mem_cons_of_mem _ hm.1, hm.2⟩]
      · rw [if_neg hm, if_neg (fun z => by
          rcases List.mem_cons.mp z.1 with h | h
          · exact hu h.symm
          · exact hm ⟨h, z.2⟩)]
theorem wipe_set {σ : L2.St} {i : Nat} {x : Option V} {us : List Nat} (hi : i ∈ us) : L2.wipe (σ.set i x) us = L2.wipe σ us := by
  refine List.ext_getElem? fun j => ?_
  rw [wipe_get, wipe_get, List.length_set]
  by_cases hj : j ∈ us ∧ j < σ.length
  · rw [if_pos hj, if_pos hj]
  · rw [if_neg hj, if_neg hj]
    by_cases hij : i = j
    · subst hij
      have : ¬ i < σ.length := fun z => hj ⟨hi, z⟩
      rw [List.getElem?_eq_none (by rw [List.length_set]; omega), List.getElem?_eq_none (by omega)]
    · rw [List.getElem?_set_ne hij]
theorem wipe_wipe {σ : L2.St} {us : List Nat} : L2.wipe (L2.wipe σ us) us = L2.wipe σ us := by
  refine List.ext_getElem? fun j => ?_
  rw [wipe_get, wipe_length]
  by_cases hj : j ∈ us ∧ j < σ.length
  · rw [if_pos hj, wipe_get, if_pos hj]
  · rw [if_neg hj]
def SimGw (K : ZX) (g : TG) (t : TDG) (vs : List Nat) : Prop := ∀ {B H0 : Hp} [XOk K B H0] {σ : L2.St} {δ : Dl} {H Hs : Hp} {v : V} {d : D} {Q : Dl → Prop} {Q' : L2.St → Hp → Prop}, Rep K B H0 σ δ H Hs → Dp K Hs v d → t d δ Q →
  (∀ σ' δ', Rep K B H0 σ' δ' H Hs → L2.wipe σ' vs = L2.wipe σ vs → Q δ' → Q' σ' H) → g v σ H Q'
theorem gw_name {K : ZX} {i : Nat} {vs : List Nat} (hi : i ∈ vs) : SimGw K (gName i) (dgName i) vs := fun R r q k => k _ _ (R.set r i) (wipe_set hi) q
theorem gw_two {K : ZX} {i j : Nat} {vs : List Nat} (hi : i ∈ vs) (hj : j ∈ vs) : SimGw K (gTup K 2 (gCons (gName i) (gCons (gName j) gNil))) (dgTup 2 (dgCons (dgName i) (dgCons (dgName j) dgNil))) vs := fun R r ⟨xs, e, hl, q⟩ k => by
  subst e
  cases r with
  | @tup a ws _ hs ha =>
    obtain ⟨d1, r1, e1, q1⟩ := q
    subst e1
    obtain ⟨d2, r2, e2, q2⟩ := q1
    subst e2
    obtain ⟨e3, q3⟩ := q2
    subst e3
    cases ha with
    | cons p1 ha =>
      cases ha with
      | cons p2 ha =>
        cases ha
        exact ⟨a, _, rfl, R.ex.st hs, rfl, _, _, rfl, _, _, rfl, rfl, k _ _ ((R.set p1 i).set p2 j) (by rw [wipe_set hj, wipe_set hi]) q3⟩
def OkSl (δ : Dl) (vs : List Nat) : Prop := ∀ v ∈ vs, ∃ s, δ[v]? = some s ∧ isOw s = false
theorem mixD_len (δx δ : Dl) : ∀ us, (mixD δx δ us).length = δx.length
  | [] => rfl
  | v :: us => by
    show ((mixD δx δ us).set v _).length = _
    rw [List.length_set, mixD_len δx δ us]
theorem ok_mix {δx δ : Dl} (hl : δx.length = δ.length) : ∀ {us : List Nat}, OkSl δ us → OkSl (mixD δx δ us) us
  | [], _ => fun v hv => by simp at hv
  | u :: us, h => fun v hv => by
    show ∃ s, ((mixD δx δ us).set u (δ[u]?.getD .un))[v]? = some s ∧ isOw s = false
    obtain ⟨s, hs, hso⟩ := h u List.mem_cons_self
    have hul : u < δ.length := lt_of_get hs
    by_cases huv : u = v
    · subst huv
      rw [List.getElem?_set_self (by rw [mixD_len, hl]; exact hul), hs]
      exact ⟨s, rfl, hso⟩
    · rw [List.getElem?_set_ne huv]
      rcases List.mem_cons.mp hv with z | z
      · exact absurd z.symm huv
      · exact ok_mix hl (fun w hw => h w (List.mem_cons_of_mem _ hw)) v z
section
variable {X : Cy} {wi wi1 : TI} {ti ti1 : TDI}
theorem lc_loop {K : ZX} {B H0 : Hp} {p : Addr} {g : TG} {dg : TDG} {vt : TT} {ue : TE} {tt : TDB} {te : TDE} {vs : List Nat} (hg : SimGw K g dg vs) (ht : SimT K vt tt) (he : SimE K ue te) (hH0 : H0 p = none) [hX : XOk K B H0] (hB : B p = none) {σ : L2.St} {J : It} {xs : List D} {Q : List D → Dl → Prop} {Z : Hp → Prop} {δ : Dl} {H Hs : Hp} {acc : List D} {vacc : List V}
    (R : Rep K (upd B p (.lst vacc)) H0 σ δ H Hs) (it : ItOk K J xs Hs) (ha : DpAll K Hs vacc acc) (ho : OkSl δ vs) (q : dLcGo dg tt te vs Q xs acc δ)
    (fin : ∀ δ' H' Hs' acc' vacc', Rep K (upd B p (.lst vacc')) H0 σ δ' H' Hs' → Ex Hs Hs' → DpAll K Hs' vacc' acc' → OkSl δ' vs → Q acc' δ' → Z H') :
    ∃ W : Nat → Nat → Hp → Prop, (∃ m, W 0 m H) ∧ ∀ i m H, W i m H → (J.stop i H ∧ Z H) ∨ (J.go i H ∧ ∃ Nx : Hp → Prop, (∀ H', Nx H' → ∃ m', m' < m ∧ W (i + 1) m' H') ∧ ∀ x H', J.yld i H x H' → g x (L2.wipe σ vs) H' fun σ2 H2 => L2.wipe σ2 vs = L2.wipe σ vs ∧ vt σ2 H2 fun b H3 =>
      if b = true then ue σ2 H3 fun y H4 => ∃ acc, H4 p = some (.lst acc) ∧ acc.length < sizeLine ∧ Nx (upd H4 p (.lst (acc ++ [y]))) else Nx H3) := by
  refine ⟨fun j m H' => m + j = xs.length ∧ ∃ δ' Hs' acc vacc, Rep K (upd B p (.lst vacc)) H0 σ δ' H' Hs' ∧ Ex Hs Hs' ∧ DpAll K Hs' vacc acc ∧ OkSl δ' vs ∧ dLcGo dg tt te vs Q (xs.drop j) acc δ', ⟨xs.length, by omega, δ, Hs, acc, vacc, R, Ex.refl _, ha, ho, by rw [List.drop_zero]; exact q⟩, ?_⟩
  rintro j m H' ⟨hm, δ', Hs', acc, vacc, R', e', ha, ho', q'⟩
  obtain ⟨h1, h2⟩ := it j H' Hs' e' R'.ex
  by_cases hj : j < xs.length
  · obtain ⟨go, yl⟩ := h2 xs[j] (List.getElem?_eq_getElem hj)
    rw [List.drop_eq_getElem_cons hj] at q'
    refine .inr ⟨go, fun H2 => ∃ δ2 Hs2 acc vacc, Rep K (upd B p (.lst vacc)) H0 σ δ2 H2 Hs2 ∧ Ex Hs Hs2 ∧ DpAll K Hs2 vacc acc ∧ OkSl δ2 vs ∧ dLcGo dg tt te vs Q (xs.drop (j + 1)) acc δ2,
      fun H2 ⟨δ2, Hs2, acc2, vacc2, R2, e2, a2, o2, q2⟩ => ⟨m - 1, by omega, by omega, δ2, Hs2, acc2, vacc2, R2, e2, a2, o2, q2⟩, fun x H2 y => ?_⟩
    obtain ⟨Hs2, x2, r2⟩ := yl x H2 y
    have R2 := R'.ext x2
    haveI := hX.hide (o := .lst vacc) hB
    refine hg (R2.wipe vs) r2 q' fun σ3 δ3 R3 hw q3 => ?_
    rw [wipe_wipe] at hw
    refine ⟨hw, ht R3 q3 fun c δ4 H4 Hs4 R4 e4 q4 => ?_⟩
    cases c with
    | true =>
      rw [if_pos rfl] at q4 ⊢
      refine he R4 q4 fun z d δ5 H5 Hs5 R5 e5 r5 ⟨hlen, q5⟩ => ?_
      refine ⟨vacc, R5.at_p, by rw [dpAll_len ha]; exact lt_line hlen, ?_⟩
      have R6 := R2.mix R5 (e4.trans e5) vs ho'
      rw [mixS_eq hw] at R6
      have hl5 : δ5.length = δ'.length := by
        have a1 := R5.len
        have a2 := R2.len
        have a3 := congrArg List.length hw
        rw [wipe_length, wipe_length] at a3
        omega
      have e6 := (x2.s.trans e4).trans e5
      exact ⟨mixD δ5 δ' vs, Hs5, acc ++ [d], vacc ++ [z], R6.hset hH0, e'.trans e6, dpAll_app (dpAll_mono e6 ha) (.cons r5 .nil), ok_mix hl5 ho', q5⟩
    | false =>
      rw [if_neg Bool.false_ne_true] at q4 ⊢
      have R6 := R2.mix R4 e4 vs ho'
      rw [mixS_eq hw] at R6
      have hl5 : δ4.length = δ'.length := by
        have a1 := R4.len
        have a2 := R2.len
        have a3 := congrArg List.length hw
        rw [wipe_length, wipe_length] at a3
        omega
      have e6 := x2.s.trans e4
      exact ⟨mixD δ4 δ' vs, Hs4, acc, vacc, R6, e'.trans e6, dpAll_mono e6 ha, ok_mix hl5 ho', q4⟩
  · have ed : xs.drop j = [] := List.drop_eq_nil_of_le (by omega)
    rw [ed] at q'
    exact .inl ⟨h1 (by omega), fin _ _ _ _ _ R' e' ha ho' q'⟩
theorem sim_lcG {K : ZX} {g : TG} {dg : TDG} {vt : TT} {ue : TE} {tt : TDB} {te : TDE} {vs : List Nat} (hi : SimI K wi ti) (hg : SimGw K g dg vs) (ht : SimT K vt tt) (he : SimE K ue te) : SimN K (tLc wi g vt ue vs) (dLc ti dg tt te vs) := by
  intro B H0 hX σ δ H Hs Q Q' R q k
  obtain ⟨_, q⟩ := q
  refine hi R q fun J xs δ1 H1 Hs1 R1 e1 it ⟨ho, q1⟩ => ?_
  intro p hp
  have hB : B p = none := R1.base.none hp
  have hH0 : H0 p = none := R1.frz.none (R1.ex.none hp)
  exact lc_loop (Z := fun H' => Q' (.ref p) H') hg ht he hH0 (R1.base.none hp) (R1.hide hp) it .nil ho q1 fun δ' H' Hs' acc' vacc' R' e' ha _ q' => k _ _ _ _ _ _ R' hB hH0 (e1.trans e') ha q'
def dLc2Go (dg : TDG) (tt : TDB) (ti1 : TDI) (dg1 : TDG) (tt1 : TDB) (te : TDE) (vs vs1 : List Nat) (Q : List D → Dl → Prop) : List D → List D → Dl → Prop
  | [], acc, δ => Q acc δ
  | x :: xs, acc, δ => dg x (wipeD δ vs) fun δ1 => tt δ1 fun b δ2 => if b = true then ti1 δ2 fun ys δ3 => OkSl δ3 vs1 ∧ dLcGo dg1 tt1 te vs1 (fun acc' δ4 => dLc2Go dg tt ti1 dg1 tt1 te vs vs1 Q xs acc' (mixD δ4 δ vs)) ys acc δ3 else dLc2Go dg tt ti1 dg1 tt1 te vs vs1 Q xs acc (mixD δ2 δ vs)
def dLc2 (ti : TDI) (dg : TDG) (tt : TDB) (ti1 : TDI) (dg1 : TDG) (tt1 : TDB) (te : TDE) (vs vs1 : List Nat) : TDL := fun δ Q => ti δ fun xs δ' => OkSl δ' vs ∧ dLc2Go dg tt ti1 dg1 tt1 te vs vs1 Q xs [] δ'
theorem sim_lc2 {K : ZX} {g g1 : TG} {dg dg1 : TDG} {vt vt1 : TT} {ue : TE} {tt tt1 : TDB} {te : TDE} {vs vs1 : List Nat} (hi : SimI K wi ti) (hg : SimGw K g dg vs) (ht : SimT K vt tt) (hi1 : SimI K wi1 ti1) (hg1 : SimGw K g1 dg1 vs1) (ht1 : SimT K vt1 tt1) (he : SimE K ue te) :
    SimN K (tLc2 wi g vt wi1 g1 vt1 ue vs vs1) (dLc2 ti dg tt ti1 dg1 tt1 te vs vs1) := by
  intro B H0 hX σ δ H Hs Q Q' R q k
  refine hi R q fun J xs δ1 H1 Hs1 R1 e1 it ⟨ho, q1⟩ => ?_
  intro p hp
  have hB : B p = none := R1.base.none hp
  have hH0 : H0 p = none := R1.frz.none (R1.ex.none hp)
  refine ⟨fun j m H' => m + j = xs.length ∧ ∃ δ' Hs' acc vacc, Rep K (upd B p (.lst vacc)) H0 σ δ' H' Hs' ∧ Ex Hs1 Hs' ∧ DpAll K Hs' vacc acc ∧ OkSl δ' vs ∧ dLc2Go dg tt ti1 dg1 tt1 te vs vs1 Q (xs.drop j) acc δ',
    ⟨xs.length, by omega, δ1, Hs1, [], [], R1.hide hp, Ex.refl _, .nil, ho, q1⟩, ?_⟩
  rintro j m H' ⟨hm, δ', Hs', acc, vacc, R', e', ha, ho', q'⟩
  obtain ⟨h1, h2⟩ := it j H' Hs' e' R'.ex
  by_cases hj : j < xs.length
  · obtain ⟨go, yl⟩ := h2 xs[j] (List.getElem?_eq_getElem hj)
    rw [List.drop_eq_getElem_cons hj] at q'
    refine .inr ⟨go, fun H2 => ∃ δ2 Hs2 acc vacc, Rep K (upd B p (.lst vacc)) H0 σ δ2 H2 Hs2 ∧ Ex Hs1 Hs2 ∧ DpAll K Hs2 vacc acc ∧ OkSl δ2 vs ∧ dLc2Go dg tt ti1 dg1 tt1 te vs vs1 Q (xs.drop (j + 1)) acc δ2,
      fun H2 ⟨δ2, Hs2, acc2, vacc2, R2, e2, a2, o2, q2⟩ => ⟨m - 1, by omega, by omega, δ2, Hs2, acc2, vacc2, R2, e2, a2, o2, q2⟩, fun x H2 y => ?_⟩
    obtain ⟨Hs2, x2, r2⟩ := yl x H2 y
    have R2 := R'.ext x2
    haveI := hX.hide (o := .lst vacc) hB
    refine hg (R2.wipe vs) r2 q' fun σ3 δ3 R3 hw q3 => ?_
    rw [wipe_wipe] at hw
    have len3 : ∀ {δx : Dl} {Hx Hsx : Hp} {vx : List V}, Rep K (upd B p (.lst vx)) H0 σ3 δx Hx Hsx → δx.length = δ'.length := fun Rx => by
      have a1 := Rx.len
      have a2 := R2.len
      have a3 := congrArg List.length hw
      rw [wipe_length, wipe_length] at a3
      omega
    refine ⟨hw, ht R3 q3 fun c δ4 H4 Hs4 R4 e4 q4 => ?_⟩
    cases c with
    | true =>
      rw [if_pos rfl] at q4 ⊢
      refine hi1 R4 q4 fun J1 ys δ5 H5 Hs5 R5 e5 it5 ⟨o5, q5⟩ => ?_
      have e6 := (x2.s.trans e4).trans e5
      refine lc_loop hg1 ht1 he hH0 hB R5 it5 (dpAll_mono e6 ha) o5 q5 fun δ6 H6 Hs6 acc6 vacc6 R6 e7 a6 _ q6 => ?_
      have R7 := (show Rep K (upd B p (.lst vacc)) H0 σ δ' H2 Hs2 from R2)
      have e8 := (e4.trans e5).trans e7
      have key : Rep K (upd B p (.lst vacc6)) H0 (mixS σ3 σ vs) (mixD δ6 δ' vs) H6 Hs6 := by
        have : ∀ us : List Nat, (∀ v ∈ us, v ∈ vs) → Rep K (upd B p (.lst vacc6)) H0 (mixS σ3 σ us) (mixD δ6 δ' us) H6 Hs6 := by
          intro us
          induction us with
          | nil => intro _; exact R6
          | cons v us ih =>
            intro hsub
            have ih := ih fun w hw => hsub w (List.mem_cons_of_mem _ hw)
            obtain ⟨s, hs, hso⟩ := ho' v (hsub v List.mem_cons_self)
            obtain ⟨fps, F⟩ := R2.sl
            obtain ⟨x, ex, r⟩ := F.sl v s hs
            show Rep K _ H0 ((mixS σ3 σ us).set v (σ[v]?.getD none)) ((mixD δ6 δ' us).set v (δ'[v]?.getD .un)) H6 Hs6
            rw [hs, ex]
            cases s with
            | un => exact ih.setUn v x
            | dt d =>
              cases x with
              | none => exact r.elim
              | some y => exact ih.set (dp_mono e8 r.1) v
            | ow p o => cases hso
        exact this vs fun _ h => h
      rw [mixS_eq hw] at key
      exact ⟨mixD δ6 δ' vs, Hs6, acc6, vacc6, key, e'.trans (e6.trans e7), a6, ok_mix (len3 R6) ho', q6⟩
    | false =>
      rw [if_neg Bool.false_ne_true] at q4 ⊢
      have R6 := R2.mix R4 e4 vs ho'
      rw [mixS_eq hw] at R6
      have e6 := x2.s.trans e4
      exact ⟨mixD δ4 δ' vs, Hs4, acc, vacc, R6, e'.trans e6, dpAll_mono e6 ha, ok_mix (len3 R4) ho', q4⟩
  · have ed : xs.drop j = [] := List.drop_eq_nil_of_le (by omega)
    rw [ed] at q'
    exact .inl ⟨h1 (by omega), k _ _ _ _ _ _ R' hB hH0 (e1.trans e') ha q'⟩
end
end EL
namespace EL
open PySem PySem.Spec PyProof.Rows L2
abbrev BkT (α : Type) : Type := Shared → Hp → Addr → List (Str × Addr) → List Addr → α
section
variable {X : Cy} {e a b elt tg iter tg1 iter1 : Expr} {es : List Expr} {pos : Pos} {t ta tb : TDE} {us : TA} {wi : TI} {ti ti1 : TDI} {scope : Scope} {own : List (Str × Nat)} {g g1 : TG} {dg dg1 : TDG} {tt tt1 : TDB} {te : TDE} {uf : BkT TE} {vf vf1 : BkT TT} {wf : BkT TI} {vs1 : List Nat}
theorem jn_lcG (hc : X.calm = true) (hN : X.N.Nodup) (hi : JI X tg iter wi ti) (ok : BlkOk X.N X.env.scope scope own)
    (hg : ∀ (s : Shared) (H : Hp) (C : Addr) (cl : List (Str × Addr)) (fp : List Addr), PG (Bk X s H scope C cl fp) tg g) (hgw : SimGw X.z g dg (own.map (·.2)))
    (he : ∀ (s : Shared) (H : Hp) (C : Addr) (cl : List (Str × Addr)) (fp : List Addr), JE (Bk X s H scope C cl fp) elt (uf s H C cl fp) te)
    (hu : ∀ (s : Shared) (H : Hp) (C : Addr) (cl : List (Str × Addr)) (fp : List Addr), uf s H C cl fp = uf X.s_0 X.H_0 0 [] [] := by intros; rfl) (hs : ∀ x, foldedSetIterable iter X.env x = pure x := by intro _; rfl) :
    JN X (.ListComp elt [⟨tg, iter, [], 0⟩] scope pos) (tLc wi g tYes (uf X.s_0 X.H_0 0 [] []) (own.map (·.2))) (dLc ti dg dYes te (own.map (·.2))) :=
  ⟨pe_lc (own := own) hc hN hi.p ok hg (fun _ _ _ _ _ => pts_nil) (fun s H C cl fp => hu s H C cl fp ▸ (he s H C cl fp).p) hs, sim_lcG hi.s hgw sim_yes (he X.s_0 X.H_0 0 [] []).s⟩
theorem jn_lcGIf {c : Expr} (hc : X.calm = true) (hN : X.N.Nodup) (hi : JI X tg iter wi ti) (ok : BlkOk X.N X.env.scope scope own)
    (hg : ∀ (s : Shared) (H : Hp) (C : Addr) (cl : List (Str × Addr)) (fp : List Addr), PG (Bk X s H scope C cl fp) tg g) (hgw : SimGw X.z g dg (own.map (·.2)))
    (ht : ∀ (s : Shared) (H : Hp) (C : Addr) (cl : List (Str × Addr)) (fp : List Addr), JT (Bk X s H scope C cl fp) c (vf s H C cl fp) tt)
    (he : ∀ (s : Shared) (H : Hp) (C : Addr) (cl : List (Str × Addr)) (fp : List Addr), JE (Bk X s H scope C cl fp) elt (uf s H C cl fp) te)
    (hv : ∀ (s : Shared) (H : Hp) (C : Addr) (cl : List (Str × Addr)) (fp : List Addr), vf s H C cl fp = vf X.s_0 X.H_0 0 [] [] := by intros; rfl)
    (hu : ∀ (s : Shared) (H : Hp) (C : Addr) (cl : List (Str × Addr)) (fp : List Addr), uf s H C cl fp = uf X.s_0 X.H_0 0 [] [] := by intros; rfl) (hs : ∀ x, foldedSetIterable iter X.env x = pure x := by intro _; rfl) :
    JN X (.ListComp elt [⟨tg, iter, [c], 0⟩] scope pos) (tLc wi g (vf X.s_0 X.H_0 0 [] []) (uf X.s_0 X.H_0 0 [] []) (own.map (·.2))) (dLc ti dg tt te (own.map (·.2))) :=
  ⟨pe_lc (own := own) hc hN hi.p ok hg (fun s H C cl fp => pts_one (hv s H C cl fp ▸ (ht s H C cl fp).p)) (fun s H C cl fp => hu s H C cl fp ▸ (he s H C cl fp).p) hs, sim_lcG hi.s hgw (ht X.s_0 X.H_0 0 [] []).s (he X.s_0 X.H_0 0 [] []).s⟩
theorem jn_lc2 (hc : X.calm = true) (hN : X.N.Nodup) (hi : JI X tg iter wi ti) (ok : BlkOk X.N X.env.scope scope own)
    (hg : ∀ (s : Shared) (H : Hp) (C : Addr) (cl : List (Str × Addr)) (fp : List Addr), PG (Bk X s H scope C cl fp) tg g) (hgw : SimGw X.z g dg (own.map (·.2)))
    (hi1 : ∀ (s : Shared) (H : Hp) (C : Addr) (cl : List (Str × Addr)) (fp : List Addr), JI (Bk X s H scope C cl fp) tg1 iter1 (wf s H C cl fp) ti1)
    (hg1 : ∀ (s : Shared) (H : Hp) (C : Addr) (cl : List (Str × Addr)) (fp : List Addr), PG (Bk X s H scope C cl fp) tg1 g1) (hgw1 : SimGw X.z g1 dg1 vs1)
    (he : ∀ (s : Shared) (H : Hp) (C : Addr) (cl : List (Str × Addr)) (fp : List Addr), JE (Bk X s H scope C cl fp) elt (uf s H C cl fp) te)
    (hvs : ∀ i ∈ vs1, i ∈ own.map (·.2) := by decide)
    (hw : ∀ (s : Shared) (H : Hp) (C : Addr) (cl : List (Str × Addr)) (fp : List Addr), wf s H C cl fp = wf X.s_0 X.H_0 0 [] [] := by intros; rfl)
    (hu : ∀ (s : Shared) (H : Hp) (C : Addr) (cl : List (Str × Addr)) (fp : List Addr), uf s H C cl fp = uf X.s_0 X.H_0 0 [] [] := by intros; rfl)
    (hs : ∀ x, foldedSetIterable iter X.env x = pure x := by intro _; rfl) (hs1 : ∀ env x, foldedSetIterable iter1 env x = pure x := by intro _ _; rfl) :
    JN X (.ListComp elt [⟨tg, iter, [], 0⟩, ⟨tg1, iter1, [], 0⟩] scope pos) (tLc2 wi g tYes (wf X.s_0 X.H_0 0 [] []) g1 tYes (uf X.s_0 X.H_0 0 [] []) (own.map (·.2)) vs1) (dLc2 ti dg dYes ti1 dg1 dYes te (own.map (·.2)) vs1) :=
  ⟨pe_lc2 (own := own) hc hN hi.p ok hvs hg (fun _ _ _ _ _ => pts_nil) (fun s H C cl fp => hw s H C cl fp ▸ (hi1 s H C cl fp).p) hg1 (fun _ _ _ _ _ => pts_nil) (fun s H C cl fp => hu s H C cl fp ▸ (he s H C cl fp).p) hs hs1,
    sim_lc2 hi.s hgw sim_yes (hi1 X.s_0 X.H_0 0 [] []).s hgw1 sim_yes (he X.s_0 X.H_0 0 [] []).s⟩
def pairD (xs ys : List D) : List D := (xs.zip ys).map fun p => .tuple [p.1, p.2]
theorem pairD_len (xs ys : List D) : (pairD xs ys).length = min xs.length ys.length := by
  unfold pairD
  rw [List.length_map, List.length_zip]
theorem pairD_get {xs ys : List D} {i : Nat} {d : D} (h : (pairD xs ys)[i]? = some d) : ∃ x y, xs[i]? = some x ∧ ys[i]? = some y ∧ d = .tuple [x, y] := by
  have hl := lt_of_get h
  rw [pairD_len] at hl
  unfold pairD at h
  rw [List.getElem?_map, List.getElem?_eq_getElem (by rw [List.length_zip]; exact hl), List.getElem_zip] at h
  cases h
  exact ⟨_, _, List.getElem?_eq_getElem (by omega), List.getElem?_eq_getElem (by omega), rfl⟩
theorem it_zipT {K : PySem.W.Frag} {Hs : Hp} {a b : Addr} {vs ws : List V} {xs ys : List D} (h : SqT K Hs a vs) (ha : DpAll K Hs vs xs) (h2 : SqT K Hs b ws) (hb : DpAll K Hs ws ys) : ItOk K (RZ.ItzT K a b) (pairD xs ys) Hs := fun i H Hs1 e1 e2 =>
  ⟨fun hi => ⟨vs, ws, (e1.trans e2).st h, (e1.trans e2).st h2, by rw [pairD_len] at hi; rw [dpAll_len ha, dpAll_len hb]; omega⟩, fun d hd => by
    obtain ⟨x, y, hx, hy, rfl⟩ := pairD_get hd
    obtain ⟨v, hv, rv⟩ := dpAll_get ha hx
    obtain ⟨u, hu, ru⟩ := dpAll_get hb hy
    refine ⟨⟨vs, ws, v, u, (e1.trans e2).st h, (e1.trans e2).st h2, hv, hu⟩, fun z H' ⟨T, v', u', e, hT, eH, q1, q2⟩ => ?_⟩
    subst e eH
    have z1 := q1 vs ((e1.trans e2).st h)
    have z2 := q2 ws ((e1.trans e2).st h2)
    rw [hv] at z1
    rw [hu] at z2
    cases z1
    cases z2
    have x1 := PExt.new e2 (.tup [v, u]) hT
    exact ⟨_, x1, .tup (.inl (.inl upd_same)) (.cons (dp_mono (e1.trans x1.s) rv) (.cons (dp_mono (e1.trans x1.s) ru) .nil))⟩⟩
theorem it_zipL {K : PySem.W.Frag} {Hs : Hp} {a b : Addr} {vs ws : List V} {xs ys : List D} (h : SqL K Hs a vs) (ha : DpAll K Hs vs xs) (h2 : SqL K Hs b ws) (hb : DpAll K Hs ws ys) : ItOk K (Itz K a b) (pairD xs ys) Hs := fun i H Hs1 e1 e2 =>
  ⟨fun hi => ⟨vs, ws, (e1.trans e2).sl h, (e1.trans e2).sl h2, by rw [pairD_len] at hi; rw [dpAll_len ha, dpAll_len hb]; omega⟩, fun d hd => by
    obtain ⟨x, y, hx, hy, rfl⟩ := pairD_get hd
    obtain ⟨v, hv, rv⟩ := dpAll_get ha hx
    obtain ⟨u, hu, ru⟩ := dpAll_get hb hy
    refine ⟨⟨vs, ws, v, u, (e1.trans e2).sl h, (e1.trans e2).sl h2, hv, hu⟩, fun z H' ⟨T, v', u', e, hT, eH, q1, q2⟩ => ?_⟩
    subst e eH
    have z1 := q1 vs ((e1.trans e2).sl h)
    have z2 := q2 ws ((e1.trans e2).sl h2)
    rw [hv] at z1
    rw [hu] at z2
    cases z1
    cases z2
    have x1 := PExt.new e2 (.tup [v, u]) hT
    exact ⟨_, x1, .tup (.inl (.inl upd_same)) (.cons (dp_mono (e1.trans x1.s) rv) (.cons (dp_mono (e1.trans x1.s) ru) .nil))⟩⟩
def iZipD (t : TDL) : TDI := fun δ Q => t δ fun ds δ' => ∃ xs ys, ((ds = [.list xs, .list ys]) ∨ ds = [.tuple xs, .tuple ys]) ∧ Q (pairD xs ys) δ'
theorem ji_zip {p tpos : Pos} {elts : List Expr} {kk : Nat} {u : TDL} (hg : Gl X "zip") (hm : X.mg "zip" = none) (ha : JA X [a, b] us u) (hs : starEach [a, b] X.env = (false, eval a X.env) :: starEach [b] X.env := by rfl) (hpl : (backTo pos (starEach [b] X.env)).any (·.1) = false := by rfl) :
    JI X (.Tuple elts kk tpos) (.Call (.Name "zip" p) [a, b] [] pos) (RZ.iZipA X.K us) (iZipD u) :=
  ⟨RZ.pi_zipA hg hm ha.p hs hpl, fun R q k => ha.s R q fun vs ds δ1 H1 Hs1 R1 e1 r1 ⟨xs, ys, hd, q1⟩ => by
    rcases hd with rfl | rfl
    · cases r1 with
      | cons r1 r2 =>
        cases r2 with
        | cons r2 r3 =>
          cases r3
          cases r1 with
          | @lst a ws _ h1 a1 =>
            cases r2 with
            | @lst b zs _ h2 a2 => exact ⟨a, b, ws, zs, rfl, .inl ⟨R1.ex.sl h1, R1.ex.sl h2, k _ _ _ _ _ R1 e1 (it_zipL h1 a1 h2 a2) q1⟩⟩
    · cases r1 with
      | cons r1 r2 =>
        cases r2 with
        | cons r2 r3 =>
          cases r3
          cases r1 with
          | @tup a ws _ h1 a1 =>
            cases r2 with
            | @tup b zs _ h2 a2 => exact ⟨a, b, ws, zs, rfl, .inr ⟨R1.ex.st h1, R1.ex.st h2, k _ _ _ _ _ R1 e1 (it_zipT h1 a1 h2 a2) q1⟩⟩⟩
theorem st_iZip {δ : Dl} {u : TDL} {Q : List D → Dl → Prop} (q : u δ fun ds δ' => ∃ xs ys, ((ds = [.list xs, .list ys]) ∨ ds = [.tuple xs, .tuple ys]) ∧ Q (pairD xs ys) δ') : iZipD u δ Q := q
end
end EL
namespace EL
open PySem PySem.Spec PyProof.Rows L2
inductive KVs (K : PySem.W.Frag) (Hs : Hp) {κ : Type} : List (κ × V) → List (κ × D) → Prop
  | nil : KVs K Hs [] []
  | cons {k : κ} {v : V} {d : D} {r : List (κ × V)} {s : List (κ × D)} : Dp K Hs v d → KVs K Hs r s → KVs K Hs ((k, v) :: r) ((k, d) :: s)
section
variable {K : PySem.W.Frag} {Hs Hs' : Hp} {κ : Type} [DecidableEq κ]
theorem KVs.mono (e : Ex Hs Hs') : ∀ {r : List (κ × V)} {s : List (κ × D)}, KVs K Hs r s → KVs K Hs' r s
  | _, _, .nil => .nil
  | _, _, .cons h t => .cons (dp_mono e h) (t.mono e)
theorem KVs.len : ∀ {r : List (κ × V)} {s : List (κ × D)}, KVs K Hs r s → r.length = s.length
  | _, _, .nil => rfl
  | _, _, .cons _ t => congrArg (· + 1) t.len
def getK (kvs : List (κ × D)) (k : κ) : Option D := (kvs.find? fun kv => decide (kv.1 = k)).map (·.2)
def putD (kvs : List (κ × D)) (k : κ) (d : D) : List (κ × D) := if (kvs.any fun kv => decide (kv.1 = k)) = true then kvs.map (fun kv => if kv.1 = k then (kv.1, d) else kv) else kvs ++ [(k, d)]
theorem KVs.get {k : κ} {d : D} : ∀ {r : List (κ × V)} {s : List (κ × D)}, KVs K Hs r s → getK s k = some d → ∃ v, valV r k = some v ∧ Dp K Hs v d
  | _, _, .nil, h => by cases h
  | _, _, .cons (k := k') (v := v) (d := d') (r := r) (s := s) q t, h => by
    by_cases e : k' = k
    · have : getK ((k', d') :: s) k = some d' := by simp [getK, List.find?_cons, e]
      rw [this] at h
      cases h
      exact ⟨v, valV_pos e, q⟩
    · have : getK ((k', d') :: s) k = getK s k := by simp [getK, List.find?_cons, e]
      rw [this] at h
      obtain ⟨v', h1, h2⟩ := t.get h
      exact ⟨v', by rw [valV_neg e]; exact h1, h2⟩
theorem KVs.any_eq {k : κ} : ∀ {r : List (κ × V)} {s : List (κ × D)}, KVs K Hs r s → (r.any fun kv => decide (kv.1 = k)) = s.any fun kv => decide (kv.1 = k)
  | _, _, .nil => rfl
  | _, _, .cons q t => by
    rw [List.any_cons, List.any_cons, t.any_eq]
theorem KVs.map_put {k : κ} {v : V} {d : D} (q : Dp K Hs v d) : ∀ {r : List (κ × V)} {s : List (κ × D)}, KVs K Hs r s → KVs K Hs (r.map fun kv => if kv.1 = k then (kv.1, v) else kv) (s.map fun kv => if kv.1 = k then (kv.1, d) else kv)
  | _, _, .nil => .nil
  | _, _, .cons (k := k') q' t => by
    rw [List.map_cons, List.map_cons]
    by_cases e : k' = k
    · simp only [e, if_true]
      exact .cons q (t.map_put q)
    · simp only [e, if_false]
      exact .cons q' (t.map_put q)
theorem KVs.app : ∀ {r r' : List (κ × V)} {s s' : List (κ × D)}, KVs K Hs r s → KVs K Hs r' s' → KVs K Hs (r ++ r') (s ++ s')
  | _, _, _, _, .nil, h => h
  | _, _, _, _, .cons q t, h => .cons q (t.app h)
theorem KVs.put {k : κ} {v : V} {d : D} {r : List (κ × V)} {s : List (κ × D)} (h : KVs K Hs r s) (q : Dp K Hs v d) : KVs K Hs (putK r k v) (putD s k d) := by
  unfold putK putD
  rw [h.any_eq]
  split
  · exact h.map_put q
  · exact h.app (.cons q .nil)
end
def apK (kvs : List (Key × D)) : AP := ⟨fun K Hs o => ∃ r, o = .dK r ∧ KVs K Hs r kvs, fun ⟨r, e, _⟩ xs z => (by rw [e] at z; cases z), fun ⟨r, e, h⟩ x => ⟨r, e, h.mono x⟩⟩
def apT (kvs : List (List Key × D)) : AP := ⟨fun K Hs o => ∃ r, o = .dT r ∧ KVs K Hs r kvs, fun ⟨r, e, _⟩ xs z => (by rw [e] at z; cases z), fun ⟨r, e, h⟩ x => ⟨r, e, h.mono x⟩⟩
abbrev OD.dk (kvs : List (Key × D)) : OD := OD.one (apK kvs)
abbrev OD.dt (kvs : List (List Key × D)) : OD := OD.one (apT kvs)
def keyOf : D → Option Key
  | .int i => some (.inl i)
  | .str x => some (.inr x)
  | _ => none
theorem key_dp {K : PySem.W.Frag} {H : Hp} {v : V} {d : D} {k : Key} (r : Dp K H v d) (h : keyOf d = some k) : v = kV k := by
  cases r <;> cases h <;> rfl
def keysOf : List D → Option (List Key)
  | [] => some []
  | d :: ds => (keyOf d).bind fun k => (keysOf ds).bind fun ks => some (k :: ks)
theorem keys_dp {K : PySem.W.Frag} {H : Hp} : ∀ {vs : List V} {ds : List D} {ks : List Key}, DpAll K H vs ds → keysOf ds = some ks → vs = ks.map kV
  | _, _, _, .nil, h => by cases h; rfl
  | _, _, _, .cons (d := d) (ds := ds) r t, h => by
    unfold keysOf at h
    cases e1 : keyOf d with
    | none => rw [e1] at h; cases h
    | some k =>
      cases e2 : keysOf ds with
      | none => rw [e1, e2] at h; cases h
      | some ks' =>
        rw [e1, e2] at h
        cases h
        rw [key_dp r e1, keys_dp t e2]
        rfl
section
variable {X : Cy} {e j : Expr} {es : List Expr} {pos pos' : Pos} {t tj : TDE} {ue uj : TE} {us : TA} {u : TDL}
def sDictK (i : Nat) : TDS := fun De δ => i < δ.length ∧ ∀ p, De.nx (δ.set i (.ow p (OD.dk [])))
def sDictT (i : Nat) : TDS := fun De δ => i < δ.length ∧ ∀ p, De.nx (δ.set i (.ow p (OD.dt [])))
theorem js_dictK {i : Nat} {x : Str} {p' dp : Pos} (hN : X.N.Nodup) (hi : X.N[i]? = some x := by rfl) (hx : Loc X.env.scope x := by first | exact .inl rfl | exact .inr rfl) (hs : swapsWith (.Dict [] [] dp) (some (.Name x p')) pos.line X.env = pure false := by rfl)
    (hf : X.fn x = true ∨ X.env.scope.names.lookup x = some .local := by first | exact .inl rfl | exact .inr rfl | assumption) : JS X (.Assign [.Name x p'] (.Dict [] [] dp) pos) (tAsg tDNewK (gName i)) (sDictK i) := ⟨ps_set hN hi hx pe_dnewK hs hf, fun R ⟨hl, q⟩ k p hp =>
  k.nx _ _ _ _ ((R.hide hp).ownA (a := apK []) (R.base.none hp) (R.frz.none (R.ex.none hp)) ⟨[], rfl, .nil⟩ hl) (Ex.refl _) (q p)⟩
theorem js_dictT {i : Nat} {x : Str} {p' dp : Pos} (hN : X.N.Nodup) (hi : X.N[i]? = some x := by rfl) (hx : Loc X.env.scope x := by first | exact .inl rfl | exact .inr rfl) (hs : swapsWith (.Dict [] [] dp) (some (.Name x p')) pos.line X.env = pure false := by rfl)
    (hf : X.fn x = true ∨ X.env.scope.names.lookup x = some .local := by first | exact .inl rfl | exact .inr rfl | assumption) : JS X (.Assign [.Name x p'] (.Dict [] [] dp) pos) (tAsg tDNewT (gName i)) (sDictT i) := ⟨ps_set hN hi hx pe_dnewT hs hf, fun R ⟨hl, q⟩ k p hp =>
  k.nx _ _ _ _ ((R.hide hp).ownA (a := apT []) (R.base.none hp) (R.frz.none (R.ex.none hp)) ⟨[], rfl, .nil⟩ hl) (Ex.refl _) (q p)⟩
def dDGet (i : Nat) (tj : TDE) : TDE := fun δ Q => (∃ p a, δ[i]? = some (.ow p (OD.one a))) ∧ tj δ fun d δ' => ∃ p kvs k z, δ'[i]? = some (.ow p (OD.dk kvs)) ∧ keyOf d = some k ∧ getK kvs k = some z ∧ Q z δ'
theorem je_dgetK {x : Str} {p1 : Pos} (hu : X.A.units + 200 < cLine) (i : Nat) (hj : JE X j uj tj) (hN : X.N[i]? = some x := by rfl) (hv : Vis X.env.scope x := by first | exact Or.inl rfl | exact Or.inr (Or.inl rfl) | exact Or.inr (Or.inr rfl)) (hd : (x == ("__debug__" : Str)) = false := by decide)
    (hcd : (x == ("__classdict__" : Str)) = false := by decide) (hs : NoSl j := by first | exact nosl _ | exact fun _ => rfl | with_unfolding_all rfl) : JE X (.Subscript (.Name x p1) j pos) (tDGet (tVar i) uj) (dDGet i tj) := by
  refine ⟨pe_dget (by omega) (pe_var hN hv hd hcd) hj.p hs, fun R ⟨⟨p, a, ex⟩, q⟩ k => ?_⟩
  obtain ⟨o, e1, hp, ha⟩ := own_atA R ex
  refine ⟨_, e1, hj.s R q fun v d δ' H' Hs' R1 x1 r ⟨p', kvs, key, z, ey, ek, hz, q1⟩ => ?_⟩
  obtain ⟨o', e2, hp', kv, eo, hkv⟩ := own_atA R1 ey
  subst eo
  rw [e1] at e2
  cases e2
  obtain ⟨w, hw, rw'⟩ := hkv.get hz
  rw [key_dp r ek]
  refine ⟨_, w, rfl, ?_, k _ _ _ _ _ R1 x1 rw' q1⟩
  rw [← hw]
  exact .k hp'
def sDPutK (i : Nat) (tj t : TDE) : TDS := fun De δ => t δ fun d δ1 => (∃ p a, δ1[i]? = some (.ow p (OD.one a))) ∧ tj δ1 fun dj δ2 => ∃ p kvs k, δ2[i]? = some (.ow p (OD.dk kvs)) ∧ keyOf dj = some k ∧ kvs.length ≤ 100000 ∧ De.nx (δ2.set i (.ow p (OD.dk (putD kvs k d))))
theorem js_dputK {x : Str} {p1 : Pos} (hu : X.A.units + 200 < cLine) (i : Nat) (hj : JE X j uj tj) (he : JE X e ue t) (hN : X.N[i]? = some x := by rfl) (hv : Vis X.env.scope x := by first | exact Or.inl rfl | exact Or.inr (Or.inl rfl) | exact Or.inr (Or.inr rfl)) (hd : (x == ("__debug__" : Str)) = false := by decide)
    (hcd : (x == ("__classdict__" : Str)) = false := by decide) (hs : swapsWith e (some (.Subscript (.Name x p1) j pos')) pos.line X.env = pure false := by rfl) : JS X (.Assign [.Subscript (.Name x p1) j pos'] e pos) (sDPut (tVar i) uj ue) (sDPutK i tj t) := by
  refine ⟨ps_dput (by omega) (pe_var hN hv hd hcd) hj.p he.p hs, fun R q k => he.s R q fun v d δ1 H1 Hs1 R1 x1 r ⟨⟨p, a, ex⟩, q1⟩ => ?_⟩
  obtain ⟨o, e1, hp, ha⟩ := own_atA R1 ex
  refine ⟨_, e1, hj.s R1 q1 fun y dj δ2 H2 Hs2 R2 x2 r2 ⟨p', kvs, key, ey, ek, hl, q2⟩ => ?_⟩
  obtain ⟨o', e2, hp', kv, eo, hkv⟩ := own_atA R2 ey
  subst eo
  rw [e1] at e2
  cases e2
  rw [key_dp r2 ek]
  refine ⟨_, _, rfl, .k hp' (by rw [hkv.len]; exact lt_line hl), ?_⟩
  exact k.nx _ _ _ _ (R2.changeA (a' := apK (putD kvs key d)) ey ⟨_, rfl, hkv.put (dp_mono x2 r)⟩) (x1.trans x2) q2
def dDGetT (i : Nat) (u : TDL) : TDE := fun δ Q => (∃ p a, δ[i]? = some (.ow p (OD.one a))) ∧ u δ fun ds δ' => ds.length ≤ 10000 ∧ ∃ p kvs ks z, δ'[i]? = some (.ow p (OD.dt kvs)) ∧ keysOf ds = some ks ∧ getK kvs ks = some z ∧ Q z δ'
theorem je_dgetT {x : Str} {p1 tp : Pos} {c : Nat} (hu : X.A.units + 200 < cLine) (i : Nat) (hj : JA X es us u) (hN : X.N[i]? = some x := by rfl) (hv : Vis X.env.scope x := by first | exact Or.inl rfl | exact Or.inr (Or.inl rfl) | exact Or.inr (Or.inr rfl)) (hd : (x == ("__debug__" : Str)) = false := by decide)
    (hcd : (x == ("__classdict__" : Str)) = false := by decide) (hs : NoSl (.Tuple es c tp) := by exact fun _ _ => rfl) : JE X (.Subscript (.Name x p1) (.Tuple es c tp) pos) (tDGet (tVar i) (tTup us)) (dDGetT i u) := by
  refine ⟨pe_dget (by omega) (pe_var hN hv hd hcd) (pe_tup hj.p) hs, fun R ⟨⟨p, a, ex⟩, q⟩ k => ?_⟩
  obtain ⟨o, e1, hp, ha⟩ := own_atA R ex
  refine ⟨_, e1, hj.s R q fun vs ds δ' H' Hs' R1 x1 r ⟨hl, p', kvs, ks, z, ey, ek, hz, q1⟩ => ⟨by rw [dpAll_len r]; exact Nat.le_of_lt (lt_line (by omega)), fun b hb => ?_⟩⟩
  have X1 := PExt.new R1.ex (.tup vs) hb
  have R2 := R1.ext X1
  obtain ⟨o', e2, hp', kv, eo, hkv⟩ := own_atA R2 ey
  subst eo
  rw [e1] at e2
  cases e2
  obtain ⟨w, hw, rw'⟩ := hkv.get hz
  refine ⟨_, w, rfl, ?_, k _ _ _ _ _ R2 (x1.trans X1.s) rw' q1⟩
  rw [← hw]
  exact .t hp' (by rw [upd_same, keys_dp r ek])
def sDPutT (i : Nat) (u : TDL) (t : TDE) : TDS := fun De δ => t δ fun d δ1 => (∃ p a, δ1[i]? = some (.ow p (OD.one a))) ∧ u δ1 fun ds δ2 => ds.length ≤ 10000 ∧ ∃ p kvs ks, δ2[i]? = some (.ow p (OD.dt kvs)) ∧ keysOf ds = some ks ∧ kvs.length ≤ 100000 ∧ De.nx (δ2.set i (.ow p (OD.dt (putD kvs ks d))))
theorem js_dputT {x : Str} {p1 tp : Pos} {c : Nat} (hu : X.A.units + 200 < cLine) (i : Nat) (hj : JA X es us u) (he : JE X e ue t) (hN : X.N[i]? = some x := by rfl) (hv : Vis X.env.scope x := by first | exact Or.inl rfl | exact Or.inr (Or.inl rfl) | exact Or.inr (Or.inr rfl)) (hd : (x == ("__debug__" : Str)) = false := by decide)
    (hcd : (x == ("__classdict__" : Str)) = false := by decide) (hs : swapsWith e (some (.Subscript (.Name x p1) (.Tuple es c tp) pos')) pos.line X.env = pure false := by rfl) : JS X (.Assign [.Subscript (.Name x p1) (.Tuple es c tp) pos'] e pos) (sDPut (tVar i) (tTup us) ue) (sDPutT i u t) := by
  refine ⟨ps_dput (by omega) (pe_var hN hv hd hcd) (pe_tup hj.p) he.p hs, fun R q k => he.s R q fun v d δ1 H1 Hs1 R1 x1 r ⟨⟨p, a, ex⟩, q1⟩ => ?_⟩
  obtain ⟨o, e1, hp, ha⟩ := own_atA R1 ex
  refine ⟨_, e1, hj.s R1 q1 fun vs ds δ2 H2 Hs2 R2 x2 r2 ⟨hl, p', kvs, ks, ey, ek, hl2, q2⟩ => ⟨by rw [dpAll_len r2]; exact Nat.le_of_lt (lt_line (by omega)), fun b hb => ?_⟩⟩
  have X1 := PExt.new R2.ex (.tup vs) hb
  have R3 := R2.ext X1
  obtain ⟨o', e2, hp', kv, eo, hkv⟩ := own_atA R3 ey
  subst eo
  rw [e1] at e2
  cases e2
  refine ⟨_, _, rfl, .t hp' (by rw [upd_same, keys_dp r2 ek]) (by rw [hkv.len]; exact lt_line hl2), ?_⟩
  exact k.nx _ _ _ _ (R3.changeA (a' := apT (putD kvs ks d)) ey ⟨_, rfl, hkv.put (dp_mono (x2.trans X1.s) r)⟩) (x1.trans (x2.trans X1.s)) q2
end
end EL
namespace EL
open PySem PySem.Spec PyProof.Rows L2
theorem PExt.adopt {Hs H : Hp} (e : Ex Hs H) {q : Addr} {vs : List V} (hq : H q = some (.tup vs)) : ∃ Hs', PExt Hs H Hs' H ∧ Hs' q = some (.tup vs) := by
  cases h : Hs q with
  | some o =>
    have := e q o h
    rw [hq] at this
    cases this
    exact ⟨Hs, PExt.refl e, h⟩
  | none =>
    refine ⟨upd Hs q (.tup vs), ⟨Ex.new h, Ex.refl _, fun a u z => ?_, fun b h1 h2 => ?_⟩, upd_same⟩
    · by_cases ha : a = q
      · subst ha
        rw [upd_same] at z
        cases z
        exact hq
      · rw [upd_ne ha] at z
        exact e a u z
    · by_cases hb : b = q
      · subst hb
        exact .inr ⟨vs, hq⟩
      · rw [upd_ne hb] at h1
        exact absurd h2 h1
def keyD : Key → D
  | .inl i => .int i
  | .inr x => .str x
theorem dp_key {K : PySem.W.Frag} {H : Hp} : ∀ k : Key, Dp K H (kV k) (keyD k)
  | .inl i => .int i
  | .inr x => .str x
theorem dp_keys {K : PySem.W.Frag} {H : Hp} : ∀ ks : List Key, DpAll K H (ks.map kV) (ks.map keyD)
  | [] => .nil
  | k :: ks => .cons (dp_key k) (dp_keys ks)
theorem KVs.key_at {K : PySem.W.Frag} {Hs : Hp} {κ : Type} : ∀ {r : List (κ × V)} {s : List (κ × D)} {j : Nat} {k : κ} {v : V}, KVs K Hs r s → r[j]? = some (k, v) → ∃ d, s[j]? = some (k, d)
  | _, _, _, _, _, .nil, h => by simp at h
  | _, _, 0, _, _, .cons q t, h => by cases h; exact ⟨_, rfl⟩
  | _, _, j + 1, _, _, .cons q t, h => t.key_at (j := j) h
def apLT (od : Obj) (r : List (List Key × V)) (kvs : List (List Key × D)) : AP := ⟨fun K Hs o => o = .frz od (.dT r) ∧ KVs K Hs r kvs, fun ⟨e, _⟩ xs z => (by rw [e] at z; cases z), fun ⟨e, h⟩ x => ⟨e, h.mono x⟩⟩
def apLK (od : Obj) (r : List (Key × V)) (kvs : List (Key × D)) : AP := ⟨fun K Hs o => o = .frz od (.dK r) ∧ KVs K Hs r kvs, fun ⟨e, _⟩ xs z => (by rw [e] at z; cases z), fun ⟨e, h⟩ x => ⟨e, h.mono x⟩⟩
def sForGoL (i : Nat) (lk : SD) (dg : TDG) (s : TDS) (N : Dl → Prop) : List D → Dl → Prop
  | [], δ => N δ
  | x :: xs, δ => dg x δ fun δ1 => s { nx := fun δ2 => δ2[i]? = some lk ∧ sForGoL i lk dg s N xs δ2, rt := fun _ _ => False, bk := fun _ => False, ct := fun δ2 => δ2[i]? = some lk ∧ sForGoL i lk dg s N xs δ2 } δ1
def sForT (i : Nat) (dg : TDG) (s : TDS) : TDS := fun De δ => ∃ p kvs, δ[i]? = some (.ow p (OD.dt kvs)) ∧ ∀ od r, sForGoL i (.ow p (OD.one (apLT od r kvs))) dg s (fun δ' => De.nx (δ'.set i (.ow p (OD.dt kvs)))) (kvs.map fun kv => PyData.tuple (kv.1.map keyD)) (δ.set i (.ow p (OD.one (apLT od r kvs))))
section
variable {X : Cy} {tg : Expr} {sts : List Stmt} {pos : Pos} {g : TG} {dg : TDG} {w : TS} {s : TDS}
theorem js_forT {x : Str} {p1 : Pos} (hc : X.calm = true) (i : Nat) (hg : JG X tg g dg) (hb : JSs X sts w s) (hN : X.N[i]? = some x := by rfl) (hv : Vis X.env.scope x := by first | exact Or.inl rfl | exact Or.inr (Or.inl rfl) | exact Or.inr (Or.inr rfl)) (hd : (x == ("__debug__" : Str)) = false := by decide)
    (hcd : (x == ("__classdict__" : Str)) = false := by decide) (hs : ∀ z, foldedSetIterable (.Name x p1) X.env z = pure z := by intro _; rfl) (hp : PassesOwn (model X.prog X.w) X.A X.env X.xe := by exact PassesOwn.never) :
    JS X (.For tg (.Name x p1) sts [] pos) (tLock (tFor (iKeys (tVar i)) g w)) (sForT i dg s) := by
  refine ⟨ps_lock (ps_for hp hc (pi_keys (pe_var hN hv hd hcd)) hg.p hb.p hs), ?_⟩
  intro B H0 hX σ δ H Hs D0 D' R ⟨p, kvs, ex, q⟩ k
  obtain ⟨o, e1, hp', r, eo, hkv⟩ := own_atA R ex
  subst eo
  refine ⟨p, .dT r, hp', trivial, fun od => ?_⟩
  have R1 := R.changeA (a' := apLT od r kvs) ex ⟨rfl, hkv⟩
  have q1 := q od r
  refine ⟨.ref p, e1, p, od, rfl, .inr ⟨r, upd_same, ?_⟩⟩
  refine ⟨fun j m σ' H' => m + j = kvs.length ∧ ∃ δ' Hs', Rep X.K B H0 σ' δ' H' Hs' ∧ Ex Hs Hs' ∧ δ'[i]? = some (.ow p (OD.one (apLT od r kvs))) ∧ sForGoL i (.ow p (OD.one (apLT od r kvs))) dg s (fun δ' => D0.nx (δ'.set i (.ow p (OD.dt kvs)))) ((kvs.map fun kv => PyData.tuple (kv.1.map keyD)).drop j) δ',
    ⟨kvs.length, by omega, _, Hs, R1, Ex.refl _, List.getElem?_set_self (lt_of_get ex), by rw [List.drop_zero]; exact q1⟩, ?_⟩
  rintro j m σ' H' ⟨hm, δ', Hs', R', e', hl, q'⟩
  obtain ⟨o', e2, hp2, eo, hkv2⟩ := own_atA R' hl
  subst eo
  have hlen := hkv2.len
  by_cases hj : j < kvs.length
  · rw [List.drop_eq_getElem_cons (by rw [List.length_map]; exact hj)] at q'
    refine .inr ⟨⟨hp2, by omega⟩, fun σ2 H2 => ∃ δ2 Hs2, Rep X.K B H0 σ2 δ2 H2 Hs2 ∧ Ex Hs Hs2 ∧ δ2[i]? = some (.ow p (OD.one (apLT od r kvs))) ∧ sForGoL i (.ow p (OD.one (apLT od r kvs))) dg s (fun δ' => D0.nx (δ'.set i (.ow p (OD.dt kvs)))) ((kvs.map fun kv => PyData.tuple (kv.1.map keyD)).drop (j + 1)) δ2,
      fun σ2 H2 ⟨δ2, Hs2, R2, e2, l2, q2⟩ => ⟨m - 1, by omega, by omega, δ2, Hs2, R2, e2, l2, q2⟩, fun z H2 ⟨eH, key, v, qa, hr, ez, hq⟩ => ?_⟩
    subst eH ez
    obtain ⟨Hs2, x2, hq2⟩ := PExt.adopt R'.ex hq
    obtain ⟨d, hd'⟩ := hkv2.key_at hr
    have hkey : (kvs.map fun kv => PyData.tuple (kv.1.map keyD))[j]'(by rw [List.length_map]; exact hj) = .tuple (key.map keyD) := by
      rw [List.getElem_map]
      rw [List.getElem?_eq_getElem hj] at hd'
      rw [Option.some.inj hd']
    rw [hkey] at q'
    refine hg.s (R'.ext x2) (.tup (.inl (.inl hq2)) (dp_keys key)) q' fun σ3 δ3 R3 q3 => ?_
    have e3 := e'.trans x2.s
    exact hb.s R3 q3 ⟨fun σ4 δ4 H4 Hs4 R4 e4 q4 => ⟨δ4, Hs4, R4, e3.trans e4, q4⟩, fun _ _ _ _ _ _ _ _ _ z => z.elim, fun _ _ _ _ _ _ _ _ _ _ _ _ z => z.elim, fun _ _ _ _ _ _ _ _ _ _ _ _ z => z.elim, fun _ _ _ _ _ _ _ _ _ _ z => z.elim, fun _ _ _ _ _ _ z => z.elim, fun σ4 δ4 H4 Hs4 R4 e4 q4 => ⟨δ4, Hs4, R4, e3.trans e4, q4⟩⟩
  · rw [List.drop_eq_nil_of_le (by rw [List.length_map]; omega)] at q'
    exact .inl ⟨⟨hp2, by omega⟩, hp2, k.nx _ _ _ _ (R'.changeA (a' := apT kvs) hl ⟨r, rfl, hkv2⟩) e' q'⟩
end
end EL
namespace EL
open PySem PySem.Spec PyProof.Rows L2
section
variable {X : Cy} {o i : Expr} {pos : Pos} {td ty : TE}
def tDGetP (K : PySem.W.Frag) (td ty : TE) : TE := fun σ H Q => td σ H fun x H1 => ty σ H1 fun y H2 => ∃ a v, x = .ref a ∧ ((∃ kvs k, Rd H2 a (.dK kvs) ∧ y = kV k ∧ valV kvs k = some v) ∨ ∃ kvs ks b, Rd H2 a (.dT kvs) ∧ y = .ref b ∧ SqT K H2 b (ks.map kV) ∧ valV kvs ks = some v) ∧ Q v H2
theorem pe_dgetP (hu : X.A.units + 1 < cLine) (ho : PE X o td) (hi : PE X i ty) (hs : NoSl i) : PE X (.Subscript o i pos) (tDGetP X.K td ty) := by
  refine ⟨fun pins s σ H Q I h => ?_⟩
  refine subD_of PySem.F.slot_dict_getitem.lookup hs (thn (ho.run pins s σ H _ I h) fun u s1 ⟨x, H1, I1, rx, q1⟩ => thn (hi.run pins s1 σ H1 _ I1 q1) fun iv s2 ⟨y, H2, I2, ry, a, v, ex, g, q2⟩ => ?_)
  subst ex
  obtain rfl : u = Value.ref a := rx
  rcases g with ⟨kvs, k, e, ey, l⟩ | ⟨kvs, ks, b, e, ey, hb, l⟩
  · have g : DGet H2 a y (some v) := .inl ⟨kvs, k, e, ey, l.symm⟩
    exact ⟨dict_typeIs I2 g, d_getItem hu I2 g ry fun w' s3 I3 rw' => ⟨v, H2, I3, rw', q2⟩⟩
  · subst ey
    obtain rfl : iv = Value.ref b := ry
    obtain ⟨z, hd, xs, rel, dd⟩ := dt_rd I2.hok e
    obtain ⟨w', hw, rw'⟩ := RelO.some_of (v := v) (o := (atKey xs ks).map (·.2)) (by rw [← l]; exact rel.val ks)
    obtain ⟨p, hp, hp2⟩ := Option.map_eq_some_iff.mp hw
    obtain ⟨its, rv, p1, _⟩ := I2.tuple hb
    obtain ⟨o1, h1, h2, n, h3⟩ := (show s2.heap.IsTuple b its.toArray from p1)
    refine ⟨dd.typeIs, wpAny_getItem_heap (tupleKind_room_in1 hu) (a := b) ⟨o1, its.toArray, n, h1, h2, h3, by simpa using items_are rv⟩ dd hp ?_⟩
    rw [hp2]
    exact ⟨v, H2, I2.tok _, rw', q2⟩
end
def LkK (s : SD) (p : Addr) (kvs : List (Key × D)) : Prop := s = .ow p (OD.dk kvs) ∨ ∃ od r, s = .ow p (OD.one (apLK od r kvs))
def LkT (s : SD) (p : Addr) (kvs : List (List Key × D)) : Prop := s = .ow p (OD.dt kvs) ∨ ∃ od r, s = .ow p (OD.one (apLT od r kvs))
theorem lkK_at {K : PySem.W.Frag} {B H0 H Hs : Hp} {σ : L2.St} {δ : Dl} {i : Nat} {s : SD} {p : Addr} {kvs : List (Key × D)} (R : Rep K B H0 σ δ H Hs) (h : δ[i]? = some s) (l : LkK s p kvs) : ∃ r, σ[i]? = some (some (.ref p)) ∧ Rd H p (.dK r) ∧ KVs K Hs r kvs := by
  rcases l with rfl | ⟨od, r, rfl⟩
  · obtain ⟨o, e, hp, r, eo, hk⟩ := own_atA R h
    subst eo
    exact ⟨r, e, .inl hp, hk⟩
  · obtain ⟨o, e, hp, eo, hk⟩ := own_atA R h
    subst eo
    exact ⟨r, e, .inr ⟨od, hp⟩, hk⟩
theorem lkT_at {K : PySem.W.Frag} {B H0 H Hs : Hp} {σ : L2.St} {δ : Dl} {i : Nat} {s : SD} {p : Addr} {kvs : List (List Key × D)} (R : Rep K B H0 σ δ H Hs) (h : δ[i]? = some s) (l : LkT s p kvs) : ∃ r, σ[i]? = some (some (.ref p)) ∧ Rd H p (.dT r) ∧ KVs K Hs r kvs := by
  rcases l with rfl | ⟨od, r, rfl⟩
  · obtain ⟨o, e, hp, r, eo, hk⟩ := own_atA R h
    subst eo
    exact ⟨r, e, .inl hp, hk⟩
  · obtain ⟨o, e, hp, eo, hk⟩ := own_atA R h
    subst eo
    exact ⟨r, e, .inr ⟨od, hp⟩, hk⟩
def dLook (i : Nat) (tj : TDE) : TDE := fun δ Q => (∃ p a, δ[i]? = some (.ow p (OD.one a))) ∧ tj δ fun d δ' => ∃ p s z, δ'[i]? = some s ∧ ((∃ kvs k, LkK s p kvs ∧ keyOf d = some k ∧ getK kvs k = some z) ∨ ∃ kvs ks ds, LkT s p kvs ∧ d = .tuple ds ∧ keysOf ds = some ks ∧ getK kvs ks = some z) ∧ Q z δ'
section
variable {X : Cy} {j elt : Expr} {pos : Pos} {uj : TE} {tj te : TDE} {scope : Scope} {uf : BkT TE}
theorem je_look {x : Str} {p1 : Pos} (hu : X.A.units + 200 < cLine) (i : Nat) (hj : JE X j uj tj) (hN : X.N[i]? = some x := by rfl) (hv : Vis X.env.scope x := by first | exact Or.inl rfl | exact Or.inr (Or.inl rfl) | exact Or.inr (Or.inr rfl)) (hd : (x == ("__debug__" : Str)) = false := by decide)
    (hcd : (x == ("__classdict__" : Str)) = false := by decide) (hs : NoSl j := by first | exact nosl _ | exact fun _ _ => rfl) : JE X (.Subscript (.Name x p1) j pos) (tDGetP X.K (tVar i) uj) (dLook i tj) := by
  refine ⟨pe_dgetP (by omega) (pe_var hN hv hd hcd) hj.p hs, fun R ⟨⟨p, a, ex⟩, q⟩ k => ?_⟩
  obtain ⟨o, e1, hp, ha⟩ := own_atA R ex
  refine ⟨_, e1, hj.s R q fun v d δ' H' Hs' R1 x1 r ⟨p', s, z, ey, hz, q1⟩ => ?_⟩
  rcases hz with ⟨kvs, key, l, ek, hz⟩ | ⟨kvs, ks, ds, l, ed, ek, hz⟩
  · obtain ⟨rr, e2, hr, hkv⟩ := lkK_at R1 ey l
    rw [e1] at e2
    cases e2
    obtain ⟨w, hw, rw'⟩ := hkv.get hz
    exact ⟨_, w, rfl, .inl ⟨rr, key, hr, key_dp r ek, hw⟩, k _ _ _ _ _ R1 x1 rw' q1⟩
  · subst ed
    obtain ⟨rr, e2, hr, hkv⟩ := lkT_at R1 ey l
    rw [e1] at e2
    cases e2
    obtain ⟨w, hw, rw'⟩ := hkv.get hz
    cases r with
    | @tup b vs _ h1 a1 =>
      have := keys_dp a1 ek
      subst this
      exact ⟨_, w, rfl, .inr ⟨rr, ks, b, hr, rfl, R1.ex.st h1, hw⟩, k _ _ _ _ _ R1 x1 rw' q1⟩
def dLcK (i j : Nat) (te : TDE) : TDL := fun δ Q => (∃ s, δ[j]? = some s ∧ isOw s = false) ∧ ∃ p kvs, δ[i]? = some (.ow p (OD.dk kvs)) ∧ kvs.length ≤ 100000 ∧ ∃ f : Key → D,
  (∀ od r, ∀ k ∈ kvs.map (·.1), ∀ N : D → Dl → Prop, N (f k) ((δ.set i (.ow p (OD.one (apLK od r kvs)))).set j (.dt (keyD k))) → te ((δ.set i (.ow p (OD.one (apLK od r kvs)))).set j (.dt (keyD k))) N) ∧ Q (kvs.map fun kv => f kv.1) δ
theorem sim_lcK {K : ZX} {i j : Nat} {ue : TE} (he : SimE K ue te) : SimN K (tLockE (tLc (iKeys (tVar i)) (gName j) tYes ue [j])) (dLcK i j te) := by
  intro B H0 hX σ δ H Hs Q Q' R ⟨⟨s, hs, hso⟩, p, kvs, ex, hlen, f, step, q⟩ k
  obtain ⟨o, e1, hp', r, eo, hkv⟩ := own_atA R ex
  subst eo
  refine ⟨p, .dK r, hp', trivial, fun od => ?_⟩
  have R1 := R.changeA (a' := apLK od r kvs) ex ⟨rfl, hkv⟩
  have hij : i ≠ j := fun z => by
    subst z
    rw [ex] at hs
    cases hs
    cases hso
  have hok : OkSl (δ.set i (.ow p (OD.one (apLK od r kvs)))) [j] := fun v hv => by
    rcases List.mem_cons.mp hv with rfl | hv
    · exact ⟨s, by rw [List.getElem?_set_ne hij]; exact hs, hso⟩
    · simp at hv
  have hl : (δ.set i (.ow p (OD.one (apLK od r kvs))))[i]? = some (.ow p (OD.one (apLK od r kvs))) := List.getElem?_set_self (lt_of_get ex)
  refine ⟨.ref p, e1, p, od, rfl, .inl ⟨r, upd_same, fun D hD => ?_⟩⟩
  have hB : B D = none := R1.base.none hD
  have hH0 : H0 D = none := R1.frz.none (R1.ex.none hD)
  refine ⟨fun n m H' => m + n = kvs.length ∧ ∃ Hs' vacc, Rep K (upd B D (.lst vacc)) H0 σ (δ.set i (.ow p (OD.one (apLK od r kvs)))) H' Hs' ∧ Ex Hs Hs' ∧ DpAll K Hs' vacc ((kvs.take n).map fun kv => f kv.1), ⟨kvs.length, by omega, Hs, [], R1.hide hD, Ex.refl _, .nil⟩, ?_⟩
  rintro n m H' ⟨hm, Hs', vacc, R', e', ha⟩
  obtain ⟨o', e2, hp2, eo, hkv2⟩ := own_atA R' hl
  subst eo
  have hlr := hkv2.len
  by_cases hn : n < kvs.length
  · refine .inr ⟨⟨hp2, by omega⟩, fun H2 => ∃ Hs2 vacc, Rep K (upd B D (.lst vacc)) H0 σ (δ.set i (.ow p (OD.one (apLK od r kvs)))) H2 Hs2 ∧ Ex Hs Hs2 ∧ DpAll K Hs2 vacc ((kvs.take (n + 1)).map fun kv => f kv.1), fun H2 ⟨Hs2, vacc2, R2, e2, a2⟩ => ⟨m - 1, by omega, by omega, Hs2, vacc2, R2, e2, a2⟩, fun z H2 ⟨eH, key, v, hr, ez⟩ => ?_⟩
    subst eH ez
    obtain ⟨d, hd'⟩ := hkv2.key_at hr
    have R3 := (R'.wipe [j]).set (dp_key key) j
    have hw : L2.wipe ((L2.wipe σ [j]).set j (some (kV key))) [j] = L2.wipe σ [j] := wipe_own (by simp)
    refine ⟨hw, ?_⟩
    show ue _ _ _
    have ed : (wipeD (δ.set i (.ow p (OD.one (apLK od r kvs)))) [j]).set j (.dt (keyD key)) = (δ.set i (.ow p (OD.one (apLK od r kvs)))).set j (.dt (keyD key)) := by
      show (((δ.set i _).set j .un).set j _) = _
      rw [List.set_set]
    rw [ed] at R3
    haveI := hX.hide (o := .lst vacc) hB
    refine he R3 (step od r key (List.mem_map.mpr ⟨(key, d), List.mem_of_getElem? hd', rfl⟩) (fun d' δ' => d' = f key ∧ δ' = (δ.set i (.ow p (OD.one (apLK od r kvs)))).set j (.dt (keyD key))) ⟨rfl, rfl⟩) fun w d' δ5 H5 Hs5 R5 e5 r5 ⟨h1, h2⟩ => ?_
    subst h1 h2
    have R6 := R'.mix R5 e5 [j] hok
    rw [mixS_eq hw] at R6
    have em : mixD ((δ.set i (.ow p (OD.one (apLK od r kvs)))).set j (.dt (keyD key))) (δ.set i (.ow p (OD.one (apLK od r kvs)))) [j] = δ.set i (.ow p (OD.one (apLK od r kvs))) := by
      show ((δ.set i _).set j _).set j (((δ.set i _)[j]?).getD .un) = _
      obtain ⟨s', hs', _⟩ := hok j List.mem_cons_self
      rw [List.set_set, hs']
      exact set_self hs'
    rw [em] at R6
    refine ⟨vacc, R5.at_p, ?_, Hs5, vacc ++ [w], R6.hset hH0, e'.trans e5, ?_⟩
    · rw [dpAll_len ha, List.length_map, List.length_take]
      exact lt_line (by omega)
    · rw [List.take_add_one, hd', List.map_append]
      exact dpAll_app (dpAll_mono e5 ha) (.cons r5 .nil)
  · rw [List.take_of_length_le (by omega)] at ha
    have R7 := R'.changeA (a' := apK kvs) hl ⟨r, rfl, hkv2⟩
    rw [List.set_set, set_self ex] at R7
    exact .inl ⟨⟨hp2, by omega⟩, hp2, k _ _ _ _ _ _ R7 hB hH0 e' ha q⟩
end
end EL
namespace EL
open PySem PySem.Spec PyProof.Rows L2
def permL {α : Type} (ix : List Nat) (l : List α) : List α := ix.filterMap fun j => l[j]?
def gK {α : Type} (n : Nat) (ix : List Nat) (us ws : List α) : List α := if us.length = 0 ∧ ws.length = n then permL ix ws else []
theorem permL_rel {α β : Type} {R : α → β → Prop} : ∀ (ix : List Nat) {l : List α} {m : List β}, l.length = m.length → (∀ (j : Nat) (a : α) (b : β), l[j]? = some a → m[j]? = some b → R a b) → (permL ix l).length = (permL ix m).length ∧ ∀ (k : Nat) (a : α) (b : β), (permL ix l)[k]? = some a → (permL ix m)[k]? = some b → R a b
  | [], l, m, hl, h => ⟨rfl, fun k a b h1 => by simp [permL] at h1⟩
  | j :: ix, l, m, hl, h => by
    obtain ⟨h1, h2⟩ := permL_rel ix hl h
    unfold permL at h1 h2 ⊢
    by_cases hj : j < l.length
    · rw [List.filterMap_cons, List.getElem?_eq_getElem hj, List.filterMap_cons, List.getElem?_eq_getElem (show j < m.length by omega)]
      refine ⟨by simp only [List.length_cons]; omega, fun k a b ha hb => ?_⟩
      cases k with
      | zero =>
        cases ha
        cases hb
        exact h j _ _ (List.getElem?_eq_getElem hj) (List.getElem?_eq_getElem (by omega))
      | succ k => exact h2 k a b ha hb
    · rw [List.filterMap_cons, List.getElem?_eq_none (by omega), List.filterMap_cons, List.getElem?_eq_none (by omega)]
      exact ⟨h1, h2⟩
theorem vals_of_get : ∀ {vs : List V} {us : List Value}, vs.length = us.length → (∀ (k : Nat) (a : V) (b : Value), vs[k]? = some a → us[k]? = some b → RelV a b) → Vals vs us
  | [], [], _, _ => .nil
  | [], _ :: _, h, _ => by simp at h
  | _ :: _, [], h, _ => by simp at h
  | v :: vs, u :: us, h, q => .cons (q 0 v u rfl rfl) (vals_of_get (by simpa using h) fun k a b h1 h2 => q (k + 1) a b h1 h2)
theorem ents_of_get {K : PySem.W.Frag} {Hs : Hp} {σ : L2.St} : ∀ {vs : List V} {es : List Ent}, vs.length = es.length → (∀ (k : Nat) (a : V) (b : Ent), vs[k]? = some a → es[k]? = some b → EntOk K Hs σ a b) → Ents K Hs σ vs es
  | [], [], _, _ => .nil
  | [], _ :: _, h, _ => by simp at h
  | _ :: _, [], h, _ => by simp at h
  | v :: vs, u :: us, h, q => .cons (q 0 v u rfl rfl) (ents_of_get (by simpa using h) fun k a b h1 h2 => q (k + 1) a b h1 h2)
theorem Ents.perm {K : PySem.W.Frag} {Hs : Hp} {σ : L2.St} {vs : List V} {es : List Ent} (ix : List Nat) (h : Ents K Hs σ vs es) : Ents K Hs σ (permL ix vs) (permL ix es) := by
  obtain ⟨h1, h2⟩ := permL_rel (R := fun a b => EntOk K Hs σ a b) ix h.len fun j a b ha hb => by
    obtain ⟨v, hv, r⟩ := h.get hb
    rw [ha] at hv
    cases hv
    exact r
  exact ents_of_get h1 h2
theorem vals_perm {vs : List V} {us : List Value} (ix : List Nat) (h : Vals vs us) : Vals (permL ix vs) (permL ix us) := by
  obtain ⟨h1, h2⟩ := permL_rel (R := RelV) ix h.length fun j a b ha hb => by
    obtain ⟨x, hx, r⟩ := vals_get h hb
    rw [ha] at hx
    cases hx
    exact r
  exact vals_of_get h1 h2
theorem Fun_kb {K : PySem.W.Frag} {x qual : Str} {st : Stmt} {f : Addr} {fd : FuncData} {ps ks : List Str} {ix : List Nat} (F : Fun K x qual st f fd) (h0 : ps.length ≠ 0)
    (h : ∀ (kV doc pm : Value) (an : Option Addr) (cdv ct : Value) (ws : List Value), ws.length = ks.length → bindArgs (PySem.W.fnOf x qual (defArgs st) (defBody st) (defScope st) .none kV doc pm an cdv ct) ⟨[], ks.zip ws⟩ = pure (ps.zip (permL ix ws))) : KBinds K fd ps ks (gK ks.length ix) (gK ks.length ix) where
  to := fun s us ws _ hl => by
    obtain ⟨oc, od, kV, doc, pm, an, cdv, ct, osl, rfl, lk, hcd⟩ := F.ex
    unfold gK at hl ⊢
    by_cases hc : us.length = 0 ∧ ws.length = ks.length
    · rw [if_pos hc] at hl ⊢
      obtain rfl : us = [] := List.length_eq_zero_iff.mp hc.1
      exact .of_eq (h _ _ _ _ _ _ _ hc.2)
    · rw [if_neg hc] at hl
      exact absurd hl.symm h0
  rel := fun {vs us zs ws} r rz => by
    unfold gK
    rw [r.length, rz.length]
    split
    · exact vals_perm ix rz
    · exact .nil
theorem pe_callK0 {X : Cy} {CX : CXT} {k : Nat} {f : Addr} {fd : FuncData} {ps ks : List Str} {sp : Sp} {E : XK} {x : Str} {p pos : Pos} {kws : List Keyword} {tk : TA} {g : List Value → List Value → List Value} {gV : List V → List V → List V}
    (F : FnOk X.prog X.w X.K X.mg X.base CX k f fd ps sp) (hr : Room k X.A) (hg : Gl X x) (hm : X.mg x = some (.ref f)) (hk : PySem.W.keepIn X.K (.ref f) = true) (hb : KBinds X.K fd ps ks g gV) (hx : Passes CX X E) (hkw : PK X kws tk)
    (hall : (backToKw pos (keywordEach kws X.env)).all (·.1.isSome) = true := by rfl) (hks : (backToKw pos (keywordEach kws X.env)).filterMap (·.1) = ks := by rfl) (hdb : (x == ("__debug__" : Str)) = false := by decide)
    (hpl : ((backTo pos (starEach [] X.env)).any (·.1) || (backToKw pos (keywordEach kws X.env)).any (·.1.isNone)) = false := by rfl) : PE X (.Call (.Name x p) [] kws pos) (tCallK sp gV E tNil tk) := by
  refine ⟨fun pins s σ H Q I h => ?_⟩
  refine wpAny_Call_Name_kw (ld_glob I hg hm ?_ hdb)
  refine PySem.W.callWith_KW0 (h₀ := X.base) I.ok.mod.kin hk hall (thn (hkw.run pos pins s σ H _ I h) fun ws s2 ⟨zs, H2, I2, rz, q2⟩ => ⟨I2.kIn, ?_⟩) hpl
  rw [hks]
  exact run_fnk F hr hb hx I2 .nil rz q2
structure JK (X : Cy) (kws : List Keyword) (u : TA) (t : TDC) : Prop where
  p : PK X kws u
  s : SimCl X.z u t
section
variable {X : Cy} {e elt : Expr} {pos kpos : Pos} {kws : List Keyword} {t te : TDE} {ue : TE} {us ur : TA} {tc : TDC} {nm : Option Str} {scope : Scope} {uf : BkT TE}
theorem jk_nil : JK X [] tNil cNil := ⟨pk_nil, fun R h k => k _ _ _ _ _ R (Ex.refl _) .nil h⟩
theorem jk_cons (ha : JE X e ue t) (hr : JK X kws ur tc) : JK X (⟨nm, e, kpos⟩ :: kws) (tCons ue ur) (cCons t tc) :=
  ⟨pk_cons ha.p hr.p, fun R h k => ha.s R h fun v d δ1 H1 Hs1 R1 e1 r1 h1 => hr.s R1 h1 fun vs es δ2 H2 Hs2 R2 e2 r2 h2 => k _ _ _ _ _ R2 (e1.trans e2) (Ents.cons (e := .inr d) (dp_mono e2 r1) r2) h2⟩
theorem jk_own (i : Nat) {x : Str} {p : Pos} (hr : JK X kws ur tc) (hN : X.N[i]? = some x := by rfl) (hv : Vis X.env.scope x := by first | exact Or.inl rfl | exact Or.inr (Or.inl rfl) | exact Or.inr (Or.inr rfl)) (hd : (x == ("__debug__" : Str)) = false := by decide)
    (hcd : (x == ("__classdict__" : Str)) = false := by decide) : JK X (⟨nm, .Name x p, kpos⟩ :: kws) (tCons (tVar i) ur) (cLendT i tc) :=
  ⟨pk_cons (pe_var hN hv hd hcd) hr.p, fun {B H0} [hX : XOk _ _ _] {σ δ H Hs Q Q'} R ⟨⟨q, o, ho⟩, h⟩ k => by
    obtain ⟨fps, F⟩ := R.sl
    obtain ⟨y, ey, r⟩ := F.sl i _ ho
    cases y with
    | none => exact r.elim
    | some v => exact ⟨v, ey, hr.s R h fun vs es δ2 H2 Hs2 R2 e2 r2 h2 => k _ _ _ _ _ R2 e2 (Ents.cons (e := .inl i) ey r2) h2⟩⟩
def cPerm (n : Nat) (ix : List Nat) (u : TDC) : TDC := fun δ Q => u δ fun es δ' => es.length = n ∧ Q (permL ix es) δ'
def tPerm (n : Nat) (ix : List Nat) (u : TA) : TA := fun σ H Q => u σ H fun vs H' => Q (gK n ix [] vs) H'
theorem je_callKw {x : Str} {p : Pos} {f : Addr} {fd : FuncData} {ps ks : List Str} {n : Nat} {ix : List Nat} {dsp : DSp} {K' : PySem.W.Frag} (F : FnOk X.prog X.w X.K X.mg X.base (L2.CX X.prog X.w) n f fd ps (spOf K' dsp)) (hr : Room n X.A) (hm : X.mg x = some (.ref f)) (hk : PySem.W.keepIn X.K (.ref f) = true) (hb : KBinds X.K fd ps ks (gK ks.length ix) (gK ks.length ix)) (ha : JK X kws us tc)
    (hK : X.K = K' := by rfl) (hg : Gl X x := by rfl) (hdb : (x == ("__debug__" : Str)) = false := by decide)
    (hall : (backToKw pos (keywordEach kws X.env)).all (·.1.isSome) = true := by rfl) (hks : (backToKw pos (keywordEach kws X.env)).filterMap (·.1) = ks := by rfl)
    (hpl : ((backTo pos (starEach [] X.env)).any (·.1) || (backToKw pos (keywordEach kws X.env)).any (·.1.isNone)) = false := by rfl) :
    JE X (.Call (.Name x p) [] kws pos) (tCallK (spOf K' dsp) (gK ks.length ix) E0 tNil us) (dCallF dsp (cPerm ks.length ix tc)) := by
  subst hK
  refine ⟨pe_callK0 F hr hg hm hk hb pass00 ha.p hall hks hdb hpl, ?_⟩
  have e : tCallK (spOf X.K dsp) (gK ks.length ix) E0 tNil us = tCall (spOf X.K dsp) [] E0 (tPerm ks.length ix us) := by
    funext σ H Q
    show us σ H (fun zs H2 => spOf X.K dsp (gK ks.length ix [] zs) H2 Q E0) = us σ H (fun zs H2 => spOf X.K dsp (gK ks.length ix [] zs ++ []) H2 Q E0)
    simp only [List.append_nil]
  rw [e]
  have hs : SimCl X.z (tPerm ks.length ix us) (cPerm ks.length ix tc) := fun R h k => ha.s R h fun vs es δ' H' Hs' R' x r ⟨hl, q⟩ => by
    have eg : gK ks.length ix [] vs = permL ix vs := by
      unfold gK
      rw [if_pos ⟨rfl, by rw [r.len]; exact hl⟩]
    show _
    rw [eg]
    exact k _ _ _ _ _ R' x (r.perm ix) q
  intro B H0 hX σ δ H Hs Q Q' R h k
  exact sim_callF hs R h k
theorem jn_lcK {x y : Str} {p1 p2 : Pos} (hc : X.calm = true) (hN : X.N.Nodup) (i j : Nat) (ok : BlkOk X.N X.env.scope scope [(y, j)])
    (hg : ∀ (s : Shared) (H : Hp) (C : Addr) (cl : List (Str × Addr)) (fp : List Addr), PG (Bk X s H scope C cl fp) (.Name y p2) (gName j))
    (he : ∀ (s : Shared) (H : Hp) (C : Addr) (cl : List (Str × Addr)) (fp : List Addr), JE (Bk X s H scope C cl fp) elt (uf s H C cl fp) te)
    (hu : ∀ (s : Shared) (H : Hp) (C : Addr) (cl : List (Str × Addr)) (fp : List Addr), uf s H C cl fp = uf X.s_0 X.H_0 0 [] [] := by intros; rfl)
    (hi : X.N[i]? = some x := by rfl) (hv : Vis X.env.scope x := by first | exact Or.inl rfl | exact Or.inr (Or.inl rfl) | exact Or.inr (Or.inr rfl)) (hd : (x == ("__debug__" : Str)) = false := by decide)
    (hcd : (x == ("__classdict__" : Str)) = false := by decide) (hs : ∀ z, foldedSetIterable (.Name x p1) X.env z = pure z := by intro _; rfl) :
    JN X (.ListComp elt [⟨.Name y p2, .Name x p1, [], 0⟩] scope pos) (tLockE (tLc (iKeys (tVar i)) (gName j) tYes (uf X.s_0 X.H_0 0 [] []) [j])) (dLcK i j te) :=
  ⟨pe_lock (pe_lc (own := [(y, j)]) hc hN (pi_keys (pe_var hi hv hd hcd)) ok hg (fun _ _ _ _ _ => pts_nil) (fun s H C cl fp => hu s H C cl fp ▸ (he s H C cl fp).p) hs), sim_lcK (he X.s_0 X.H_0 0 [] []).s⟩
end
def sOwnC (dsp : DSp) (i : Nat) (tc : TDC) : TDS := fun De δ => tc δ fun es δ' => (bors es).Nodup ∧ (∀ i ∈ bors es, i < δ'.length) ∧ i < δ'.length ∧ ∀ Q2 : RS → List SD → Prop, (∀ a as', as'.length = es.length → (∀ p, De.nx ((back es as' δ').set i (.ow p (OD.one a)))) → Q2 (.obj a) as') → dsp (es.map (resD δ')) Q2
section
variable {X : Cy} {e : Expr} {es : List Expr} {pos spos : Pos} {us : TA} {tc : TDC}
theorem js_ownC {i : Nat} {y : Str} {p' : Pos} {x : Str} {p : Pos} {f : Addr} {fd : FuncData} {ps : List Str} {n : Nat} {dsp : DSp} {K' : PySem.W.Frag} (F : FnOk X.prog X.w X.K X.mg X.base (L2.CX X.prog X.w) n f fd ps (spOf K' dsp)) (hr : Room n X.A) (hm : X.mg x = some (.ref f)) (hk : PySem.W.keepIn X.K (.ref f) = true) (hb : Binds X.K fd ps []) (ha : JC X (e :: es) us tc)
    (hN : X.N.Nodup) (hK : X.K = K' := by rfl) (hg : Gl X x := by rfl) (hdb : (x == ("__debug__" : Str)) = false := by decide)
    (he : starEach (e :: es) X.env = (false, eval e X.env) :: starEach es X.env := by rfl) (hpl : (backTo pos (starEach es X.env)).any (·.1) = false := by rfl)
    (hi : X.N[i]? = some y := by rfl) (hy : Loc X.env.scope y := by first | exact .inl rfl | exact .inr rfl) (hs : swapsWith (.Call (.Name x p) (e :: es) [] pos) (some (.Name y p')) spos.line X.env = pure false := by rfl)
    (hf : X.fn y = true ∨ X.env.scope.names.lookup y = some .local := by first | exact .inl rfl | exact .inr rfl | assumption) :
    JS X (.Assign [.Name y p'] (.Call (.Name x p) (e :: es) [] pos) spos) (tAsg (tCall (spOf K' dsp) [] E0 us) (gName i)) (sOwnC dsp i tc) := by
  subst hK
  refine ⟨ps_set hN hi hy (pe_call F hr hg hm hk hb .nil pass00 ha.p hdb he hpl) hs hf, fun {B H0} [hX : XOk _ _ _] {σ δ H Hs D0 D'} R q k => ?_⟩
  refine ha.s R q fun vs es δ1 H1 Hs1 R1 e1 r1 ⟨nd, hlt, hil, hd⟩ => ?_
  show spOf X.K dsp (vs ++ []) H1 _ E0
  rw [List.append_nil]
  refine call_core (Qr := fun r δ' => i < δ'.length ∧ ∃ a, r = .obj a ∧ ∀ p, D0.nx (δ'.set i (.ow p (OD.one a)))) R1 r1 nd hlt (fun Q2 h2 => hd Q2 fun a as' hl q => h2 _ _ hl ⟨by rw [back_len]; exact hil, a, rfl, q⟩) (fun _ _ _ _ _ _ _ ⟨_, _, z, _⟩ => nomatch z) fun v r δ' H' Hs' R' x _ _ ro _ _ ⟨hl, a, ed, q⟩ => ?_
  obtain ⟨p, o, ev, R2, hB, h0, ha⟩ := ro a ed
  subst ev
  exact k.nx _ _ _ _ (R2.ownA hB h0 ha hl) (e1.trans x) (q p)
end
end EL
namespace EL
open PySem PySem.Spec PyProof.Rows L2
section
variable {X : Cy} {c : Expr} {es : List Expr} {vt : TT} {tt : TDB} {ur : TA} {tc : TDC}
def cAny (i : Nat) (u : TDC) : TDC := fun δ Q => (∃ p o, δ[i]? = some (.ow p o) ∧ u δ fun es δ2 => Q (.inl i :: es) δ2) ∨ ∃ d, δ[i]? = some (.dt d) ∧ u δ fun es δ2 => Q (.inr d :: es) δ2
theorem jc_any (i : Nat) {x : Str} {p : Pos} (hr : JC X es ur tc) (hN : X.N[i]? = some x := by rfl) (hv : Vis X.env.scope x := by first | exact Or.inl rfl | exact Or.inr (Or.inl rfl) | exact Or.inr (Or.inr rfl)) (hd : (x == ("__debug__" : Str)) = false := by decide)
    (hcd : (x == ("__classdict__" : Str)) = false := by decide) (hs : starEach (.Name x p :: es) X.env = (false, eval (.Name x p) X.env) :: starEach es X.env := by rfl) : JC X (.Name x p :: es) (tCons (tVar i) ur) (cAny i tc) :=
  ⟨pa_cons (pe_var hN hv hd hcd) hr.p hs, fun {B H0} [hX : XOk _ _ _] {σ δ H Hs Q Q'} R h k => by
    rcases h with ⟨q, o, ho, h⟩ | ⟨d, hd, h⟩
    · obtain ⟨fps, F⟩ := R.sl
      obtain ⟨y, ey, r⟩ := F.sl i _ ho
      cases y with
      | none => exact r.elim
      | some v => exact ⟨v, ey, hr.s R h fun vs es δ2 H2 Hs2 R2 e2 r2 h2 => k _ _ _ _ _ R2 e2 (Ents.cons (e := .inl i) ey r2) h2⟩
    · obtain ⟨v, ev, r⟩ := R.get hd
      exact ⟨v, ev, hr.s R h fun vs es δ2 H2 Hs2 R2 e2 r2 h2 => k _ _ _ _ _ R2 e2 (Ents.cons (e := .inr d) (dp_mono e2 r) r2) h2⟩⟩
def cIfOwn (tt : TDB) (i : Nat) (u : TDC) : TDC := fun δ Q => tt δ fun b δ1 => if b = true then ∃ p o, δ1[i]? = some (.ow p o) ∧ u δ1 fun es δ2 => Q (.inl i :: es) δ2 else u δ1 fun es δ2 => Q (.inr (.list []) :: es) δ2
theorem jc_ifOwn (i : Nat) {x : Str} {p p2 p3 : Pos} (hc : JT X c vt tt) (hr : JC X es ur tc) (hN : X.N[i]? = some x := by rfl) (hv : Vis X.env.scope x := by first | exact Or.inl rfl | exact Or.inr (Or.inl rfl) | exact Or.inr (Or.inr rfl)) (hd : (x == ("__debug__" : Str)) = false := by decide)
    (hcd : (x == ("__classdict__" : Str)) = false := by decide) (hs : starEach (.IfExp c (.Name x p) (.List [] p2) p3 :: es) X.env = (false, eval (.IfExp c (.Name x p) (.List [] p2) p3) X.env) :: starEach es X.env := by rfl) :
    JC X (.IfExp c (.Name x p) (.List [] p2) p3 :: es) (tCons (tIf vt (tVar i) (tLst tNil)) ur) (cIfOwn tt i tc) :=
  ⟨pa_cons (pe_ifExp hc.p (pe_var hN hv hd hcd) (je_new (jn_lst ja_nil)).p) hr.p hs, fun {B H0} [hX : XOk _ _ _] {σ δ H Hs Q Q'} R h k => by
    refine hc.s R h fun b δ1 H1 Hs1 R1 e1 q1 => ?_
    cases b with
    | true =>
      rw [if_pos rfl] at q1 ⊢
      obtain ⟨q, o, ho, h⟩ := q1
      obtain ⟨fps, F⟩ := R1.sl
      obtain ⟨y, ey, r⟩ := F.sl i _ ho
      cases y with
      | none => exact r.elim
      | some v => exact ⟨v, ey, hr.s R1 h fun vs es δ2 H2 Hs2 R2 e2 r2 h2 => k _ _ _ _ _ R2 (e1.trans e2) (Ents.cons (e := .inl i) ey r2) h2⟩
    | false =>
      rw [if_neg Bool.false_ne_true] at q1 ⊢
      refine ⟨Nat.zero_le _, fun a ha => ?_⟩
      have X1 := PExt.new R1.ex (.lst []) ha
      have R2 := R1.ext X1
      exact hr.s R2 q1 fun vs es δ2 H2 Hs2 R3 e2 r2 h2 => k _ _ _ _ _ R3 ((e1.trans X1.s).trans e2) (Ents.cons (e := .inr (.list [])) (dp_mono e2 (.lst (.inl (.inl upd_same)) .nil)) r2) h2⟩
end
def Cst (K : PySem.W.Frag) (mg : Str → Option Value) (x : Str) (d : D) : Prop := ∃ v : V, ∃ u : Value, mg x = some u ∧ RelV v u ∧ ∀ H, Dp K H v d
theorem je_cst {X : Cy} {x : Str} {p : Pos} {d : D} (h : Cst X.K X.mg x d) (hg : Gl X x := by rfl) (hd : (x == ("__debug__" : Str)) = false := by decide) : JE X (.Name x p) (tC h.choose) (dC d) := by
  obtain ⟨u, hm, r, q⟩ := h.choose_spec
  exact ⟨pe_glob hg hm r hd, fun R z k => k _ _ _ _ _ R (Ex.refl _) (q _) z⟩
theorem cst_texts {K : PySem.W.Frag} {mg : Str → Option Value} {x : Str} {a : Addr} {o : Obj} {its : Array Value} {n : Nat} (ts : List Str) (hm : mg x = some (.ref a)) (hl : K.lookup a = some o) (hc : o.cls = .type "tuple") (hd : o.data = .seq its n) (hz : its.size ≤ sizeLine) (hv : Vals (ts.map V.str) its.toList) : Cst K mg x (.tuple (ts.map .str)) :=
  ⟨.ref a, .ref a, hm, rfl, fun H => .tup (.inr ⟨o, its, n, hl, hc, hd, hz, hv⟩) (by
    have : ∀ l : List Str, DpAll K H (l.map V.str) (l.map PyData.str) := by
      intro l
      induction l with
      | nil => exact .nil
      | cons x l ih => exact .cons (.str x) ih
    exact this ts)⟩
def dTruA (i : Nat) : TDB := fun δ Q => ∃ xs, ((∃ p, δ[i]? = some (.ow p (.lst xs))) ∨ δ[i]? = some (.dt (.list xs))) ∧ Q (!xs.isEmpty) δ
theorem jt_truA {X : Cy} {x : Str} {p1 : Pos} (i : Nat) (hN : X.N[i]? = some x := by rfl) (hv : Vis X.env.scope x := by first | exact Or.inl rfl | exact Or.inr (Or.inl rfl) | exact Or.inr (Or.inr rfl)) (hd : (x == ("__debug__" : Str)) = false := by decide)
    (hcd : (x == ("__classdict__" : Str)) = false := by decide) (he : ∀ whole, isTrue (.Name x p1) X.env whole = (do let v ← whole; standAt p1; holding [v] (truthy v)) := by intro _; rfl) : JT X (.Name x p1) (fun σ H Q => tVar i σ H fun x H' => ∃ k, TruV X.K x H' k ∧ Q k H') (dTruA i) := by
  refine ⟨pt_truth (pe_var hN hv hd hcd) he, fun R ⟨xs, ex, q⟩ k => ?_⟩
  have fin : ∀ {vs : List V}, vs.length = xs.length → (!vs.isEmpty) = !xs.isEmpty := fun {vs} h => by
    cases vs <;> cases xs <;> simp at h <;> rfl
  rcases ex with ⟨p, ex⟩ | ex
  · obtain ⟨vs, e1, hp, hx⟩ := own_at R ex
    refine ⟨_, e1, _, .inl ⟨vs, .inl (.inl hp), rfl⟩, ?_⟩
    rw [fin (dpAll_len hx)]
    exact k _ _ _ _ R (Ex.refl _) q
  · obtain ⟨v, ev, r⟩ := R.get ex
    cases r with
    | @lst a vs _ h1 a1 =>
      refine ⟨_, ev, _, .inl ⟨vs, R.ex.sl h1, rfl⟩, ?_⟩
      rw [fin (dpAll_len a1)]
      exact k _ _ _ _ R (Ex.refl _) q
end EL
namespace EL
open PySem PySem.Spec PyProof.Rows L2
abbrev TDP := Dl → (List (Key × D) → Dl → Prop) → Prop
def SimP (K : ZX) (trs : List (TE × TE)) (t : TDP) : Prop := ∀ {B H0 : Hp} [XOk K B H0] {σ : L2.St} {δ : Dl} {H Hs : Hp} {Q : List (Key × D) → Dl → Prop} {Q' : List (V × V) → Hp → Prop}, Rep K B H0 σ δ H Hs → t δ Q →
  (∀ (r : List (Key × V)) kvs δ' H' Hs', Rep K B H0 σ δ' H' Hs' → Ex Hs Hs' → KVs K Hs' r kvs → Q kvs δ' → Q' (r.map fun kv => (kV kv.1, kv.2)) H') → tPairs trs σ H Q'
structure JP (X : Cy) (pos : Pos) (keys : List (Option Expr)) (values : List Expr) (trs : List (TE × TE)) (t : TDP) : Prop where
  p : PPs X pos keys values trs
  s : SimP X.z trs t
def dpNil : TDP := fun δ Q => Q [] δ
def dpCons (x : Str) (t : TDE) (u : TDP) : TDP := fun δ Q => t δ fun d δ1 => u δ1 fun kvs δ2 => Q ((.inr x, d) :: kvs) δ2
def mergeD (kvs more : List (Key × D)) : List (Key × D) := more.foldl (fun acc kv => putD acc kv.1 kv.2) kvs
theorem KVs.merge {K : PySem.W.Frag} {Hs : Hp} : ∀ {m : List (Key × V)} {n : List (Key × D)} {r : List (Key × V)} {s : List (Key × D)}, KVs K Hs m n → KVs K Hs r s → KVs K Hs (mergeK r m) (mergeD s n)
  | _, _, _, _, .nil, h => h
  | _, _, _, _, .cons (k := kk) q t, h => by
    have z := KVs.merge t (h.put (k := kk) q)
    exact z
section
variable {X : Cy} {pos : Pos} {keys : List (Option Expr)} {values : List Expr} {trs : List (TE × TE)} {u : TDP} {v : Expr} {tv : TE} {t : TDE}
theorem jp_nil : JP X pos [] [] [] dpNil := ⟨pps_nil, fun R h k => k [] [] _ _ _ R (Ex.refl _) .nil h⟩
theorem jp_cons {x : Str} {k : Nat} {kp : Pos} (hv : JE X v tv t) (hr : JP X pos keys values trs u) : JP X pos (some (.Constant (.str x) k kp) :: keys) (v :: values) ((tC (.str x), tv) :: trs) (dpCons x t u) :=
  ⟨pps_cons pe_str hv.p hr.p, fun R h k => hv.s R h fun w d δ1 H1 Hs1 R1 e1 r1 q1 => hr.s R1 q1 fun r kvs δ2 H2 Hs2 R2 e2 r2 q2 => k ((.inr x, w) :: r) _ _ _ _ R2 (e1.trans e2) (.cons (dp_mono e2 r1) r2) q2⟩
def sDispK (i : Nat) (u : TDP) : TDS := fun De δ => u δ fun kvs δ' => kvs.length ≤ 15 ∧ i < δ'.length ∧ ∀ p, De.nx (δ'.set i (.ow p (OD.dk (mergeD [] kvs))))
theorem js_dispK {i : Nat} {x : Str} {p' dp : Pos} (hN : X.N.Nodup) (h : JP X dp keys values trs u) (hi : X.N[i]? = some x := by rfl) (hx : Loc X.env.scope x := by first | exact .inl rfl | exact .inr rfl) (hs : swapsWith (.Dict keys values dp) (some (.Name x p')) pos.line X.env = pure false := by rfl)
    (hf : X.fn x = true ∨ X.env.scope.names.lookup x = some .local := by first | exact .inl rfl | exact .inr rfl | assumption) (hall : keys.all (·.isSome) = true := by rfl) (hl : keys.length = values.length := by rfl) (h0 : keys ≠ [] := by exact fun z => nomatch z) (h15 : keys.length ≤ 15 := by decide) :
    JS X (.Assign [.Name x p'] (.Dict keys values dp) pos) (tAsg (tDisp trs) (gName i)) (sDispK i u) := ⟨ps_set hN hi hx (pe_disp h.p hall hl h0 h15) hs hf, fun {B H0} [hX : XOk _ _ _] {σ δ H Hs D0 D'} R q k p hp => by
  have hB : B p = none := R.base.none hp
  have hH0 : H0 p = none := R.frz.none (R.ex.none hp)
  haveI := hX.hide (o := .dK []) hB
  refine h.s (R.hide (o := .dK []) hp) q fun r kvs δ2 H2 Hs2 R2 e2 r2 ⟨h1, h2, q2⟩ => ⟨R2.at_p, r, rfl, by rw [r2.len]; exact h1, ?_⟩
  exact k.nx _ _ _ _ ((R2.hset (o' := .dK (mergeK [] r)) hH0).ownA (a := apK (mergeD [] kvs)) hB hH0 ⟨_, rfl, r2.merge .nil⟩ h2) e2 (q2 p)⟩
end
end EL
namespace EL
open PySem PySem.Spec PyProof.Rows L2
section
variable {K : PySem.W.Frag} {B H0 H Hs : Hp} {σ : L2.St} {δ : Dl} {p : Addr} {a : AP}
theorem Rep.pushUn (R : Rep K B H0 σ δ H Hs) (x : Option V) : Rep K B H0 (σ ++ [x]) (δ ++ [.un]) H Hs where
  len := by rw [List.length_append, List.length_append, R.len]; rfl
  ex := R.ex
  base := R.base
  frz := R.frz
  frs := R.frs
  sl := by
    obtain ⟨fps, F⟩ := R.sl
    refine ⟨fps, fun i s hs => ?_, fun i hi b => F.out i (by rw [List.length_append] at hi; omega) b, F.dj⟩
    by_cases hi : i < δ.length
    · rw [List.getElem?_append_left hi] at hs
      obtain ⟨y, e, r⟩ := F.sl i s hs
      exact ⟨y, by rw [List.getElem?_append_left (by rw [R.len]; exact hi)]; exact e, r⟩
    · have hl := lt_of_get hs
      rw [List.length_append] at hl
      have : i = δ.length := by simp at hl; omega
      subst this
      rw [List.getElem?_append_right (Nat.le_refl _), Nat.sub_self] at hs
      cases hs
      exact ⟨x, by rw [← R.len, List.getElem?_append_right (Nat.le_refl _), Nat.sub_self]; rfl, F.out _ (Nat.le_refl _)⟩
theorem Rep.push {o : HO} (R : Rep K (upd B p o) H0 σ δ H Hs) (hB : B p = none) (h0 : H0 p = none) (r : a.P K Hs o) : Rep K B H0 (σ ++ [some (.ref p)]) (δ ++ [.ow p (OD.one a)]) H Hs := by
  have R1 := (R.pushUn (some (.ref p))).ownA (a := a) hB h0 r (i := δ.length) (by rw [List.length_append]; simp)
  have e1 : (σ ++ [some (V.ref p)]).set δ.length (some (.ref p)) = σ ++ [some (.ref p)] := by
    rw [← R.len, List.set_append_right _ _ (Nat.le_refl _), Nat.sub_self]
    rfl
  have e2 : (δ ++ [SD.un]).set δ.length (.ow p (OD.one a)) = δ ++ [.ow p (OD.one a)] := by
    rw [List.set_append_right _ _ (Nat.le_refl _), Nat.sub_self]
    rfl
  rw [e1, e2] at R1
  exact R1
theorem Rep.pop {x : Option V} {s : SD} (R : Rep K B H0 (σ ++ [x]) (δ ++ [s]) H Hs) : Rep K B H0 σ δ H Hs where
  len := by
    have := R.len
    rw [List.length_append, List.length_append] at this
    simpa using this
  ex := R.ex
  base := R.base
  frz := R.frz
  frs := R.frs
  sl := by
    have hl := R.len
    rw [List.length_append, List.length_append] at hl
    obtain ⟨fps, F⟩ := R.sl
    refine ⟨fun i b => i < δ.length ∧ fps i b, fun i s hs => ?_, fun i hi b hb => by omega, fun i j b h1 h2 => F.dj i j b h1.2 h2.2⟩
    have hi := lt_of_get hs
    obtain ⟨y, e, r⟩ := F.sl i s (by rw [List.getElem?_append_left hi]; exact hs)
    rw [List.getElem?_append_left (by simp at hl; omega)] at e
    have eq : (fun b => i < δ.length ∧ fps i b) = fps i := funext fun b => propext ⟨fun z => z.2, fun z => ⟨hi, z⟩⟩
    rw [eq]
    exact ⟨y, e, r⟩
end
end EL
namespace EL
open PySem PySem.Spec PyProof.Rows L2
def tmpK (dsp : DSp) (es1 : List Ent) (tc2 : TDC) (a : AP) (δ3 : Dl) (Q : D → Dl → Prop) : Prop := ∀ p, tc2 δ3 fun es2 δ4 => (bors (es1 ++ .inl δ4.length :: es2)).Nodup ∧ (∀ i ∈ bors (es1 ++ .inl δ4.length :: es2), i < (δ4 ++ [SD.ow p (OD.one a)]).length) ∧
  ∀ Q2 : RS → List SD → Prop, (∀ d as', as'.length = (es1 ++ .inl δ4.length :: es2).length → Q d (back (es1 ++ .inl δ4.length :: es2) as' (δ4 ++ [SD.ow p (OD.one a)])).dropLast → Q2 (.dt d) as') → dsp ((es1 ++ .inl δ4.length :: es2).map (resD (δ4 ++ [SD.ow p (OD.one a)]))) Q2
def dCallTmp (dsp dspG : DSp) (tc1 tcG tc2 : TDC) : TDE := fun δ Q => tc1 δ fun es1 δ1 => tcG δ1 fun esG δ2 => (bors esG).Nodup ∧ (∀ i ∈ bors esG, i < δ2.length) ∧
  ∀ Q2 : RS → List SD → Prop, (∀ a as', as'.length = esG.length → tmpK dsp es1 tc2 a (back esG as' δ2) Q → Q2 (.obj a) as') → dspG (esG.map (resD δ2)) Q2
theorem ents_app {K : PySem.W.Frag} {Hs : Hp} {σ : L2.St} : ∀ {vs ws : List V} {es fs : List Ent}, Ents K Hs σ vs es → Ents K Hs σ ws fs → Ents K Hs σ (vs ++ ws) (es ++ fs)
  | _, _, _, _, .nil, h => h
  | _, _, _, _, .cons r t, h => .cons r (ents_app t h)
theorem ent_push {K : PySem.W.Frag} {Hs Hs' : Hp} {σ : L2.St} {x : Option V} (e : Ex Hs Hs') {v : V} : ∀ {en : Ent}, EntOk K Hs σ v en → EntOk K Hs' (σ ++ [x]) v en
  | .inl j, h => by
    have h : σ[j]? = some (some v) := h
    show (σ ++ [x])[j]? = some (some v)
    rw [List.getElem?_append_left (lt_of_get h)]
    exact h
  | .inr d, h => dp_mono e h
theorem ents_push {K : PySem.W.Frag} {Hs Hs' : Hp} {σ : L2.St} {x : Option V} (e : Ex Hs Hs') : ∀ {vs : List V} {es : List Ent}, Ents K Hs σ vs es → Ents K Hs' (σ ++ [x]) vs es
  | _, _, .nil => .nil
  | _, _, .cons r t => .cons (ent_push e r) (ents_push e t)
def tApp (u w : TA) : TA := fun σ H Q => u σ H fun vs H1 => w σ H1 fun ws H2 => Q (vs ++ ws) H2
theorem sim_callTmp {K : ZX} {dsp dspG : DSp} {us1 usG us2 : TA} {tc1 tcG tc2 : TDC} (h1 : SimCl K us1 tc1) (hG : SimCl K usG tcG) (h2 : SimCl K us2 tc2) : SimE K (tCall (spOf K dsp) [] E0 (tApp us1 (tCons (tCall (spOf K dspG) [] E0 usG) us2))) (dCallTmp dsp dspG tc1 tcG tc2) := by
  intro B H0 hX σ δ H Hs Q Q' R h k
  refine h1 R h fun vs1 es1 δ1 H1 Hs1 R1 e1 r1 hg => ?_
  refine hG R1 hg fun vsG esG δ2 H2 Hs2 R2 e2 r2 ⟨nd, hlt, hd⟩ => ?_
  show spOf K dspG (vsG ++ []) H2 _ E0
  rw [List.append_nil]
  refine call_core (Qr := fun r δ' => ∃ a, r = .obj a ∧ tmpK dsp es1 tc2 a δ' Q) R2 r2 nd hlt (fun Q2 h2 => hd Q2 fun a as' hl q => h2 _ _ hl ⟨a, rfl, q⟩) (fun _ _ _ _ _ _ _ ⟨_, z, _⟩ => nomatch z) fun v r δ3 H3 Hs3 R3 x3 _ _ ro _ _ ⟨a, ed, q⟩ => ?_
  obtain ⟨p, o, ev, R4, hB, h0, ha⟩ := ro a ed
  subst ev
  haveI := hX.hide (o := o) hB
  refine h2 R4 (q p) fun vs2 es2 δ4 H4 Hs4 R5 e5 r5 ⟨nd2, hlt2, hd2⟩ => ?_
  have R6 := R5.push (a := a) hB h0 (a.mono ha e5)
  have en : Ents K Hs4 (σ ++ [some (.ref p)]) (vs1 ++ .ref p :: vs2) (es1 ++ .inl δ4.length :: es2) := by
    refine ents_app (ents_push ((e2.trans x3).trans e5) r1) (.cons ?_ (ents_push (Ex.refl _) r5))
    show (σ ++ [some (V.ref p)])[δ4.length]? = _
    rw [← R5.len, List.getElem?_append_right (Nat.le_refl _), Nat.sub_self]
    rfl
  show spOf K dsp ((vs1 ++ .ref p :: vs2) ++ []) H4 Q' E0
  rw [List.append_nil]
  refine call_core (Qr := fun r δ' => ∃ d, r = .dt d ∧ Q d δ'.dropLast) R6 en nd2 hlt2 (fun Q2 h2 => hd2 Q2 fun d as' hl q => h2 _ _ hl ⟨d, rfl, q⟩) (fun _ _ _ _ _ _ _ ⟨_, z, _⟩ => nomatch z) fun v r δ7 H7 Hs7 R7 x7 rd _ _ _ _ ⟨d, ed, q⟩ => ?_
  have hne : δ7 ≠ [] := fun z => by
    have := R7.len
    rw [z] at this
    simp at this
  have ed7 : δ7 = δ7.dropLast ++ [δ7.getLast hne] := (List.dropLast_concat_getLast hne).symm
  rw [ed7] at R7
  exact k v d _ H7 Hs7 R7.pop ((((e1.trans e2).trans x3).trans e5).trans x7) (rd d ed) q
def argsOf : Option Expr → List Expr
  | some (.Call _ as _ _) => as
  | _ => []
section
variable {X : Cy} {e : Expr} {es : List Expr} {pos : Pos} {us us1 usG us2 : TA} {tc1 tcG tc2 : TDC}
theorem je_callTmp {x : Str} {p : Pos} {f : Addr} {fd : FuncData} {ps : List Str} {n : Nat} {dsp dspG : DSp} {K' : PySem.W.Frag} (F : FnOk X.prog X.w X.K X.mg X.base (L2.CX X.prog X.w) n f fd ps (spOf K' dsp)) (hr : Room n X.A) (hm : X.mg x = some (.ref f)) (hk : PySem.W.keepIn X.K (.ref f) = true) (hb : Binds X.K fd ps [])
    (ha : PA X (e :: es) us) (s1 : SimCl X.z us1 tc1) (sG : SimCl X.z usG tcG) (s2 : SimCl X.z us2 tc2) (hu : us = tApp us1 (tCons (tCall (spOf K' dspG) [] E0 usG) us2) := by rfl) (hK : X.K = K' := by rfl) (hg : Gl X x := by rfl) (hdb : (x == ("__debug__" : Str)) = false := by decide)
    (he : starEach (e :: es) X.env = (false, eval e X.env) :: starEach es X.env := by rfl) (hpl : (backTo pos (starEach es X.env)).any (·.1) = false := by rfl) :
    JE X (.Call (.Name x p) (e :: es) [] pos) (tCall (spOf K' dsp) [] E0 us) (dCallTmp dsp dspG tc1 tcG tc2) := by
  subst hK
  refine ⟨pe_call F hr hg hm hk hb .nil pass00 ha hdb he hpl, ?_⟩
  subst hu
  exact sim_callTmp s1 sG s2
theorem je_callTmpK {x : Str} {p : Pos} {f : Addr} {fd : FuncData} {ps : List Str} {n : Nat} {dsp dspG : DSp} {K' : PySem.W.Frag} (kk : Nat) (F : FnOk X.prog X.w X.K X.mg X.base (L2.CX X.prog X.w) n f fd ps (spOf K' dsp)) (hr : Room n X.A) (hm : X.mg x = some (.ref f)) (hk : PySem.W.keepIn X.K (.ref f) = true) (hb : Binds X.K fd ps [])
    (ha : PA X (e :: es) us) (j1 : JC X ((e :: es).take kk) us1 tc1) (jG : JC X (argsOf ((e :: es)[kk]?)) usG tcG) (j2 : JC X ((e :: es).drop (kk + 1)) us2 tc2) (hu : us = tApp us1 (tCons (tCall (spOf K' dspG) [] E0 usG) us2) := by rfl) (hK : X.K = K' := by rfl) (hg : Gl X x := by rfl) (hdb : (x == ("__debug__" : Str)) = false := by decide)
    (he : starEach (e :: es) X.env = (false, eval e X.env) :: starEach es X.env := by rfl) (hpl : (backTo pos (starEach es X.env)).any (·.1) = false := by rfl) :
    JE X (.Call (.Name x p) (e :: es) [] pos) (tCall (spOf K' dsp) [] E0 us) (dCallTmp dsp dspG tc1 tcG tc2) := je_callTmp F hr hm hk hb ha j1.s jG.s j2.s hu hK hg hdb he hpl
end
end EL
namespace EL
open PySem PySem.Spec PyProof.Rows L2
section
variable {X : Cy} {a : Expr} {pos : Pos} {ta : TDE} {ua : TE}
def isBD (c : Bool) : D → Bool
  | .bool b => b == c
  | _ => false
def tIsB (c : Bool) (ta : TE) : TE := fun σ H Q => ta σ H fun x H1 => Q (.bl (decide (x = .bl c))) H1
def tNotB (c : Bool) (ta : TE) : TE := fun σ H Q => ta σ H fun x H1 => Q (.bl (!decide (x = .bl c))) H1
theorem RelV.bool_iff {x : V} {v : Value} {c : Bool} (r : RelV x v) : plainIs v (.bool c) = true ∧ (v == Value.bool c) = decide (x = .bl c) := by
  cases x with
  | non => cases r; exact ⟨rfl, rfl⟩
  | bl b => cases r; exact ⟨rfl, by cases b <;> cases c <;> rfl⟩
  | int _ => obtain ⟨t, rfl⟩ := r; exact ⟨rfl, rfl⟩
  | str _ => obtain ⟨t, rfl⟩ := r; exact ⟨rfl, rfl⟩
  | byt _ => obtain ⟨t, rfl⟩ := r; exact ⟨rfl, rfl⟩
  | flt _ => obtain ⟨t, rfl⟩ := r; exact ⟨rfl, rfl⟩
  | ref _ => cases r; exact ⟨rfl, rfl⟩
  | ty _ => cases r; exact ⟨rfl, rfl⟩
theorem pc_isB {c : Bool} {j pos'} (ha : PE X a ua) : PC X .Is a (.Constant (.bool c) j pos') (tIsB c ua) := by
  refine ⟨fun pins s σ H Q I h => ?_⟩
  refine thn (ha.run pins s σ H _ I h) fun v s1 ⟨x, H1, I1, r1, q1⟩ => ?_
  obtain ⟨h1, h2⟩ := RelV.bool_iff (c := c) r1
  exact wpAny_Constant_bool (wpAny_is_plain h1 ⟨.bl _, H1, I1, by rw [h2]; rfl, q1⟩)
theorem pc_notB {c : Bool} {j pos'} (ha : PE X a ua) : PC X .IsNot a (.Constant (.bool c) j pos') (tNotB c ua) := by
  refine ⟨fun pins s σ H Q I h => ?_⟩
  refine thn (ha.run pins s σ H _ I h) fun v s1 ⟨x, H1, I1, r1, q1⟩ => ?_
  obtain ⟨h1, h2⟩ := RelV.bool_iff (c := c) r1
  exact wpAny_Constant_bool (wpAny_isNot_plain h1 ⟨.bl _, H1, I1, by rw [h2]; rfl, q1⟩)
def dIsB (c : Bool) (t : TDE) : TDE := fun δ Q => t δ fun d δ' => Q (.bool (isBD c d)) δ'
def dNotB (c : Bool) (t : TDE) : TDE := fun δ Q => t δ fun d δ' => Q (.bool (!isBD c d)) δ'
theorem isB_dec {K : PySem.W.Frag} {H : Hp} {v : V} {d : D} {c : Bool} (r : Dp K H v d) : decide (v = .bl c) = isBD c d := by
  cases r with
  | bl b => cases b <;> cases c <;> rfl
  | _ => rfl
theorem sim_isB {K : ZX} {c : Bool} (sa : SimE K ua ta) : SimE K (tIsB c ua) (dIsB c ta) := fun R h k => sa R h fun v d δ1 H1 Hs1 R1 e1 r1 q => by
  rw [isB_dec r1]
  exact k _ _ _ _ _ R1 e1 (.bl _) q
theorem sim_notB {K : ZX} {c : Bool} (sa : SimE K ua ta) : SimE K (tNotB c ua) (dNotB c ta) := fun R h k => sa R h fun v d δ1 H1 Hs1 R1 e1 r1 q => by
  rw [isB_dec r1]
  exact k _ _ _ _ _ R1 e1 (.bl _) q
theorem je_isB {c : Bool} {j p'} (ha : JE X a ua ta) : JE X (.Compare a [.Is] [.Constant (.bool c) j p'] pos) (tIsB c ua) (dIsB c ta) := by
  obtain ⟨pa, sa⟩ := ha
  exact ⟨pe_cmp (pc_isB pa), sim_isB sa⟩
theorem je_notB {c : Bool} {j p'} (ha : JE X a ua ta) : JE X (.Compare a [.IsNot] [.Constant (.bool c) j p'] pos) (tNotB c ua) (dNotB c ta) := by
  obtain ⟨pa, sa⟩ := ha
  exact ⟨pe_cmp (pc_notB pa), sim_notB sa⟩
theorem jt_isB {c : Bool} {j p'} (ha : JE X a ua ta) : JT X (.Compare a [.Is] [.Constant (.bool c) j p'] pos) (tB (tIsB c ua)) (dTest (dIsB c ta)) := by
  obtain ⟨pa, sa⟩ := ha
  exact ⟨pt_cmp (pc_isB pa), sim_B (sim_isB sa)⟩
theorem jt_notB {c : Bool} {j p'} (ha : JE X a ua ta) : JT X (.Compare a [.IsNot] [.Constant (.bool c) j p'] pos) (tB (tNotB c ua)) (dTest (dNotB c ta)) := by
  obtain ⟨pa, sa⟩ := ha
  exact ⟨pt_cmp (pc_notB pa), sim_B (sim_notB sa)⟩
theorem st_isB {c : Bool} {δ : Dl} {Q : D → Dl → Prop} (q : ta δ fun d δ' => Q (.bool (isBD c d)) δ') : dIsB c ta δ Q := q
theorem st_notB {c : Bool} {δ : Dl} {Q : D → Dl → Prop} (q : ta δ fun d δ' => Q (.bool (!isBD c d)) δ') : dNotB c ta δ Q := q
end
section
variable {t tj : TDE} {u : TDL} {tc : TDC} {tp : TDP} {De : DEnds} {δ : Dl} {i j : Nat} {Q : D → Dl → Prop} {Qb : Bool → Dl → Prop} {Qe : List Ent → Dl → Prop} {Qp : List (Key × D) → Dl → Prop} {tt : TDB} {dsp : DSp} {Ql : List D → Dl → Prop}
theorem st_dictT (h : Nat.ble (i + 1) δ.length = true) (q : ∀ p, De.nx (δ.set i (.ow p (OD.dt [])))) : sDictT i De δ := ⟨Nat.le_of_ble_eq_true h, q⟩
theorem st_dictK (h : Nat.ble (i + 1) δ.length = true) (q : ∀ p, De.nx (δ.set i (.ow p (OD.dk [])))) : sDictK i De δ := ⟨Nat.le_of_ble_eq_true h, q⟩
theorem st_dputT (q : t δ fun d δ1 => (∃ p a, δ1[i]? = some (.ow p (OD.one a))) ∧ u δ1 fun ds δ2 => ds.length ≤ 10000 ∧ ∃ p kvs ks, δ2[i]? = some (.ow p (OD.dt kvs)) ∧ keysOf ds = some ks ∧ kvs.length ≤ 100000 ∧ De.nx (δ2.set i (.ow p (OD.dt (putD kvs ks d))))) : sDPutT i u t De δ := q
theorem st_dputK (q : t δ fun d δ1 => (∃ p a, δ1[i]? = some (.ow p (OD.one a))) ∧ tj δ1 fun dj δ2 => ∃ p kvs k, δ2[i]? = some (.ow p (OD.dk kvs)) ∧ keyOf dj = some k ∧ kvs.length ≤ 100000 ∧ De.nx (δ2.set i (.ow p (OD.dk (putD kvs k d))))) : sDPutK i tj t De δ := q
theorem ex_one {p : Addr} {a : AP} {P : Prop} (h : δ[i]? = some (.ow p (OD.one a))) (q : P) : (∃ p a, δ[i]? = some (.ow p (OD.one a))) ∧ P := ⟨⟨p, a, h⟩, q⟩
theorem st_look {p : Addr} {a : AP} (h : δ[i]? = some (.ow p (OD.one a))) (q : tj δ fun d δ' => ∃ p s z, δ'[i]? = some s ∧ ((∃ kvs k, LkK s p kvs ∧ keyOf d = some k ∧ getK kvs k = some z) ∨ ∃ kvs ks ds, LkT s p kvs ∧ d = .tuple ds ∧ keysOf ds = some ks ∧ getK kvs ks = some z) ∧ Q z δ') : dLook i tj δ Q := ⟨⟨p, a, h⟩, q⟩
theorem look_K {p : Addr} {kvs : List (Key × D)} {k : Key} {d z : D} {P : D → Prop} (h : δ[i]? = some (.ow p (OD.dk kvs))) (hk : keyOf d = some k) (hg : getK kvs k = some z) (q : P z) : ∃ p s z, δ[i]? = some s ∧ ((∃ kvs k, LkK s p kvs ∧ keyOf d = some k ∧ getK kvs k = some z) ∨ ∃ kvs ks ds, LkT s p kvs ∧ d = .tuple ds ∧ keysOf ds = some ks ∧ getK kvs ks = some z) ∧ P z := ⟨p, _, z, h, .inl ⟨kvs, k, .inl rfl, hk, hg⟩, q⟩
theorem look_KL {p : Addr} {od : Obj} {r : List (Key × V)} {kvs : List (Key × D)} {k : Key} {d z : D} {P : D → Prop} (h : δ[i]? = some (.ow p (OD.one (apLK od r kvs)))) (hk : keyOf d = some k) (hg : getK kvs k = some z) (q : P z) : ∃ p s z, δ[i]? = some s ∧ ((∃ kvs k, LkK s p kvs ∧ keyOf d = some k ∧ getK kvs k = some z) ∨ ∃ kvs ks ds, LkT s p kvs ∧ d = .tuple ds ∧ keysOf ds = some ks ∧ getK kvs ks = some z) ∧ P z := ⟨p, _, z, h, .inl ⟨kvs, k, .inr ⟨od, r, rfl⟩, hk, hg⟩, q⟩
theorem look_T {p : Addr} {kvs : List (List Key × D)} {ks : List Key} {ds : List D} {z : D} {P : D → Prop} (h : δ[i]? = some (.ow p (OD.dt kvs))) (hk : keysOf ds = some ks) (hg : getK kvs ks = some z) (q : P z) : ∃ p s z', δ[i]? = some s ∧ ((∃ kvs k, LkK s p kvs ∧ keyOf (.tuple ds) = some k ∧ getK kvs k = some z') ∨ ∃ kvs ks es, LkT s p kvs ∧ PyData.tuple ds = .tuple es ∧ keysOf es = some ks ∧ getK kvs ks = some z') ∧ P z' := ⟨p, _, z, h, .inr ⟨kvs, ks, ds, .inl rfl, rfl, hk, hg⟩, q⟩
theorem look_TL {p : Addr} {od : Obj} {r : List (List Key × V)} {kvs : List (List Key × D)} {ks : List Key} {ds : List D} {z : D} {P : D → Prop} (h : δ[i]? = some (.ow p (OD.one (apLT od r kvs)))) (hk : keysOf ds = some ks) (hg : getK kvs ks = some z) (q : P z) : ∃ p s z', δ[i]? = some s ∧ ((∃ kvs k, LkK s p kvs ∧ keyOf (.tuple ds) = some k ∧ getK kvs k = some z') ∨ ∃ kvs ks es, LkT s p kvs ∧ PyData.tuple ds = .tuple es ∧ keysOf es = some ks ∧ getK kvs ks = some z') ∧ P z' := ⟨p, _, z, h, .inr ⟨kvs, ks, ds, .inr ⟨od, r, rfl⟩, rfl, hk, hg⟩, q⟩
theorem st_truA {p : Addr} {xs : List D} (h : δ[i]? = some (.ow p (.lst xs))) (q : Qb (!xs.isEmpty) δ) : dTruA i δ Qb := ⟨xs, .inl ⟨p, h⟩, q⟩
theorem st_truAd {xs : List D} (h : δ[i]? = some (.dt (.list xs))) (q : Qb (!xs.isEmpty) δ) : dTruA i δ Qb := ⟨xs, .inr h, q⟩
theorem st_cAny {p : Addr} {o : OD} (h : δ[i]? = some (.ow p o)) (q : tc δ fun es δ2 => Qe (.inl i :: es) δ2) : cAny i tc δ Qe := .inl ⟨p, o, h, q⟩
theorem st_cAnyD {d : D} (h : δ[i]? = some (.dt d)) (q : tc δ fun es δ2 => Qe (.inr d :: es) δ2) : cAny i tc δ Qe := .inr ⟨d, h, q⟩
theorem st_cPerm {n : Nat} {ix : List Nat} (q : tc δ fun es δ' => es.length = n ∧ Qe (permL ix es) δ') : cPerm n ix tc δ Qe := q
theorem st_dispK (q : tp δ fun kvs δ' => kvs.length ≤ 15 ∧ i < δ'.length ∧ ∀ p, De.nx (δ'.set i (.ow p (OD.dk (mergeD [] kvs))))) : sDispK i tp De δ := q
theorem st_dpNil (q : Qp [] δ) : dpNil δ Qp := q
theorem st_dpCons {x : Str} (q : t δ fun d δ1 => tp δ1 fun kvs δ2 => Qp ((.inr x, d) :: kvs) δ2) : dpCons x t tp δ Qp := q
theorem st_retObj {p : Addr} {a : AP} (h : δ[i]? = some (.ow p (OD.one a))) (q : De.rt (.obj a) (δ.set i .un)) : sRetObj i De δ := ⟨p, a, h, q⟩
theorem st_ownC (q : tc δ fun es δ' => (bors es).Nodup ∧ (∀ i ∈ bors es, i < δ'.length) ∧ i < δ'.length ∧ ∀ Q2 : RS → List SD → Prop, (∀ a as', as'.length = es.length → (∀ p, De.nx ((back es as' δ').set i (.ow p (OD.one a)))) → Q2 (.obj a) as') → dsp (es.map (resD δ')) Q2) : sOwnC dsp i tc De δ := q
theorem ite_kT {b : Bool} {A B : Prop} (h : b = true) (q : A) : if b = true then A else B := by
  rw [if_pos h]
  exact q
theorem ite_kF {b : Bool} {A B : Prop} (h : b = false) (q : B) : if b = true then A else B := by
  rw [h, if_neg Bool.false_ne_true]
  exact q
theorem ord_ok {g : D → D → Bool} {a b : D} {P : D → Prop} (h : PySem.W.alike a b = true) (h2 : isNoneD a = false) (h3 : min a.depth b.depth ≤ 150) (q : P (.bool (g a b))) : ordD g a b P := ⟨h, h2, h3, q⟩
theorem eq_ok {a b : D} {P : D → Prop} (h : min a.depth b.depth ≤ 150) (q : P (.bool (PyData.eqv a b))) : eqD a b P := ⟨h, q⟩
theorem ne_ok {a b : D} {P : D → Prop} (h : min a.depth b.depth ≤ 150) (q : P (.bool (!PyData.eqv a b))) : neD a b P := ⟨h, q⟩
theorem eq_b {a b : D} {c : Bool} {P : D → Prop} (h : min a.depth b.depth ≤ 150) (e : PyData.eqv a b = c) (q : P (.bool c)) : eqD a b P := ⟨h, by rw [e]; exact q⟩
theorem in_ok {neg : Bool} {x y : D} {c : Bool} {xs : List D} {P : D → Prop} (h1 : seqOf y = some xs) (h2 : x.depth ≤ 150) (e : (neg ^^ xs.any fun z => PyData.eqv z x) = c) (q : P (.bool c)) : inG neg x y P := ⟨xs, h1, h2, by rw [e]; exact q⟩
end
end EL
namespace EL
open PySem PySem.Spec PyProof.Rows L2
theorem own2 {δ : Dl} {i j : Nat} {s t : SD} (h : δ[i]? = some s) (o : isOw s = false) (h2 : δ[j]? = some t) (o2 : isOw t = false) : ∀ v ∈ [i, j], ∃ s, δ[v]? = some s ∧ isOw s = false := fun v hv => by
  rcases List.mem_cons.mp hv with rfl | hv
  · exact ⟨s, h, o⟩
  · rcases List.mem_cons.mp hv with rfl | hv
    · exact ⟨t, h2, o2⟩
    · simp at hv
theorem lc_invA {g : TDG} {tt : TDB} {te : TDE} {vs : List Nat} {Q : List D → Dl → Prop} {xs acc0 : List D} {δ : Dl} (I : Nat → List D → Dl → Prop) (h0 : I 0 acc0 δ)
    (step : ∀ (i : Nat) (x : D) (acc : List D) (δ' : Dl) (N : List D → Dl → Prop), xs[i]? = some x → I i acc δ' → (∀ acc' δ'', I (i + 1) acc' δ'' → N acc' δ'') →
      g x (wipeD δ' vs) fun δ1 => tt δ1 fun b δ2 => if b = true then te δ2 fun y δ3 => acc.length ≤ 100000 ∧ N (acc ++ [y]) (mixD δ3 δ' vs) else N acc (mixD δ2 δ' vs))
    (done : ∀ acc δ', I xs.length acc δ' → Q acc δ') : dLcGo g tt te vs Q xs acc0 δ := by
  have key : ∀ (n i : Nat) (acc : List D) (δ' : Dl), n + i = xs.length → I i acc δ' → dLcGo g tt te vs Q (xs.drop i) acc δ' := by
    intro n
    induction n with
    | zero =>
      intro i acc δ' hn hi
      have e : i = xs.length := by omega
      subst e
      rw [List.drop_length]
      exact done acc δ' hi
    | succ n ih =>
      intro i acc δ' hn hi
      have hl : i < xs.length := by omega
      rw [List.drop_eq_getElem_cons hl]
      exact step i xs[i] acc δ' _ (List.getElem?_eq_getElem hl) hi fun acc' δ'' h => ih (i + 1) acc' δ'' (by omega) h
  have := key xs.length 0 acc0 δ (by omega) h0
  rw [List.drop_zero] at this
  exact this
theorem lc_opt {g : TDG} {tt : TDB} {te : TDE} {vs : List Nat} {Q : List D → Dl → Prop} {xs acc0 : List D} {δ : Dl} (f : D → Option D) (hl : acc0.length + xs.length ≤ 100000)
    (step : ∀ x ∈ xs, ∀ (Ny : D → Dl → Prop) (Nn : Dl → Prop), (∀ y δ3, f x = some y → mixD δ3 δ vs = δ → Ny y δ3) → (∀ δ2, f x = none → mixD δ2 δ vs = δ → Nn δ2) → g x (wipeD δ vs) fun δ1 => tt δ1 fun b δ2 => if b = true then te δ2 Ny else Nn δ2)
    (done : Q (acc0 ++ xs.filterMap f) δ) : dLcGo g tt te vs Q xs acc0 δ := by
  refine lc_invA (fun k acc δ' => δ' = δ ∧ acc = acc0 ++ (xs.take k).filterMap f) ⟨rfl, by simp⟩ (fun k x acc δ' N hx ⟨e1, e2⟩ hN => ?_) fun acc δ' ⟨e1, e2⟩ => ?_
  · subst e1 e2
    have hm : x ∈ xs := List.mem_of_getElem? hx
    have hk := lt_of_get hx
    have e3 : (xs.take (k + 1)).filterMap f = (xs.take k).filterMap f ++ (match f x with | some y => [y] | none => []) := by
      rw [List.take_add_one, hx, List.filterMap_append]
      congr 1
      show List.filterMap f [x] = _
      cases h : f x <;> simp [h]
    have hb : (acc0 ++ (xs.take k).filterMap f).length ≤ 100000 := by
      have := List.length_filterMap_le f (xs.take k)
      rw [List.length_take] at this
      rw [List.length_append]
      omega
    refine step x hm _ _ (fun y δ3 h1 h2 => ?_) fun δ2 h1 h2 => ?_
    · show _ ∧ _
      rw [h2]
      refine ⟨hb, hN _ _ ⟨rfl, ?_⟩⟩
      rw [e3, h1, List.append_assoc]
    · show N _ _
      rw [h2]
      refine hN _ _ ⟨rfl, ?_⟩
      rw [e3, h1, List.append_nil]
  · subst e1 e2
    rw [List.take_length]
    exact done
theorem lc2_pure {g : TDG} {ti1 : TDI} {g1 : TDG} {te : TDE} {vs vs1 : List Nat} {Q : List D → Dl → Prop} {xs ys : List D} {δ : Dl} (f : D → D → D) (hl : xs.length * ys.length ≤ 100000) (δx : D → Dl)
    (step : ∀ x ∈ xs, ∀ N : List D → Dl → Prop, (OkSl (δx x) vs1 → N ys (δx x)) → g x (wipeD δ vs) fun δ1 => ti1 δ1 N)
    (ok : ∀ x ∈ xs, OkSl (δx x) vs1) (back : ∀ x ∈ xs, mixD (δx x) δ vs = δ)
    (elt : ∀ x ∈ xs, ∀ y ∈ ys, ∀ (Ny : D → Dl → Prop), (∀ δ3, mixD δ3 (δx x) vs1 = δx x → Ny (f x y) δ3) → g1 y (wipeD (δx x) vs1) fun δ1 => te δ1 Ny)
    (done : Q (xs.flatMap fun x => ys.map fun y => f x y) δ) : dLc2Go g dYes ti1 g1 dYes te vs vs1 Q xs [] δ := by
  have key : ∀ (zs acc : List D), (∀ z ∈ zs, z ∈ xs) → acc.length + zs.length * ys.length ≤ 100000 → Q (acc ++ zs.flatMap fun x => ys.map fun y => f x y) δ → dLc2Go g dYes ti1 g1 dYes te vs vs1 Q zs acc δ := by
    intro zs
    induction zs with
    | nil =>
      intro acc _ _ q
      simp at q
      exact q
    | cons z zs ih =>
      intro acc hz hlen q
      have hzx := hz z List.mem_cons_self
      have e1 : (z :: zs).length * ys.length = zs.length * ys.length + ys.length := by
        rw [List.length_cons, Nat.add_mul, Nat.one_mul]
      rw [e1] at hlen
      show g z (wipeD δ vs) fun δ1 => dYes δ1 fun b δ2 => if b = true then ti1 δ2 _ else _
      refine step z hzx _ fun hok => ⟨hok, ?_⟩
      refine lc_opt (fun y => some (f z y)) (by omega) (fun y hy Ny Nn h1 _ => ?_) ?_
      · exact elt z hzx y hy _ fun δ3 h3 => h1 _ _ rfl h3
      · show dLc2Go g dYes ti1 g1 dYes te vs vs1 Q zs _ (mixD (δx z) δ vs)
        rw [back z hzx]
        have e2 : (ys.filterMap fun y => some (f z y)) = ys.map fun y => f z y := by
          rw [List.filterMap_eq_map']
        refine ih _ (fun w hw => hz w (List.mem_cons_of_mem _ hw)) ?_ ?_
        · rw [List.length_append, e2, List.length_map]
          omega
        · rw [e2, List.append_assoc]
          exact q
  exact key xs [] (fun _ h => h) (by simpa using hl) (by simpa using done)
theorem st_lc2 {ti : TDI} {dg : TDG} {tt : TDB} {ti1 : TDI} {dg1 : TDG} {tt1 : TDB} {te : TDE} {vs vs1 : List Nat} {δ : Dl} {Q : List D → Dl → Prop} (q : ti δ fun xs δ' => OkSl δ' vs ∧ dLc2Go dg tt ti1 dg1 tt1 te vs vs1 Q xs [] δ') : dLc2 ti dg tt ti1 dg1 tt1 te vs vs1 δ Q := q
section
variable {X : Cy} {elt : Expr} {pos spos : Pos} {te : TDE} {scope : Scope} {uf : BkT TE}
theorem js_setLcK {x y z : Str} {p1 p2 pz : Pos} {n : Nat} (hc : X.calm = true) (hN : X.N.Nodup) (i j : Nat) (ok : BlkOk X.N X.env.scope scope [(y, j)])
    (hg : ∀ (s : Shared) (H : Hp) (C : Addr) (cl : List (Str × Addr)) (fp : List Addr), PG (Bk X s H scope C cl fp) (.Name y p2) (gName j))
    (he : ∀ (s : Shared) (H : Hp) (C : Addr) (cl : List (Str × Addr)) (fp : List Addr), JE (Bk X s H scope C cl fp) elt (uf s H C cl fp) te)
    (hu : ∀ (s : Shared) (H : Hp) (C : Addr) (cl : List (Str × Addr)) (fp : List Addr), uf s H C cl fp = uf X.s_0 X.H_0 0 [] [] := by intros; rfl)
    (hi : X.N[i]? = some x := by rfl) (hv : Vis X.env.scope x := by first | exact Or.inl rfl | exact Or.inr (Or.inl rfl) | exact Or.inr (Or.inr rfl)) (hd : (x == ("__debug__" : Str)) = false := by decide)
    (hcd : (x == ("__classdict__" : Str)) = false := by decide) (hz : X.N[n]? = some z := by rfl) (hzl : X.env.scope.names.lookup z = some .local := by rfl)
    (hsw : swapsWith (.ListComp elt [⟨.Name y p2, .Name x p1, [], 0⟩] scope pos) (some (.Name z pz)) spos.line X.env = pure true := by exact sw_true rfl rfl rfl (by decide +kernel)) (hs : ∀ z, foldedSetIterable (.Name x p1) X.env z = pure z := by intro _; rfl) :
    JS X (.Assign [.Name z pz] (.ListComp elt [⟨.Name y p2, .Name x p1, [], 0⟩] scope pos) spos) (tAsg (tLockE (tLc (iKeys (tVar i)) (gName j) tYes (uf X.s_0 X.H_0 0 [] []) [j])) (gName n)) (sAsg (dN (dLcK i j te)) (dgName n)) := by
  refine ⟨?_, fun R q k => ?_⟩
  · have h := ps_lock (ps_setLc (i := n) (own := [(y, j)]) hc hN hz hzl hsw (pi_keys (pe_var hi hv hd hcd)) ok hg (fun _ _ _ _ _ => pts_nil) (fun s H C cl fp => hu s H C cl fp ▸ (he s H C cl fp).p) hs)
    exact h
  · exact (je_new (jn_lcK (pos := pos) hc hN i j ok hg he hu hi hv hd hcd hs)).s R q fun _ _ _ _ _ R1 x r q1 => k.nx _ _ _ _ (R1.set r n) x q1
end
theorem st_ix0 {a : D} {r : List D} {P : D → Prop} (q : P a) : ixD (.tuple (a :: r)) (.int 0) P := ⟨a, by rw [atI_pos (by decide)]; rfl, q⟩
theorem st_ix1 {a b : D} {r : List D} {P : D → Prop} (q : P b) : ixD (.tuple (a :: b :: r)) (.int 1) P := ⟨b, by rw [atI_pos (by decide)]; rfl, q⟩
theorem st_ix2 {a b c : D} {r : List D} {P : D → Prop} (q : P c) : ixD (.tuple (a :: b :: c :: r)) (.int 2) P := ⟨c, by rw [atI_pos (by decide)]; rfl, q⟩
theorem st_ix3 {a b c d : D} {r : List D} {P : D → Prop} (q : P d) : ixD (.tuple (a :: b :: c :: d :: r)) (.int 3) P := ⟨d, by rw [atI_pos (by decide)]; rfl, q⟩
theorem st_ixl0 {a : D} {r : List D} {P : D → Prop} (q : P a) : ixD (.list (a :: r)) (.int 0) P := ⟨a, by rw [atI_pos (by decide)]; rfl, q⟩
theorem st_ixl1 {a b : D} {r : List D} {P : D → Prop} (q : P b) : ixD (.list (a :: b :: r)) (.int 1) P := ⟨b, by rw [atI_pos (by decide)]; rfl, q⟩
end EL
namespace EL
open PySem PySem.Spec PyProof.Rows L2
abbrev TDV := Dl → (RV → Lf → Dl → Prop) → Prop
abbrev TDVs := Dl → (List RV → Lf → Dl → Prop) → Prop
def SimV (Z : ZX) (te : TE) (t : TDV) : Prop := ∀ {B H0 : Hp} [XOk Z B H0] {σ : L2.St} {δ : Dl} {H Hs : Hp} {Q : RV → Lf → Dl → Prop} {Q' : VK}, Rep Z.K B H0 σ δ H Hs → t δ Q →
  (∀ v r L δ' H' Hs' B', Rep Z.K B' H0 σ δ' H' Hs' → Hid Z.K B B' H0 Hs' L → Ex Hs Hs' → RVal Z.K Hs' v r → Q r L δ' → Q' v H') → te σ H Q'
def SimVs (Z : ZX) (te : TA) (t : TDVs) : Prop := ∀ {B H0 : Hp} [XOk Z B H0] {σ : L2.St} {δ : Dl} {H Hs : Hp} {Q : List RV → Lf → Dl → Prop} {Q' : List V → Hp → Prop}, Rep Z.K B H0 σ δ H Hs → t δ Q →
  (∀ vs rs L δ' H' Hs' B', Rep Z.K B' H0 σ δ' H' Hs' → Hid Z.K B B' H0 Hs' L → Ex Hs Hs' → RAll Z.K Hs' vs rs → Q rs L δ' → Q' vs H') → te σ H Q'
structure JV (X : Cy) (e : Expr) (u : TE) (t : TDV) : Prop where
  p : PE X e u
  s : SimV X.z u t
structure JVs (X : Cy) (es : List Expr) (u : TA) (t : TDVs) : Prop where
  p : PA X es u
  s : SimVs X.z u t
section
variable {K : PySem.W.Frag} {B B' B1 B2 H0 H Hs : Hp} {L M : Lf} {σ : L2.St} {δ : Dl} {p : Addr}
theorem Hid.trans (h : Hid K B B1 H0 Hs L) (g : Hid K B1 B2 H0 Hs M) : Hid K B B2 H0 Hs (L ++ M) where
  ex := h.ex.trans g.ex
  on := fun b hb => by
    rw [addrsL_app]
    rcases g.on b hb with z | z
    · rcases h.on b z with w | w
      · exact .inl w
      · exact .inr (List.mem_append_left _ w)
    · exact .inr (List.mem_append_right _ z)
  nw := fun b hb => by
    rw [addrsL_app] at hb
    rcases List.mem_append.mp hb with z | z
    · exact h.nw b z
    · exact ⟨h.ex.none (g.nw b z).1, (g.nw b z).2⟩
  rg := by
    refine ⟨?_, fun x hx => ?_⟩
    · rw [addrsL_app]
      refine List.nodup_append.mpr ⟨h.rg.nd, g.rg.nd, fun a ha b hb e => ?_⟩
      subst e
      obtain ⟨u, hu, _⟩ := h.rg.there ha
      rw [(g.nw a hb).1] at hu
      cases hu
    · rcases List.mem_append.mp hx with hx | hx
      · exact (h.rg.at_ x hx).mono (Ex.refl _) fun b _ u hu => g.ex b u hu
      · exact g.rg.at_ x hx
theorem Hid.one {o : Ob} {ho : HO} (hB : B p = none) (h0 : H0 p = none) (n : ObAt K Hs (upd B p ho) p o) (ha : obA p o = [p]) : Hid K B (upd B p ho) H0 Hs [(p, o)] where
  ex := Ex.new hB
  on := fun b hb => by
    by_cases h : b = p
    · exact .inr (mem_addrsL.mpr ⟨(p, o), List.mem_singleton.mpr rfl, by show b ∈ obA p o; rw [ha, h]; simp⟩)
    · rw [upd_ne h] at hb
      exact .inl hb
  nw := fun b hb => by
    obtain ⟨x, hx, hb⟩ := mem_addrsL.mp hb
    rw [List.mem_singleton] at hx
    subst hx
    rw [ha] at hb
    simp at hb
    subst hb
    exact ⟨hB, h0⟩
  rg := ⟨by show ([(p, o)].flatMap fun x => obA x.1 x.2).Nodup; simp [ha], fun x hx => by
    rw [List.mem_singleton] at hx
    subst hx
    exact n⟩
end
section
variable {X : Cy} {e a b j : Expr} {es : List Expr} {pos : Pos} {t : TDE} {tv tb : TDV} {tvs : TDVs} {ue ua ub uj : TE} {us ur : TA} {tj : TDE}
def vD (t : TDE) : TDV := fun δ Q => t δ fun d δ' => Q (.dt d) [] δ'
theorem jv_dt (h : JE X e ue t) : JV X e ue (vD t) := ⟨h.p, fun R q k => h.s R q fun v d δ' H' Hs' R1 x r q1 => k v (.dt d) [] δ' H' Hs' _ R1 Hid.nil x r q1⟩
def eV (t : TDV) : TDE := fun δ Q => t δ fun r _ δ' => ∃ d, r = .dt d ∧ Q d δ'
theorem je_v (h : JV X e ue tv) : JE X e ue (eV tv) := ⟨h.p, fun R q k => h.s R q fun v r L δ' H' Hs' B' R1 hh x rv ⟨d, ed, q1⟩ => by
  subst ed
  exact k v d δ' H' Hs' (R1.weaken hh.ex) x rv q1⟩
def vRef (i : Nat) : TDV := fun δ Q => ∃ p o, δ[i]? = some (.ow p o) ∧ Q (.rf p) [] δ
theorem Rep.ref {K : PySem.W.Frag} {B H0 H Hs : Hp} {σ : L2.St} {δ : Dl} {i : Nat} {p : Addr} {o : OD} (R : Rep K B H0 σ δ H Hs) (h : δ[i]? = some (.ow p o)) : σ[i]? = some (some (.ref p)) := by
  obtain ⟨fps, F⟩ := R.sl
  obtain ⟨x, e, r⟩ := F.sl i _ h
  cases x with
  | none => exact r.elim
  | some v =>
    rw [r.1.1] at e
    exact e
theorem jv_ref (i : Nat) {x : Str} (hN : X.N[i]? = some x := by rfl) (hv : Vis X.env.scope x := by first | exact Or.inl rfl | exact Or.inr (Or.inl rfl) | exact Or.inr (Or.inr rfl)) (hd : (x == ("__debug__" : Str)) = false := by decide)
    (hcd : (x == ("__classdict__" : Str)) = false := by decide) : JV X (.Name x pos) (tVar i) (vRef i) :=
  ⟨pe_var hN hv hd hcd, fun R ⟨p, o, h, q⟩ k => ⟨.ref p, R.ref h, k _ (.rf p) [] _ _ _ _ R Hid.nil (Ex.refl _) rfl q⟩⟩
def vMv (i : Nat) : TDV := fun δ Q => ∃ p L, δ[i]? = some (.ow p (OD.rg L)) ∧ Q (.rf p) L (δ.set i .un)
theorem jv_mv (i : Nat) {x : Str} (hN : X.N[i]? = some x := by rfl) (hv : Vis X.env.scope x := by first | exact Or.inl rfl | exact Or.inr (Or.inl rfl) | exact Or.inr (Or.inr rfl)) (hd : (x == ("__debug__" : Str)) = false := by decide)
    (hcd : (x == ("__classdict__" : Str)) = false := by decide) : JV X (.Name x pos) (tVar i) (vMv i) :=
  ⟨pe_var hN hv hd hcd, fun R ⟨p, L, h, q⟩ k => by
    obtain ⟨B', R1, hh, e⟩ := R.takeR h
    exact ⟨.ref p, e, k _ (.rf p) L _ _ _ _ R1 hh (Ex.refl _) rfl q⟩⟩
def vMvL (i : Nat) : TDV := fun δ Q => ∃ p xs, δ[i]? = some (.ow p (.lst xs)) ∧ Q (.rf p) [(p, .lst (xs.map .dt))] (δ.set i .un)
theorem jv_mvL (i : Nat) {x : Str} (hN : X.N[i]? = some x := by rfl) (hv : Vis X.env.scope x := by first | exact Or.inl rfl | exact Or.inr (Or.inl rfl) | exact Or.inr (Or.inr rfl)) (hd : (x == ("__debug__" : Str)) = false := by decide)
    (hcd : (x == ("__classdict__" : Str)) = false := by decide) : JV X (.Name x pos) (tVar i) (vMvL i) :=
  ⟨pe_var hN hv hd hcd, fun R ⟨p, xs, h, q⟩ k => by
    obtain ⟨vs, e, hp, h1, h2, h3, ha, R1⟩ := R.take h
    exact ⟨.ref p, e, k _ (.rf p) _ _ _ _ _ R1 (Hid.one (o := .lst (xs.map .dt)) h2 h3 ⟨vs, upd_same, RAll.of_dp ha⟩ rfl) (Ex.refl _) rfl q⟩⟩
def vNil : TDVs := fun δ Q => Q [] [] δ
def vCons (t : TDV) (u : TDVs) : TDVs := fun δ Q => t δ fun r L δ1 => u δ1 fun rs M δ2 => Q (r :: rs) (L ++ M) δ2
theorem jvs_nil : JVs X [] tNil vNil := ⟨pa_nil, fun R q k => k _ _ _ _ _ _ _ R Hid.nil (Ex.refl _) .nil q⟩
theorem jvs_cons (ha : JV X e ue tv) (hr : JVs X es ur tvs) (hs : starEach (e :: es) X.env = (false, eval e X.env) :: starEach es X.env := by rfl) : JVs X (e :: es) (tCons ue ur) (vCons tv tvs) :=
  ⟨pa_cons ha.p hr.p hs, fun {B H0} [hX : XOk _ _ _] {σ δ H Hs Q Q'} R q k => ha.s R q fun v r L δ1 H1 Hs1 B1 R1 h1 x1 r1 q1 => by
    haveI := hX.mono h1.ex
    exact hr.s R1 q1 fun vs rs M δ2 H2 Hs2 B2 R2 h2 x2 r2 q2 => k _ _ _ _ _ _ _ R2 ((h1.mono x2).trans h2) (x1.trans x2) (.cons (r1.mono x2) r2) q2⟩
def vLst (t : TDVs) : TDV := fun δ Q => t δ fun rs L δ' => rs.length ≤ 10000 ∧ ∀ p, Q (.rf p) (L ++ [(p, .lst rs)]) δ'
theorem jv_lst (h : JVs X es us tvs) : JV X (.List es pos) (tLst us) (vLst tvs) := ⟨pe_lst h.p, fun R q k => h.s R q fun vs rs L δ1 H1 Hs1 B1 R1 h1 x1 r1 ⟨hl, q1⟩ => ⟨by rw [r1.len]; exact Nat.le_trans hl (by decide), fun p hp =>
  k _ (.rf p) _ _ _ _ _ (R1.hide hp) (h1.trans (Hid.one (o := .lst rs) (R1.base.none hp) (R1.frz.none (R1.ex.none hp)) ⟨vs, upd_same, r1⟩ rfl)) x1 rfl (q1 p)⟩⟩
def vDict : TDV := fun δ Q => ∀ p, Q (.rf p) [(p, .dk [])] δ
theorem jv_dict : JV X (.Dict [] [] pos) tDNewK vDict := ⟨pe_dnewK, fun R q k p hp =>
  k _ (.rf p) _ _ _ _ _ (R.hide hp) (Hid.one (o := .dk []) (R.base.none hp) (R.frz.none (R.ex.none hp)) ⟨[], upd_same, .nil⟩ rfl) (Ex.refl _) rfl (q p)⟩
def vN (t : TDL) : TDV := fun δ Q => t δ fun xs δ' => ∀ p, Q (.rf p) [(p, .lst (xs.map .dt))] δ'
theorem jv_new {tl : TDL} (h : JN X e ue tl) : JV X e ue (vN tl) := ⟨h.p, fun R q k => h.s R q fun p vs xs δ' H' Hs' R1 hB h0 x r q1 =>
  k _ (.rf p) _ _ _ _ _ R1 (Hid.one (o := .lst (xs.map .dt)) hB h0 ⟨vs, upd_same, RAll.of_dp r⟩ rfl) x rfl (q1 p)⟩
def Has (δ : Dl) (a : Addr) (o : Ob) : Prop := ∃ (i : Nat) (p : Addr) (L : Lf) (n : Nat), δ[i]? = some (SD.ow p (OD.rg L)) ∧ L[n]? = some (a, o)
theorem Rep.has {K : PySem.W.Frag} {B H0 H Hs : Hp} {σ : L2.St} {δ : Dl} {a : Addr} {o : Ob} (R : Rep K B H0 σ δ H Hs) (h : Has δ a o) : ObAt K Hs H a o := by
  obtain ⟨i, p, L, n, h, hn⟩ := h
  exact (R.reg h).2.1.at_ (a, o) (List.mem_of_getElem? hn)
def vIx (tv : TDV) (tj : TDE) : TDV := fun δ Q => tv δ fun r _ δ1 => tj δ1 fun dj δ2 => (∃ d, r = .dt d ∧ ixD d dj fun z => Q (.dt z) [] δ2) ∨ ∃ a rs n z, r = .rf a ∧ Has δ2 a (.lst rs) ∧ dj = .int n ∧ atI rs n = some z ∧ Q z [] δ2
theorem RAll.at_ {K : PySem.W.Frag} {H : Hp} {vs : List V} {rs : List RV} {i : Int} {d : RV} (h : RAll K H vs rs) (e : atI rs i = some d) : ∃ v, atI vs i = some v ∧ RVal K H v d := by
  unfold atI at e ⊢
  rw [h.len]
  cases h1 : ixN rs.length i with
  | none =>
    rw [h1] at e
    cases e
  | some j =>
    rw [h1] at e
    obtain ⟨v, e1, r⟩ := h.get (show rs[j]? = some d from e)
    exact ⟨v, e1, r⟩
theorem jv_ix (hb : JV X b ub tb) (hj : JE X j uj tj) (hs : PlainIx j := by exact fun _ _ => rfl) : JV X (.Subscript b j pos) (tOp (rIxU X.K) ub uj) (vIx tb tj) := by
  refine ⟨pe_ix ix_seq hb.p hj.p hs, fun {B H0} [hX : XOk _ _ _] {σ δ H Hs Q Q'} R q k => hb.s R q fun v r L δ1 H1 Hs1 B1 R1 h1 x1 r1 q1 => ?_⟩
  haveI := hX.mono h1.ex
  refine hj.s R1 q1 fun y dj δ2 H2 Hs2 R2 x2 r2 q2 => ?_
  have R2' := R2.weaken h1.ex
  rcases q2 with ⟨d, ed, q2⟩ | ⟨a, rs, n, z, er, hh, ej, hz, q2⟩
  · subst ed
    exact sim_ix R2.ex (dp_mono x2 r1) r2 q2 fun v d Hs' H' x r q => k v (.dt d) [] _ _ _ _ (R2'.ext x) Hid.nil ((x1.trans x2).trans x.s) r q
  · subst er ej
    cases r2
    obtain rfl : v = .ref a := r1
    obtain ⟨vs, hH, hr⟩ := R2.has hh
    obtain ⟨w, hw, rw'⟩ := hr.at_ hz
    exact .inl ⟨a, vs, n, w, rfl, rfl, .inl (.inl hH), hw, k _ z [] _ _ _ _ R2' Hid.nil (x1.trans x2) rw' q2⟩
def vKey (tv : TDV) (tj : TDE) : TDV := fun δ Q => tv δ fun r _ δ1 => tj δ1 fun dj δ2 => ∃ a kvs k z, r = .rf a ∧ Has δ2 a (.dk kvs) ∧ keyOf dj = some k ∧ getR kvs k = some z ∧ Q z [] δ2
theorem jv_key (hu : X.A.units + 200 < cLine) (hb : JV X b ub tb) (hj : JE X j uj tj) (hs : NoSl j := by first | exact nosl _ | exact fun _ _ => rfl) : JV X (.Subscript b j pos) (tDGetP X.K ub uj) (vKey tb tj) := by
  refine ⟨pe_dgetP (by omega) hb.p hj.p hs, fun {B H0} [hX : XOk _ _ _] {σ δ H Hs Q Q'} R q k => hb.s R q fun v r L δ1 H1 Hs1 B1 R1 h1 x1 r1 q1 => ?_⟩
  haveI := hX.mono h1.ex
  refine hj.s R1 q1 fun y dj δ2 H2 Hs2 R2 x2 r2 ⟨a, kvs, key, z, er, hh, ek, hz, q2⟩ => ?_
  subst er
  obtain rfl : v = .ref a := r1
  obtain ⟨vs, hH, hr⟩ := R2.has hh
  obtain ⟨w, hw, rw'⟩ := hr.get hz
  exact ⟨a, w, rfl, .inl ⟨vs, key, .inl hH, key_dp r2 ek, hw⟩, k _ z [] _ _ _ _ (R2.weaken h1.ex) Hid.nil (x1.trans x2) rw' q2⟩
def FldOk (K : PySem.W.Frag) (cn f : Str) : Prop := ∀ C, ClsAt K cn C → L2.Cls K C ∧ NoAttr K C f
def vFld (cn f : Str) (tv : TDV) : TDV := fun δ Q => tv δ fun r _ δ1 => ∃ a dx fs z, r = .rf a ∧ Has δ1 a (.ins cn dx fs) ∧ getR fs f = some z ∧ Q z [] δ1
theorem lookup_valV {α : Type} {fs : List (Str × V)} {f : Str} : fs.lookup f = valV fs f := by
  induction fs with
  | nil => rfl
  | cons x fs ih =>
    obtain ⟨g, v⟩ := x
    by_cases h : g = f
    · rw [valV_pos h]
      simp [List.lookup, h]
    · rw [valV_neg h, ← ih]
      have h' : (f == g) = false := by simpa using fun z : f = g => h z.symm
      simp [List.lookup, h']
theorem jv_fld {f cn : Str} (T : FldOk X.K cn f) (hb : JV X b ub tb) (ha : attributeBase b f X.env (eval b X.env) = eval b X.env := by rfl) : JV X (.Attribute b f pos) (tFld X.K ub f) (vFld cn f tb) := by
  refine ⟨pe_fld hb.p ha, fun R q k => hb.s R q fun v r L δ1 H1 Hs1 B1 R1 h1 x1 r1 ⟨a, dx, fs, z, er, hh, hz, q2⟩ => ?_⟩
  subst er
  obtain rfl : v = .ref a := r1
  obtain ⟨C, vs, hC, hH, _, hr⟩ := R1.has hh
  obtain ⟨w, hw, rw'⟩ := hr.get hz
  exact ⟨a, C, dx, vs, w, rfl, hH, (T C hC).1, (T C hC).2, by rw [lookup_valV (α := Unit)]; exact hw, k _ z [] _ _ _ _ (R1.weaken h1.ex) Hid.nil x1 rw' q2⟩
end
end EL
namespace EL
open PySem PySem.Spec PyProof.Rows L2
def Put (δ : Dl) (a : Addr) (o o' : Ob) (M : Lf) (Q : Dl → Prop) : Prop := ∃ (i : Nat) (p : Addr) (L : Lf) (n : Nat), δ[i]? = some (SD.ow p (OD.rg L)) ∧ L[n]? = some (a, o) ∧ Q (δ.set i (.ow p (OD.rg (L.set n (a, o') ++ M))))
theorem split_at {α : Type} {L : List α} {n : Nat} {x : α} (h : L[n]? = some x) : L = L.take n ++ x :: L.drop (n + 1) ∧ ∀ y, L.set n y = L.take n ++ y :: L.drop (n + 1) := by
  obtain ⟨hl, e⟩ := List.getElem?_eq_some_iff.mp h
  refine ⟨?_, fun y => ?_⟩
  · rw [← e, List.getElem_cons_drop, List.take_append_drop]
  · rw [List.set_eq_take_append_cons_drop, if_pos hl]
section
variable {K : PySem.W.Frag} {B B' H0 H Hs : Hp} {σ : L2.St} {δ : Dl} {a : Addr} {o o' : Ob} {M : Lf} {Q : Dl → Prop} {ho : HO}
theorem Rep.putR (R : Rep K B' H0 σ δ H Hs) (hh : Hid K B B' H0 Hs M) (hs : obA a o' = obA a o) (h : Put δ a o o' M Q) :
    ObAt K Hs (upd H a ho) a o' → ∃ δ', Rep K B H0 σ δ' (upd H a ho) Hs ∧ Q δ' := by
  intro nn
  obtain ⟨i, p, L, m, e, el, q⟩ := h
  obtain ⟨s1, s2⟩ := split_at el
  obtain ⟨z1, z2, z3⟩ := R.reg e
  have ha : a ∈ addrsL L := mem_addrsL.mpr ⟨(a, o), List.mem_of_getElem? el, by cases o <;> simp [obA]⟩
  have hr : Reg K Hs (upd H a ho) (L.set m (a, o')) := by
    rw [s2]
    rw [s1] at z2
    exact z2.put hs (fun b hb u hu => by rw [upd_ne hb]; exact hu) nn
  have R1 := R.updR (L' := L.set m (a, o')) (ho := ho) e ha (fun b => by
    rw [s2]
    conv => rhs; rw [s1]
    rw [addrsL_app, addrsL_app]
    show b ∈ addrsL (L.take m) ++ (obA a o' ++ addrsL (L.drop (m + 1))) ↔ b ∈ addrsL (L.take m) ++ (obA a o ++ addrsL (L.drop (m + 1)))
    rw [hs]) hr
  have R2 := R1.joinR hh (List.getElem?_set_self (lt_of_get e))
  rw [List.set_set] at R2
  exact ⟨_, R2, q⟩
theorem Rep.putL {vs : List V} {rs rs' : List RV} (R : Rep K B' H0 σ δ H Hs) (hh : Hid K B B' H0 Hs M) (h : Put δ a (.lst rs) (.lst rs') M Q) (r : RAll K Hs vs rs') : ∃ δ', Rep K B H0 σ δ' (upd H a (.lst vs)) Hs ∧ Q δ' :=
  R.putR (o := .lst rs) (o' := .lst rs') hh rfl h ⟨vs, upd_same, r⟩
theorem Put.has (h : Put δ a o o' M Q) : Has δ a o := by
  obtain ⟨i, p, L, n, h1, h2, _⟩ := h
  exact ⟨i, p, L, n, h1, h2⟩
theorem Rep.putK {vs : List (Key × V)} {kvs kvs' : List (Key × RV)} (R : Rep K B' H0 σ δ H Hs) (hh : Hid K B B' H0 Hs M) (h : Put δ a (.dk kvs) (.dk kvs') M Q) (r : KAll K Hs vs kvs') : ∃ δ', Rep K B H0 σ δ' (upd H a (.dK vs)) Hs ∧ Q δ' :=
  R.putR (o := .dk kvs) (o' := .dk kvs') hh rfl h ⟨vs, upd_same, r⟩
end
def slotV : RV → Lf → SD
  | .dt d, _ => .dt d
  | .rf a, L => .ow a (OD.rg L)
section
variable {X : Cy} {e a b j o : Expr} {es : List Expr} {pos pos' : Pos} {t tj : TDE} {tv tb : TDV} {ue ub uj : TE} {us : TA}
def sAsgV (tv : TDV) (i : Nat) : TDS := fun De δ => tv δ fun r L δ' => i < δ'.length ∧ De.nx (δ'.set i (slotV r L))
theorem js_setV {i : Nat} {x : Str} {p' : Pos} (hN : X.N.Nodup) (he : JV X e ue tv) (hi : X.N[i]? = some x := by rfl) (hx : Loc X.env.scope x := by first | exact .inl rfl | exact .inr rfl) (hs : swapsWith e (some (.Name x p')) pos.line X.env = pure false := by rfl)
    (hf : X.fn x = true ∨ X.env.scope.names.lookup x = some .local := by first | exact .inl rfl | exact .inr rfl | assumption) : JS X (.Assign [.Name x p'] e pos) (tAsg ue (gName i)) (sAsgV tv i) := ⟨ps_set hN hi hx he.p hs hf, fun R q k =>
  he.s R q fun v r L δ' H' Hs' B' R1 hh x rv ⟨hl, q1⟩ => by
    cases r with
    | dt d => exact k.nx _ _ _ _ ((R1.weaken hh.ex).set rv i) x q1
    | rf a =>
      obtain rfl : v = .ref a := rv
      exact k.nx _ _ _ _ (R1.ownR hh hl) x q1⟩
def nV (tv : TDV) : TDL := fun δ Q => tv δ fun r L δ' => ∃ p xs, r = .rf p ∧ L = [(p, .lst (xs.map .dt))] ∧ Q xs δ'
def sSetV (tb : TDV) (tj : TDE) (tv : TDV) : TDS := fun De δ => tv δ fun r M δ1 => tb δ1 fun rb _ δ2 => tj δ2 fun dj δ3 => ∃ a rs n k, rb = .rf a ∧ dj = .int n ∧ ixN rs.length n = some k ∧ Put δ3 a (.lst rs) (.lst (rs.set k r)) M De.nx
theorem js_setI (hb : JV X b ub tb) (hj : JE X j uj tj) (he : JV X e ue tv)
    (h1 : PE X b ub → PE X j uj → PE X e ue → PS X (.Assign [.Subscript b j pos'] e pos) (tAsg ue (gSub ub uj rSetL)) := by exact fun z y v => ps_asg v (pg_sub z y set_list)) :
    JS X (.Assign [.Subscript b j pos'] e pos) (tAsg ue (gSub ub uj rSetL)) (sSetV tb tj tv) := by
  refine ⟨h1 hb.p hj.p he.p, fun {B H0} [hX : XOk _ _ _] {σ δ H Hs De De'} R q k => he.s R q fun v r M δ1 H1 Hs1 B1 R1 hh1 x1 rv q1 => ?_⟩
  haveI := hX.mono hh1.ex
  refine hb.s R1 q1 fun vb rb Lb δ2 H2 Hs2 B2 R2 hh2 x2 rvb q2 => ?_
  haveI := XOk.mono ‹_› hh2.ex
  refine hj.s (R2.weaken hh2.ex) q2 fun y dj δ3 H3 Hs3 R3 x3 r3 ⟨a, rs, n, kk, eb, ej, hk, q3⟩ => ?_
  subst eb ej
  cases r3
  obtain rfl : vb = .ref a := rvb
  obtain ⟨vs, hH, hr⟩ := R3.has q3.has
  obtain ⟨δ', R4, q4⟩ := R3.putL (hh1.mono (x2.trans x3)) q3 (hr.set (rv.mono (x2.trans x3)) kk)
  exact ⟨a, vs, n, kk, rfl, rfl, hH, by rw [hr.len]; exact hk, k.nx _ _ _ _ R4 (x1.trans (x2.trans x3)) q4⟩
def sPutV (tb : TDV) (tj : TDE) (tv : TDV) : TDS := fun De δ => tv δ fun r M δ1 => tb δ1 fun rb _ δ2 => tj δ2 fun dj δ3 => ∃ a kvs key, rb = .rf a ∧ keyOf dj = some key ∧ kvs.length ≤ 100000 ∧ Put δ3 a (.dk kvs) (.dk (EL.putR kvs key r)) M De.nx
theorem js_putV (hu : X.A.units + 200 < cLine) (hb : JV X b ub tb) (hj : JE X j uj tj) (he : JV X e ue tv) (hs : swapsWith e (some (.Subscript b j pos')) pos.line X.env = pure false := by rfl) :
    JS X (.Assign [.Subscript b j pos'] e pos) (sDPut ub uj ue) (sPutV tb tj tv) := by
  refine ⟨ps_dput (by omega) hb.p hj.p he.p hs, fun {B H0} [hX : XOk _ _ _] {σ δ H Hs De De'} R q k => he.s R q fun v r M δ1 H1 Hs1 B1 R1 hh1 x1 rv q1 => ?_⟩
  haveI := hX.mono hh1.ex
  refine hb.s R1 q1 fun vb rb Lb δ2 H2 Hs2 B2 R2 hh2 x2 rvb q2 => ?_
  haveI := XOk.mono ‹_› hh2.ex
  refine hj.s (R2.weaken hh2.ex) q2 fun y dj δ3 H3 Hs3 R3 x3 r3 ⟨a, kvs, key, eb, ej, hl, q3⟩ => ?_
  subst eb
  obtain rfl : vb = .ref a := rvb
  obtain ⟨vs, hH, hr⟩ := R3.has q3.has
  obtain ⟨δ', R4, q4⟩ := R3.putK (hh1.mono (x2.trans x3)) q3 (hr.put (rv.mono (x2.trans x3)))
  rw [key_dp r3 ej]
  exact ⟨a, _, rfl, .k hH (by rw [hr.len]; exact lt_line hl), k.nx _ _ _ _ R4 (x1.trans (x2.trans x3)) q4⟩
def sAppV (tb tv : TDV) : TDS := fun De δ => tb δ fun rb _ δ1 => ∃ a, rb = .rf a ∧ (∃ rs, Has δ1 a (.lst rs)) ∧ tv δ1 fun r M δ2 => ∃ rs, rs.length ≤ 100000 ∧ Put δ2 a (.lst rs) (.lst (rs ++ [r])) M De.nx
theorem js_appV {p2 p3 : Pos} (hb : JV X b ub tb) (he : JV X e ue tv) (hs : starEach [e] X.env = (false, eval e X.env) :: starEach [] X.env := by rfl)
    (h1 : PE X (.Call (.Attribute b "append" p2) [e] [] p3) (tBM X.K "list" rAppend ub (tCons ue tNil)) → PS X (.Expr (.Call (.Attribute b "append" p2) [e] [] p3) pos) (tDrop (tBM X.K "list" rAppend ub (tCons ue tNil))) := by exact fun z => ps_expr z)
    (h2 : PE X b ub → PA X [e] (tCons ue tNil) → PE X (.Call (.Attribute b "append" p2) [e] [] p3) (tBM X.K "list" rAppend ub (tCons ue tNil)) := by exact fun z y => pe_bm PySem.F.plainAttrs_list PySem.F.slot_list_append PySem.F.type_list_append mt_append z y) :
    JS X (.Expr (.Call (.Attribute b "append" p2) [e] [] p3) pos) (tDrop (tBM X.K "list" rAppend ub (tCons ue tNil))) (sAppV tb tv) := by
  refine ⟨h1 (h2 hb.p (pa_cons he.p pa_nil hs)), fun {B H0} [hX : XOk _ _ _] {σ δ H Hs De De'} R q k => hb.s R q fun vb rb Lb δ1 H1 Hs1 B1 R1 hh1 x1 rvb ⟨a, eb, ⟨rs0, h0⟩, q1⟩ => ?_⟩
  subst eb
  obtain rfl : vb = .ref a := rvb
  obtain ⟨vs0, hH0, _⟩ := R1.has h0
  refine ⟨.inl ⟨rfl, vs0, .inl (.inl hH0)⟩, ?_⟩
  refine he.s (R1.weaken hh1.ex) q1 fun v r M δ2 H2 Hs2 B2 R2 hh2 x2 rv ⟨rs, hl, q2⟩ => ?_
  obtain ⟨vs, hH, hr⟩ := R2.has q2.has
  obtain ⟨δ', R4, q4⟩ := R2.putL hh2 q2 (hr.app (.cons rv .nil))
  exact ⟨a, vs, v, rfl, rfl, hH, by rw [hr.len]; exact lt_line hl, k.nx _ _ _ _ R4 (x1.trans x2) q4⟩
def dLenV (tb : TDV) : TDE := fun δ Q => tb δ fun rb _ δ1 => ∃ a rs, rb = .rf a ∧ Has δ1 a (.lst rs) ∧ Q (.int rs.length) δ1
theorem je_lenV {p1 : Pos} (hg : Gl X "len") (hm : X.mg "len" = none) (hb : JV X b ub tb) (hs : starEach [b] X.env = (false, eval b X.env) :: starEach [] X.env := by rfl) (hpl : (backTo pos (starEach [] X.env)).any (·.1) = false := by rfl) :
    JE X (.Call (.Name "len" p1) [b] [] pos) (tCB (rLenU X.K) (tCons ub tNil)) (dLenV tb) :=
  ⟨pe_callB call_len hg hm PySem.boot_len (pa_cons hb.p pa_nil hs) (by decide) (by decide) hs hpl, fun R q k => hb.s R q fun vb rb Lb δ1 H1 Hs1 B1 R1 hh1 x1 rvb ⟨a, rs, eb, h, q1⟩ => by
    subst eb
    obtain rfl : vb = .ref a := rvb
    obtain ⟨vs, hp, hr⟩ := R1.has h
    exact ⟨_, rs.length, rfl, .inl ⟨vs, .inl (.inl hp), hr.len.symm⟩, k _ _ _ _ _ (R1.weaken hh1.ex) x1 (.int _) q1⟩⟩
def dInV (neg : Bool) (t : TDE) (tb : TDV) : TDE := fun δ Q => t δ fun d δ' => tb δ' fun rb _ δ2 => ∃ (a : Addr) (xs : List D), rb = .rf a ∧ Has δ2 a (.lst (xs.map .dt)) ∧ d.depth ≤ 150 ∧ Q (.bool (neg ^^ xs.any fun z => PyData.eqv z d)) δ2
theorem sim_inV {neg : Bool} (ha : SimE X.z ue t) (hb : SimV X.z ub tb) : SimE X.z (tOp (rInP X.K neg) ue ub) (dInV neg t tb) := fun R q k => ha R q fun v d δ' H' Hs' R1 x r q1 => hb R1 q1 fun vb rb Lb δ2 H2 Hs2 B2 R2 hh2 x2 rvb ⟨a, xs, eb, h, hd, q2⟩ => by
  subst eb
  obtain rfl : vb = .ref a := rvb
  obtain ⟨vs, hp, hr⟩ := R2.has h
  exact ⟨d, .list xs, xs, dp_mono R2.ex (dp_mono x2 r), .lst (.inl (.inl hp)) (dpAll_mono R2.ex hr.to_dp), rfl, hd, k _ _ _ _ _ (R2.weaken hh2.ex) (x.trans x2) (.bl _) q2⟩
theorem jt_inV (hu : X.A.units + 200 < cLine) (ha : JE X a ue t) (hb : JV X b ub tb) (hm : behindInMarks .In b = false := by with_unfolding_all rfl) : JT X (.Compare a [.In] [b] pos) (tTest (tOp (rInP X.K false) ue ub)) (dTest (dInV false t tb)) := ⟨pt_cmpR (op_inP hu) ha.p hb.p hm, sim_test (sim_inV ha.s hb.s)⟩
theorem jt_notInV (hu : X.A.units + 200 < cLine) (ha : JE X a ue t) (hb : JV X b ub tb) (hm : behindInMarks .NotIn b = false := by with_unfolding_all rfl) : JT X (.Compare a [.NotIn] [b] pos) (tTest (tOp (rInP X.K true) ue ub)) (dTest (dInV true t tb)) := ⟨pt_cmpR (op_notInP hu) ha.p hb.p hm, sim_test (sim_inV ha.s hb.s)⟩
end
end EL
namespace EL
open PySem PySem.Spec PyProof.Rows L2
inductive Ev where
  | sl (i : Nat)
  | dt (d : D)
  | rg (a : Addr) (L : Lf) (j : Option Nat)
inductive Evs (K : PySem.W.Frag) (H0 Hs : Hp) (σ : L2.St) : Hp → Hp → List V → List Ev → Prop
  | nil {B : Hp} : Evs K H0 Hs σ B B [] []
  | sl {B B' : Hp} {v : V} {vs : List V} {i : Nat} {es : List Ev} : σ[i]? = some (some v) → Evs K H0 Hs σ B B' vs es → Evs K H0 Hs σ B B' (v :: vs) (.sl i :: es)
  | dt {B B' : Hp} {v : V} {vs : List V} {d : D} {es : List Ev} : Dp K Hs v d → Evs K H0 Hs σ B B' vs es → Evs K H0 Hs σ B B' (v :: vs) (.dt d :: es)
  | rg {B B1 B' : Hp} {a : Addr} {L : Lf} {j : Option Nat} {vs : List V} {es : List Ev} : Hid K B B1 H0 Hs L → Evs K H0 Hs σ B1 B' vs es → Evs K H0 Hs σ B B' (.ref a :: vs) (.rg a L j :: es)
section
variable {K : PySem.W.Frag} {B B' B1 H0 H Hs Hs' : Hp} {σ : L2.St} {δ : Dl} {L M : Lf} {a p : Addr} {i : Nat}
theorem Evs.mono (e : Ex Hs Hs') : ∀ {B B' : Hp} {vs : List V} {es : List Ev}, Evs K H0 Hs σ B B' vs es → Evs K H0 Hs' σ B B' vs es
  | _, _, _, _, .nil => .nil
  | _, _, _, _, .sl h t => .sl h (t.mono e)
  | _, _, _, _, .dt h t => .dt (dp_mono e h) (t.mono e)
  | _, _, _, _, .rg h t => .rg (h.mono e) (t.mono e)
theorem Evs.ex : ∀ {B B' : Hp} {vs : List V} {es : List Ev}, Evs K H0 Hs σ B B' vs es → Ex B B'
  | _, _, _, _, .nil => Ex.refl _
  | _, _, _, _, .sl _ t => t.ex
  | _, _, _, _, .dt _ t => t.ex
  | _, _, _, _, .rg h t => h.ex.trans t.ex
theorem Reg.split (h : Reg K Hs H (L ++ M)) : Reg K Hs H L ∧ Reg K Hs H M ∧ ∀ b, b ∈ addrsL L → b ∉ addrsL M := by
  have nd := h.nd
  rw [addrsL_app] at nd
  obtain ⟨n1, n2, n3⟩ := List.nodup_append.mp nd
  exact ⟨⟨n1, fun x hx => h.at_ x (List.mem_append_left _ hx)⟩, ⟨n2, fun x hx => h.at_ x (List.mem_append_right _ hx)⟩, fun b h1 h2 => n3 b h1 b h2 rfl⟩
theorem addrsL_perm (q : M.Perm L) {b : Addr} : b ∈ addrsL M ↔ b ∈ addrsL L := (q.flatMap_right _).mem_iff
theorem Hid.perm (h : Hid K B B' H0 Hs L) (q : M.Perm L) : Hid K B B' H0 Hs M where
  ex := h.ex
  on := fun b hb => (h.on b hb).imp id (addrsL_perm q).mpr
  nw := fun b hb => h.nw b ((addrsL_perm q).mp hb)
  rg := h.rg.perm q
theorem Hid.split (h : Hid K B B' H0 Hs (L ++ M)) : ∃ B1, Hid K B B1 H0 Hs L ∧ Hid K B1 B' H0 Hs M := by
  classical
  obtain ⟨r1, r2, dj⟩ := h.rg.split
  let B1 : Hp := fun b => if b ∈ addrsL L then B' b else B b
  have b1 : ∀ b, b ∈ addrsL L → B1 b = B' b := fun b hb => if_pos hb
  have b2 : ∀ b, b ∉ addrsL L → B1 b = B b := fun b hb => if_neg hb
  have nL : ∀ b ∈ addrsL L, B b = none ∧ H0 b = none := fun b hb => h.nw b (by rw [addrsL_app]; exact List.mem_append_left _ hb)
  have nM : ∀ b ∈ addrsL M, B b = none ∧ H0 b = none := fun b hb => h.nw b (by rw [addrsL_app]; exact List.mem_append_right _ hb)
  refine ⟨B1, ⟨fun b u hu => ?_, fun b hb => ?_, nL, r1.mono (Ex.refl _) fun b hb u hu => by rw [b1 b hb]; exact hu⟩, ⟨fun b u hu => ?_, fun b hb => ?_, fun b hb => ⟨?_, (nM b hb).2⟩, r2⟩⟩
  · by_cases z : b ∈ addrsL L
    · rw [(nL b z).1] at hu
      cases hu
    · rw [b2 b z]
      exact hu
  · by_cases z : b ∈ addrsL L
    · exact .inr z
    · rw [b2 b z] at hb
      exact .inl hb
  · by_cases z : b ∈ addrsL L
    · rw [b1 b z] at hu
      exact hu
    · rw [b2 b z] at hu
      exact h.ex b u hu
  · by_cases z : b ∈ addrsL L
    · exact .inl (by rw [b1 b z]; exact hb)
    · rw [b2 b z]
      refine (h.on b hb).imp id fun w => ?_
      rw [addrsL_app] at w
      exact (List.mem_append.mp w).resolve_left z
  · rw [b2 b (fun z => dj b z hb)]
    exact (nM b hb).1
theorem Rep.splitR {L1 L2 : Lf} (R : Rep K B H0 σ δ H Hs) (hs : δ[i]? = some (.ow p (OD.rg L))) (q : L.Perm (L1 ++ L2)) : ∃ B', Rep K B' H0 σ (δ.set i (.ow p (OD.rg L2))) H Hs ∧ Hid K B B' H0 Hs L1 := by
  obtain ⟨B', R1, hh, e0⟩ := R.takeR hs
  obtain ⟨B1, h1, h2⟩ := (hh.perm q.symm).split
  have R2 := R1.ownR (p := p) (i := i) h2 (by rw [List.length_set]; exact lt_of_get hs)
  rw [List.set_set, set_self e0] at R2
  exact ⟨B1, R2, h1⟩
theorem Rep.permR {M : Lf} (R : Rep K B H0 σ δ H Hs) (hs : δ[i]? = some (.ow p (OD.rg L))) (q : L.Perm M) : Rep K B H0 σ (δ.set i (.ow p (OD.rg M))) H Hs := by
  obtain ⟨B', R1, hh, e0⟩ := R.takeR hs
  have R2 := R1.ownR (p := p) (i := i) (hh.perm q.symm) (by rw [List.length_set]; exact lt_of_get hs)
  rw [List.set_set, set_self e0] at R2
  exact R2
theorem Rep.pushU (R : Rep K B H0 σ δ H Hs) : Rep K B H0 (σ ++ [none]) (δ ++ [.un]) H Hs := by
  obtain ⟨fps, F⟩ := R.sl
  refine ⟨by rw [List.length_append, List.length_append, R.len]; rfl, R.ex, R.base, R.frz, R.frs, fps, fun j s hs => ?_, fun j hj b hb => F.out j (by rw [List.length_append] at hj; omega) b hb, F.dj⟩
  by_cases hj : j < δ.length
  · rw [List.getElem?_append_left hj] at hs
    obtain ⟨x, e, r⟩ := F.sl j s hs
    exact ⟨x, by rw [List.getElem?_append_left (by rw [R.len]; exact hj)]; exact e, r⟩
  · have hj2 := lt_of_get hs
    rw [List.length_append] at hj2
    have e : j = δ.length := by simp at hj2; omega
    subst e
    rw [List.getElem?_concat_length] at hs
    cases hs
    exact ⟨none, by rw [← R.len, List.getElem?_concat_length], F.out _ (Nat.le_refl _)⟩
theorem Rep.popX {x : Option V} {s : SD} (R : Rep K B H0 (σ ++ [x]) (δ ++ [s]) H Hs) : Rep K B H0 σ δ H Hs := by
  obtain ⟨fps, F⟩ := R.sl
  have hl : σ.length = δ.length := by
    have := R.len
    rw [List.length_append, List.length_append] at this
    simpa using this
  refine ⟨hl, R.ex, R.base, R.frz, R.frs, fun j b => j < δ.length ∧ fps j b, fun j s hs => ?_, fun j hj b hb => by omega, fun j k b h1 h2 => F.dj j k b h1.2 h2.2⟩
  have hj := lt_of_get hs
  obtain ⟨y, e, r⟩ := F.sl j s (by rw [List.getElem?_append_left hj]; exact hs)
  refine ⟨y, by rw [List.getElem?_append_left (by rw [hl]; exact hj)] at e; exact e, ?_⟩
  have : (fun b => j < δ.length ∧ fps j b) = fps j := funext fun b => propext ⟨fun z => z.2, fun z => ⟨hj, z⟩⟩
  rw [this]
  exact r
theorem Rep.pushR (R : Rep K B' H0 σ δ H Hs) (h : Hid K B B' H0 Hs L) : Rep K B H0 (σ ++ [some (.ref a)]) (δ ++ [.ow a (OD.rg L)]) H Hs := by
  have R1 := R.pushU.ownR (p := a) (i := δ.length) h (by rw [List.length_append]; simp)
  have e1 : (σ ++ [none]).set δ.length (some (V.ref a)) = σ ++ [some (.ref a)] := by
    rw [List.set_append_right _ _ (by rw [R.len]; exact Nat.le_refl _), R.len, Nat.sub_self]
    rfl
  have e2 : (δ ++ [SD.un]).set δ.length (.ow a (OD.rg L)) = δ ++ [.ow a (OD.rg L)] := by
    rw [List.set_append_right _ _ (Nat.le_refl _), Nat.sub_self]
    rfl
  rw [e1, e2] at R1
  exact R1
theorem Rep.popT {x : Option V} (R : Rep K B H0 (σ ++ [x]) (δ ++ [.ow a (OD.rg L)]) H Hs) : ∃ B', Rep K B' H0 σ δ H Hs ∧ Hid K B B' H0 Hs L := by
  obtain ⟨B', R1, hh, _⟩ := R.takeR (i := δ.length) (by rw [List.getElem?_concat_length])
  have e2 : (δ ++ [SD.ow a (OD.rg L)]).set δ.length .un = δ ++ [.un] := by
    rw [List.set_append_right _ _ (Nat.le_refl _), Nat.sub_self]
    rfl
  rw [e2] at R1
  exact ⟨B', R1.popX, hh⟩
end
def cntW : List Ev → Nat
  | [] => 0
  | .rg _ _ _ :: es => cntW es + 1
  | .sl _ :: es => cntW es
  | .dt _ :: es => cntW es
def borsW : List Ev → List Nat
  | [] => []
  | .sl i :: es => i :: borsW es
  | .dt _ :: es => borsW es
  | .rg _ _ _ :: es => borsW es
def entsW (n : Nat) : List Ev → List Ent
  | [] => []
  | .sl i :: es => .inl i :: entsW n es
  | .dt d :: es => .inr d :: entsW n es
  | .rg _ _ _ :: es => .inl (n + cntW es) :: entsW n es
def extS : List Ev → L2.St → L2.St
  | [], σ => σ
  | .sl _ :: es, σ => extS es σ
  | .dt _ :: es, σ => extS es σ
  | .rg a _ _ :: es, σ => extS es σ ++ [some (.ref a)]
def extD : List Ev → Dl → Dl
  | [], δ => δ
  | .sl _ :: es, δ => extD es δ
  | .dt _ :: es, δ => extD es δ
  | .rg a L _ :: es, δ => extD es δ ++ [.ow a (OD.rg L)]
def ext2 : List Ev → List SD → Dl → Dl
  | .sl _ :: es, _ :: as, δ => ext2 es as δ
  | .dt _ :: es, _ :: as, δ => ext2 es as δ
  | .rg _ _ _ :: es, s :: as, δ => ext2 es as δ ++ [s]
  | _, _, δ => δ
def resW (δ : Dl) : Ev → SD
  | .sl i => (δ[i]?).getD .un
  | .dt d => .dt d
  | .rg a L _ => .ow a (OD.rg L)
def backS : List Ev → List SD → Dl → Dl
  | .sl i :: es, s :: as, δ => (backS es as δ).set i s
  | .dt _ :: es, _ :: as, δ => backS es as δ
  | .rg _ _ _ :: es, _ :: as, δ => backS es as δ
  | _, _, δ => δ
def BackJ : List Ev → List SD → Dl → (Dl → Prop) → Prop
  | [], [], δ, Q => Q δ
  | .sl _ :: es, _ :: as, δ, Q => BackJ es as δ Q
  | .dt _ :: es, _ :: as, δ, Q => BackJ es as δ Q
  | .rg _ _ none :: es, _ :: as, δ, Q => BackJ es as δ Q
  | .rg a _ (some j) :: es, s :: as, δ, Q => ∃ (L' : Lf) (p : Addr) (M M' : Lf), s = .ow a (OD.rg L') ∧ δ[j]? = some (SD.ow p (OD.rg M)) ∧ (M ++ L').Perm M' ∧ BackJ es as (δ.set j (.ow p (OD.rg M'))) Q
  | _, _, _, _ => False
def BackW (es : List Ev) (as : List SD) (δ : Dl) (Q : Dl → Prop) : Prop := BackJ es as (backS es as δ) Q
theorem ext_len : ∀ (es : List Ev) (δ : Dl), (extD es δ).length = δ.length + cntW es
  | [], δ => rfl
  | .sl _ :: es, δ => ext_len es δ
  | .dt _ :: es, δ => ext_len es δ
  | .rg a L j :: es, δ => by
    show (extD es δ ++ [_]).length = _
    rw [List.length_append, ext_len es δ]
    rfl
theorem ext2_app : ∀ (es : List Ev) (as : List SD) (δ : Dl), ∃ t, ∀ δ', ext2 es as δ' = δ' ++ t
  | [], _, _ => ⟨[], fun _ => by rw [List.append_nil]; rfl⟩
  | .sl _ :: es, [], _ => ⟨[], fun _ => by rw [List.append_nil]; rfl⟩
  | .dt _ :: es, [], _ => ⟨[], fun _ => by rw [List.append_nil]; rfl⟩
  | .rg _ _ _ :: es, [], _ => ⟨[], fun _ => by rw [List.append_nil]; rfl⟩
  | .sl _ :: es, _ :: as, δ => ext2_app es as δ
  | .dt _ :: es, _ :: as, δ => ext2_app es as δ
  | .rg _ _ _ :: es, s :: as, δ => by
    obtain ⟨t, h⟩ := ext2_app es as δ
    exact ⟨t ++ [s], fun δ' => by
      show ext2 es as δ' ++ [s] = _
      rw [h, List.append_assoc]⟩
theorem backS_len : ∀ (es : List Ev) (as : List SD) (δ : Dl), (backS es as δ).length = δ.length
  | [], _, _ => rfl
  | .sl _ :: es, [], _ => rfl
  | .dt _ :: es, [], _ => rfl
  | .rg _ _ _ :: es, [], _ => rfl
  | .sl i :: es, s :: as, δ => by
    show ((backS es as δ).set i s).length = _
    rw [List.length_set, backS_len es as δ]
  | .dt _ :: es, _ :: as, δ => backS_len es as δ
  | .rg _ _ _ :: es, _ :: as, δ => backS_len es as δ
theorem entsW_len (n : Nat) : ∀ es : List Ev, (entsW n es).length = es.length
  | [] => rfl
  | .sl _ :: es => congrArg (· + 1) (entsW_len n es)
  | .dt _ :: es => congrArg (· + 1) (entsW_len n es)
  | .rg _ _ _ :: es => congrArg (· + 1) (entsW_len n es)
theorem bors_ents {n : Nat} : ∀ {es : List Ev} {i : Nat}, i ∈ bors (entsW n es) → i ∈ borsW es ∨ (n ≤ i ∧ i < n + cntW es)
  | [], _, h => by simp [entsW, bors] at h
  | .sl j :: es, i, h => by
    have h : i ∈ j :: bors (entsW n es) := h
    rcases List.mem_cons.mp h with rfl | h
    · exact .inl List.mem_cons_self
    · exact (bors_ents h).imp (List.mem_cons_of_mem _) id
  | .dt _ :: es, i, h => bors_ents (es := es) h
  | .rg _ _ _ :: es, i, h => by
    have h : i ∈ (n + cntW es) :: bors (entsW n es) := h
    rcases List.mem_cons.mp h with rfl | h
    · exact .inr ⟨by omega, by show _ < n + (cntW es + 1); omega⟩
    · exact (bors_ents h).imp id fun ⟨a, b⟩ => ⟨a, by show _ < n + (cntW es + 1); omega⟩
theorem ents_nd {n : Nat} : ∀ {es : List Ev}, (borsW es).Nodup → (∀ i ∈ borsW es, i < n) → (bors (entsW n es)).Nodup
  | [], _, _ => List.nodup_nil
  | .sl j :: es, h, hl => by
    have h : (j :: borsW es).Nodup := h
    rw [List.nodup_cons] at h
    show (j :: bors (entsW n es)).Nodup
    refine List.nodup_cons.mpr ⟨fun z => ?_, ents_nd h.2 fun i hi => hl i (List.mem_cons_of_mem _ hi)⟩
    rcases bors_ents z with z | z
    · exact h.1 z
    · have := hl j List.mem_cons_self
      omega
  | .dt _ :: es, h, hl => ents_nd (es := es) h hl
  | .rg _ _ _ :: es, h, hl => by
    show ((n + cntW es) :: bors (entsW n es)).Nodup
    refine List.nodup_cons.mpr ⟨fun z => ?_, ents_nd (es := es) h hl⟩
    rcases bors_ents z with z | z
    · have := hl _ z
      omega
    · omega
theorem resD_app {D : Dl} {s : SD} {e : Ent} (h : ∀ i, e = .inl i → i < D.length) : resD (D ++ [s]) e = resD D e := by
  cases e with
  | inr d => rfl
  | inl i =>
    show ((D ++ [s])[i]?).getD .un = (D[i]?).getD .un
    rw [List.getElem?_append_left (h i rfl)]
theorem res_ents {δ : Dl} : ∀ {es : List Ev}, (∀ i ∈ borsW es, i < δ.length) → (entsW δ.length es).map (resD (extD es δ)) = es.map (resW δ)
  | [], _ => rfl
  | .sl i :: es, h => by
    have ih := res_ents (δ := δ) (es := es) fun i hi => h i (List.mem_cons_of_mem _ hi)
    show resD (extD es δ) (.inl i) :: (entsW δ.length es).map (resD (extD es δ)) = resW δ (.sl i) :: es.map (resW δ)
    rw [ih]
    congr 1
    show ((extD es δ)[i]?).getD .un = (δ[i]?).getD .un
    have : ∀ es : List Ev, ∃ t, extD es δ = δ ++ t := fun es => by
      induction es with
      | nil => exact ⟨[], by simp [extD]⟩
      | cons e es ih =>
        obtain ⟨t, ht⟩ := ih
        cases e with
        | sl _ => exact ⟨t, ht⟩
        | dt _ => exact ⟨t, ht⟩
        | rg a L j => exact ⟨t ++ [.ow a (OD.rg L)], by show extD es δ ++ _ = _; rw [ht, List.append_assoc]⟩
    obtain ⟨t, ht⟩ := this es
    rw [ht, List.getElem?_append_left (h i List.mem_cons_self)]
  | .dt d :: es, h => by
    show SD.dt d :: (entsW δ.length es).map (resD (extD es δ)) = SD.dt d :: es.map (resW δ)
    rw [res_ents (δ := δ) (es := es) h]
  | .rg a L j :: es, h => by
    have ih := res_ents (δ := δ) (es := es) h
    show resD (extD es δ ++ [.ow a (OD.rg L)]) (.inl (δ.length + cntW es)) :: (entsW δ.length es).map (resD (extD es δ ++ [.ow a (OD.rg L)])) = SD.ow a (OD.rg L) :: es.map (resW δ)
    rw [← ih]
    congr 1
    · show ((extD es δ ++ [SD.ow a (OD.rg L)])[δ.length + cntW es]?).getD .un = _
      rw [← ext_len es δ, List.getElem?_concat_length]
      rfl
    · refine List.map_congr_left fun e he => resD_app fun i hi => ?_
      subst hi
      obtain ⟨k, hk⟩ := List.mem_iff_getElem?.mp he
      rw [ext_len]
      rcases bors_ents (mem_bors.mpr ⟨k, hk⟩) with z | z
      · have := h i z
        omega
      · exact z.2
theorem back_app {s : SD} : ∀ {es : List Ent} {as : List SD} {D : Dl}, (∀ i ∈ bors es, i < D.length) → back es as (D ++ [s]) = back es as D ++ [s]
  | [], _, _, _ => by simp [back]
  | .inl i :: es, [], _, _ => by simp [back]
  | .inr d :: es, [], _, _ => by simp [back]
  | .inl i :: es, a :: as, D, h => by
    show (back es as (D ++ [s])).set i a = (back es as D).set i a ++ [s]
    rw [back_app (es := es) fun i hi => h i (List.mem_cons_of_mem _ hi), List.set_append_left _ _ (by rw [back_len]; exact h i List.mem_cons_self)]
  | .inr d :: es, a :: as, D, h => back_app (es := es) (as := as) h
theorem back_ents {δ : Dl} : ∀ {es : List Ev} {as : List SD}, as.length = es.length → (∀ i ∈ borsW es, i < δ.length) → back (entsW δ.length es) as (extD es δ) = ext2 es as (backS es as δ)
  | [], [], _, _ => by simp [back, entsW, extD, ext2, backS]
  | _ :: _, [], h, _ => by simp at h
  | .sl i :: es, s :: as, hl, h => by
    show (back (entsW δ.length es) as (extD es δ)).set i s = ext2 es as ((backS es as δ).set i s)
    rw [back_ents (es := es) (as := as) (by simpa using hl) fun i hi => h i (List.mem_cons_of_mem _ hi)]
    obtain ⟨t, ht⟩ := ext2_app es as δ
    rw [ht, ht, List.set_append_left _ _ (by rw [backS_len]; exact h i List.mem_cons_self)]
  | .dt d :: es, s :: as, hl, h => back_ents (es := es) (as := as) (by simpa using hl) h
  | .rg a L j :: es, s :: as, hl, h => by
    show (back (entsW δ.length es) as (extD es δ ++ [.ow a (OD.rg L)])).set (δ.length + cntW es) s = ext2 es as (backS es as δ) ++ [s]
    rw [back_app fun i hi => by
      rw [ext_len]
      rcases bors_ents hi with z | z
      · have := h i z
        omega
      · exact z.2]
    have e : δ.length + cntW es = (back (entsW δ.length es) as (extD es δ)).length := by rw [back_len, ext_len]
    rw [e, List.set_append_right _ _ (Nat.le_refl _), Nat.sub_self, back_ents (es := es) (as := as) (by simpa using hl) h]
    rfl
section
variable {K : PySem.W.Frag} {H0 H Hs : Hp} {σ : L2.St} {δ : Dl}
theorem Evs.push {δ : Dl} {H Hs : Hp} : ∀ {B B' : Hp} {vs : List V} {es : List Ev}, Evs K H0 Hs σ B B' vs es → Rep K B' H0 σ δ H Hs → (∀ i ∈ borsW es, i < δ.length) → Rep K B H0 (extS es σ) (extD es δ) H Hs ∧ Ents K Hs (extS es σ) vs (entsW δ.length es)
  | _, _, _, _, .nil, R, _ => ⟨R, .nil⟩
  | _, _, _, _, .sl (i := i) (es := es) h t, R, hl => by
    obtain ⟨R1, r1⟩ := t.push R fun i hi => hl i (List.mem_cons_of_mem _ hi)
    refine ⟨R1, .cons (e := .inl i) ?_ r1⟩
    have : ∀ es : List Ev, ∃ t, extS es σ = σ ++ t := fun es => by
      induction es with
      | nil => exact ⟨[], by simp [extS]⟩
      | cons e es ih =>
        obtain ⟨t, ht⟩ := ih
        cases e with
        | sl _ => exact ⟨t, ht⟩
        | dt _ => exact ⟨t, ht⟩
        | rg a L j => exact ⟨t ++ [some (.ref a)], by show extS es σ ++ _ = _; rw [ht, List.append_assoc]⟩
    obtain ⟨u, hu⟩ := this es
    show (extS es σ)[i]? = _
    rw [hu, List.getElem?_append_left (lt_of_get h)]
    exact h
  | _, _, _, _, .dt (d := d) h t, R, hl => by
    obtain ⟨R1, r1⟩ := t.push R hl
    exact ⟨R1, .cons (e := .inr d) h r1⟩
  | _, _, _, _, .rg (a := a) (L := L) (es := es) h t, R, hl => by
    obtain ⟨R1, r1⟩ := t.push R hl
    have R2 := R1.pushR (a := a) h
    refine ⟨R2, .cons (e := .inl (δ.length + cntW es)) ?_ ?_⟩
    · show (extS es σ ++ [some (.ref a)])[δ.length + cntW es]? = _
      rw [← ext_len es δ, ← R1.len, List.getElem?_concat_length]
    · have : ∀ {vs : List V} {en : List Ent}, Ents K Hs (extS es σ) vs en → Ents K Hs (extS es σ ++ [some (.ref a)]) vs en := by
        intro vs en r
        induction r with
        | nil => exact .nil
        | cons r _ ih =>
          refine .cons ?_ ih
          rename_i v _ e _ _
          cases e with
          | inr d => exact r
          | inl i =>
            have r : (extS es σ)[i]? = some (some v) := r
            show (extS es σ ++ [some (.ref a)])[i]? = _
            rw [List.getElem?_append_left (lt_of_get r)]
            exact r
      exact this r1
theorem pop_j {Q : Dl → Prop} : ∀ {es : List Ev} {as : List SD} {δ : Dl}, BackJ es as δ Q → ∃ δ', Q δ' ∧ ∀ {B H0 H Hs : Hp} {σ : L2.St}, Rep K B H0 (extS es σ) (ext2 es as δ) H Hs → Rep K B H0 σ δ' H Hs
  | [], [], δ, h => ⟨δ, h, fun R => R⟩
  | [], _ :: _, _, h => h.elim
  | .sl _ :: _, [], _, h => h.elim
  | .dt _ :: _, [], _, h => h.elim
  | .rg _ _ none :: _, [], _, h => h.elim
  | .rg _ _ (some _) :: _, [], _, h => h.elim
  | .sl _ :: es, _ :: as, δ, h => pop_j (es := es) (as := as) h
  | .dt _ :: es, _ :: as, δ, h => pop_j (es := es) (as := as) h
  | .rg a L none :: es, s :: as, δ, h => by
    obtain ⟨δ', q, k⟩ := pop_j (es := es) (as := as) h
    exact ⟨δ', q, fun R => k R.popX⟩
  | .rg a L (some j) :: es, s :: as, δ, h => by
    obtain ⟨L', p, M, M', hs, hj, hp, h⟩ := h
    obtain ⟨δ', q, k⟩ := pop_j (es := es) (as := as) h
    refine ⟨δ', q, fun {B H0 H Hs σ} R => k ?_⟩
    subst hs
    have R : Rep K B H0 (extS es σ ++ [some (.ref a)]) (ext2 es as δ ++ [.ow a (OD.rg L')]) H Hs := R
    obtain ⟨B', R1, hh⟩ := R.popT
    obtain ⟨t, ht⟩ := ext2_app es as δ
    have hj2 : (ext2 es as δ)[j]? = some (SD.ow p (OD.rg M)) := by
      rw [ht, List.getElem?_append_left (lt_of_get hj)]
      exact hj
    have R2 := R1.joinR hh hj2
    have R3 := R2.permR (List.getElem?_set_self (lt_of_get hj2)) hp
    rw [List.set_set] at R3
    rw [ht] at R3 ⊢
    rw [List.set_append_left _ _ (lt_of_get hj)] at R3
    exact R3
end
end EL
namespace EL
open PySem PySem.Spec PyProof.Rows L2
abbrev TDW := Dl → (List Ev → Dl → Prop) → Prop
def SimW (Z : ZX) (te : TA) (t : TDW) : Prop := ∀ {B H0 : Hp} [XOk Z B H0] {σ : L2.St} {δ : Dl} {H Hs : Hp} {Q : List Ev → Dl → Prop} {Q' : List V → Hp → Prop}, Rep Z.K B H0 σ δ H Hs → t δ Q →
  (∀ vs es δ' H' Hs' B', Rep Z.K B' H0 σ δ' H' Hs' → Evs Z.K H0 Hs' σ B B' vs es → Ex Hs Hs' → Q es δ' → Q' vs H') → te σ H Q'
structure JQ (X : Cy) (es : List Expr) (u : TA) (t : TDW) : Prop where
  p : PA X es u
  s : SimW X.z u t
structure Mode (X : Cy) (E : L2.St → XK) (xk : Exn → Dl → Prop) : Prop where
  pas : ∀ σ, PassesAt (L2.CX X.prog X.w) X.toCx σ (E σ)
  sim : ∀ {B H0 : Hp} [XOk X.z B H0] {x : Exn} {σ : L2.St} {δ : Dl} {H Hs : Hp} {d : Option Addr}, Rep X.K B H0 σ δ H Hs → XcRep X.K B H0 σ δ H Hs x d → xk x δ → E σ x.c d H
abbrev xNo : Exn → Dl → Prop := fun _ _ => False
abbrev eNo : L2.St → XK := fun _ => E0
theorem Mode.never (X : Cy) : Mode X eNo xNo := ⟨fun σ => fun _ _ _ _ _ _ h => pass00 (X := X.toCx) _ σ _ _ _ _ ‹_› h, fun _ _ h => h.elim⟩
theorem Mode.may {X : Cy} (tk : Takes X.toCx X.W) : Mode X (WE X.W) X.xk := ⟨passAt tk, fun {B H0} [hX : XOk _ _ _] {x σ δ H Hs d} R r q => hX.out R r q⟩
theorem BackJ.mono {Q Q2 : Dl → Prop} (k : ∀ δ, Q δ → Q2 δ) : ∀ {es : List Ev} {as : List SD} {δ : Dl}, BackJ es as δ Q → BackJ es as δ Q2
  | [], [], δ, h => k δ h
  | [], _ :: _, _, h => h.elim
  | .sl _ :: _, [], _, h => h.elim
  | .dt _ :: _, [], _, h => h.elim
  | .rg _ _ none :: _, [], _, h => h.elim
  | .rg _ _ (some _) :: _, [], _, h => h.elim
  | .sl _ :: es, _ :: as, δ, h => BackJ.mono k (es := es) (as := as) h
  | .dt _ :: es, _ :: as, δ, h => BackJ.mono k (es := es) (as := as) h
  | .rg _ _ none :: es, _ :: as, δ, h => BackJ.mono k (es := es) (as := as) h
  | .rg a L (some j) :: es, s :: as, δ, h => by
    obtain ⟨L', p, M, M', hs, hj, hp, h⟩ := h
    exact ⟨L', p, M, M', hs, hj, hp, BackJ.mono k (es := es) (as := as) h⟩
theorem BackW.mono {es : List Ev} {as : List SD} {δ : Dl} {Q Q2 : Dl → Prop} (k : ∀ δ, Q δ → Q2 δ) (h : BackW es as δ Q) : BackW es as δ Q2 := BackJ.mono k h
section
variable {K : PySem.W.Frag} {dsp : DSp} {B B' H0 H1 Hs1 : Hp} {σ : L2.St} {Q' : VK} {E' : XK} {vs : List V} {es : List Ev} {δ1 : Dl} {Qr : RS → Dl → Prop}
theorem callW_core (R1 : Rep K B' H0 σ δ1 H1 Hs1) (r1 : Evs K H0 Hs1 σ B B' vs es) (nd : (borsW es).Nodup) (hlt : ∀ i ∈ borsW es, i < δ1.length)
    (hd : ∀ Q2 : RS → List SD → Prop, (∀ r as', as'.length = es.length → BackW es as' δ1 (Qr r) → Q2 r as') → dsp (es.map (resW δ1)) Q2)
    (xq : ∀ x d δ' H' Hs', Rep K B H0 σ δ' H' Hs' → XcRep K B H0 σ δ' H' Hs' x d → Qr (.exn x) δ' → E' x.c d H')
    (k : ∀ v r δ' H' Hs', Rep K B H0 σ δ' H' Hs' → Ex Hs1 Hs' → (∀ d, r = .dt d → Dp K Hs' v d) → (∀ xs, r = .new xs → ∃ p vs, v = .ref p ∧ Rep K (upd B p (.lst vs)) H0 σ δ' H' Hs' ∧ B p = none ∧ H0 p = none ∧ DpAll K Hs' vs xs) →
      (∀ a L, r = .rg a L → v = .ref a ∧ ∃ B', Rep K B' H0 σ δ' H' Hs' ∧ Hid K B B' H0 Hs' L) → (∀ x, r ≠ .exn x) → Qr r δ' → Q' v H') : spOf K dsp vs H1 Q' E' := by
  obtain ⟨R2, r2⟩ := r1.push R1 hlt
  refine call_core (Qr := fun r δx => ∃ as', as'.length = es.length ∧ δx = ext2 es as' (backS es as' δ1) ∧ BackW es as' δ1 (Qr r)) R2 r2 (ents_nd nd hlt) (fun i hi => ?_) (fun Q2 h2 => ?_) (fun x d δ' H' Hs' R xr q => ?_) (fun v r δ' H' Hs' R x rd rn _ rr nx q => ?_)
  · rw [ext_len]
    rcases bors_ents hi with z | z
    · have := hlt i z
      omega
    · exact z.2
  · rw [res_ents hlt]
    refine hd Q2 fun r as' hl q => h2 r as' (by rw [entsW_len]; exact hl) ⟨as', hl, back_ents hl hlt, q⟩
  · obtain ⟨as', hl, rfl, q⟩ := q
    obtain ⟨δ', q, kk⟩ := pop_j q
    refine xq x d δ' H' Hs' (kk R) ?_ q
    rcases xr with z | ⟨a, ws, ed, R', h1, h2, h3⟩
    · exact .inl z
    · exact .inr ⟨a, ws, ed, kk R', h1, h2, h3⟩
  · obtain ⟨as', hl, rfl, q⟩ := q
    obtain ⟨δ', q, kk⟩ := pop_j q
    refine k v r δ' H' Hs' (kk R) x rd (fun xs e => ?_) (fun a L e => ?_) nx q
    · obtain ⟨p, ws, h1, R', h2, h3, h4⟩ := rn xs e
      exact ⟨p, ws, h1, kk R', h2, h3, h4⟩
    · obtain ⟨h1, B2, R', h2⟩ := rr a L e
      exact ⟨h1, B2, kk R', h2⟩
end
def CallOk (es : List Ev) (δ : Dl) : Prop := (borsW es).Nodup ∧ ∀ i ∈ borsW es, i < δ.length
def dCallQ (xk : Exn → Dl → Prop) (dsp : DSp) (t : TDW) : TDE := fun δ Q => t δ fun es δ' => CallOk es δ' ∧ ∀ Q2 : RS → List SD → Prop, (∀ d as', as'.length = es.length → BackW es as' δ' (Q d) → Q2 (.dt d) as') → (∀ x as', as'.length = es.length → BackW es as' δ' (xk x) → Q2 (.exn x) as') → dsp (es.map (resW δ')) Q2
def nCallQ (xk : Exn → Dl → Prop) (dsp : DSp) (t : TDW) : TDL := fun δ Q => t δ fun es δ' => CallOk es δ' ∧ ∀ Q2 : RS → List SD → Prop, (∀ xs as', as'.length = es.length → BackW es as' δ' (Q xs) → Q2 (.new xs) as') → (∀ x as', as'.length = es.length → BackW es as' δ' (xk x) → Q2 (.exn x) as') → dsp (es.map (resW δ')) Q2
def vCallQ (xk : Exn → Dl → Prop) (dsp : DSp) (t : TDW) : TDV := fun δ Q => t δ fun es δ' => CallOk es δ' ∧ ∀ Q2 : RS → List SD → Prop, (∀ d as', as'.length = es.length → BackW es as' δ' (Q (.dt d) []) → Q2 (.dt d) as') → (∀ a L as', as'.length = es.length → BackW es as' δ' (Q (.rf a) L) → Q2 (.rg a L) as') → (∀ x as', as'.length = es.length → BackW es as' δ' (xk x) → Q2 (.exn x) as') → dsp (es.map (resW δ')) Q2
section
variable {X : Cy} {E : L2.St → XK} {xk : Exn → Dl → Prop} {dsp : DSp} {us : TA} {tw : TDW}
theorem sim_callQ (m : Mode X E xk) (hs : SimW X.z us tw) : SimE X.z (tCallS (spOf X.K dsp) E us) (dCallQ xk dsp tw) := by
  intro B H0 hX σ δ H Hs Q Q' R h k
  refine hs R h fun vs es δ1 H1 Hs1 B1 R1 r1 e1 ⟨⟨nd, hlt⟩, hd⟩ => ?_
  refine callW_core (Qr := fun r δ' => (∃ d, r = .dt d ∧ Q d δ') ∨ ∃ x, r = .exn x ∧ xk x δ') R1 r1 nd hlt (fun Q2 h2 => hd Q2 (fun d as' hl q => h2 _ _ hl (BackW.mono (fun δ q => .inl ⟨d, rfl, q⟩) q)) fun x as' hl q => h2 _ _ hl (BackW.mono (fun δ q => .inr ⟨x, rfl, q⟩) q)) (fun x d δ' H' Hs' R' xr q => ?_) fun v r δ' H' Hs' R' x rd _ _ nx q => ?_
  · rcases q with ⟨_, z, _⟩ | ⟨y, z, q⟩
    · cases z
    · cases z
      exact m.sim R' xr q
  · rcases q with ⟨d, ed, q⟩ | ⟨y, z, q⟩
    · exact k v d δ' H' Hs' R' (e1.trans x) (rd d ed) q
    · exact absurd z (nx y)
theorem sim_callNq (m : Mode X E xk) (hs : SimW X.z us tw) : SimN X.z (tCallS (spOf X.K dsp) E us) (nCallQ xk dsp tw) := by
  intro B H0 hX σ δ H Hs Q Q' R h k
  refine hs R h fun vs es δ1 H1 Hs1 B1 R1 r1 e1 ⟨⟨nd, hlt⟩, hd⟩ => ?_
  refine callW_core (Qr := fun r δ' => (∃ d, r = .new d ∧ Q d δ') ∨ ∃ x, r = .exn x ∧ xk x δ') R1 r1 nd hlt (fun Q2 h2 => hd Q2 (fun d as' hl q => h2 _ _ hl (BackW.mono (fun δ q => .inl ⟨d, rfl, q⟩) q)) fun x as' hl q => h2 _ _ hl (BackW.mono (fun δ q => .inr ⟨x, rfl, q⟩) q)) (fun x d δ' H' Hs' R' xr q => ?_) fun v r δ' H' Hs' R' x _ rn _ nx q => ?_
  · rcases q with ⟨_, z, _⟩ | ⟨y, z, q⟩
    · cases z
    · cases z
      exact m.sim R' xr q
  · rcases q with ⟨d, ed, q⟩ | ⟨y, z, q⟩
    · obtain ⟨p, ws, ev, R2, hB, h0, ha⟩ := rn d ed
      subst ev
      exact k p ws d δ' H' Hs' R2 hB h0 (e1.trans x) ha q
    · exact absurd z (nx y)
theorem sim_callV (m : Mode X E xk) (hs : SimW X.z us tw) : SimV X.z (tCallS (spOf X.K dsp) E us) (vCallQ xk dsp tw) := by
  intro B H0 hX σ δ H Hs Q Q' R h k
  refine hs R h fun vs es δ1 H1 Hs1 B1 R1 r1 e1 ⟨⟨nd, hlt⟩, hd⟩ => ?_
  refine callW_core (Qr := fun r δ' => (∃ d, r = .dt d ∧ Q (.dt d) [] δ') ∨ (∃ a L, r = .rg a L ∧ Q (.rf a) L δ') ∨ ∃ x, r = .exn x ∧ xk x δ') R1 r1 nd hlt (fun Q2 h2 => hd Q2 (fun d as' hl q => h2 _ _ hl (BackW.mono (fun δ q => .inl ⟨d, rfl, q⟩) q)) (fun a L as' hl q => h2 _ _ hl (BackW.mono (fun δ q => .inr (.inl ⟨a, L, rfl, q⟩)) q)) fun x as' hl q => h2 _ _ hl (BackW.mono (fun δ q => .inr (.inr ⟨x, rfl, q⟩)) q)) (fun x d δ' H' Hs' R' xr q => ?_) fun v r δ' H' Hs' R' x rd _ rr nx q => ?_
  · rcases q with ⟨_, z, _⟩ | ⟨_, _, z, _⟩ | ⟨y, z, q⟩
    · cases z
    · cases z
    · cases z
      exact m.sim R' xr q
  · rcases q with ⟨d, ed, q⟩ | ⟨a, L, ed, q⟩ | ⟨y, z, q⟩
    · exact k v (.dt d) [] δ' H' Hs' B R' Hid.nil (e1.trans x) (rd d ed) q
    · obtain ⟨ev, B2, R2, hh⟩ := rr a L ed
      exact k v (.rf a) L δ' H' Hs' B2 R2 hh (e1.trans x) ev q
    · exact absurd z (nx y)
end
section
variable {X : Cy} {e : Expr} {es : List Expr} {pos kpos : Pos} {ue : TE} {ur us : TA} {t : TDE} {tv : TDV} {tw : TDW} {kws : List Keyword} {nm : Option Str}
def wNil : TDW := fun δ Q => Q [] δ
def wCons (t : TDE) (u : TDW) : TDW := fun δ Q => t δ fun d δ1 => u δ1 fun es δ2 => Q (.dt d :: es) δ2
def wLend (i : Nat) (u : TDW) : TDW := fun δ Q => (∃ p o, δ[i]? = some (.ow p o)) ∧ u δ fun es δ2 => Q (.sl i :: es) δ2
def wAny (i : Nat) (u : TDW) : TDW := fun δ Q => (∃ p o, δ[i]? = some (.ow p o) ∧ u δ fun es δ2 => Q (.sl i :: es) δ2) ∨ ∃ d, δ[i]? = some (.dt d) ∧ u δ fun es δ2 => Q (.dt d :: es) δ2
def evV : RV → Lf → Ev
  | .dt d, _ => .dt d
  | .rf a, L => .rg a L none
def wVal (tv : TDV) (u : TDW) : TDW := fun δ Q => tv δ fun r L δ1 => u δ1 fun es δ2 => Q (evV r L :: es) δ2
def Loan (δ : Dl) (L1 : Lf) (k : Nat) (Q : Dl → Prop) : Prop := ∃ (p : Addr) (M L2 : Lf), δ[k]? = some (SD.ow p (OD.rg M)) ∧ M.Perm (L1 ++ L2) ∧ Q (δ.set k (.ow p (OD.rg L2)))
def wLoan (tv : TDV) (u : TDW) : TDW := fun δ Q => tv δ fun r L δ1 => ∃ a k L1, r = .rf a ∧ L = [] ∧ Loan δ1 L1 k fun δ1' => u δ1' fun es δ2 => Q (.rg a L1 (some k) :: es) δ2
theorem simw_nil : SimW X.z tNil wNil := fun R h k => k _ _ _ _ _ _ R .nil (Ex.refl _) h
theorem simw_cons (ha : SimE X.z ue t) (hr : SimW X.z ur tw) : SimW X.z (tCons ue ur) (wCons t tw) := fun R h k => ha R h fun v d δ1 H1 Hs1 R1 e1 r1 h1 => hr R1 h1 fun vs es δ2 H2 Hs2 B2 R2 r2 e2 h2 => k _ _ _ _ _ _ R2 (.dt (dp_mono e2 r1) r2) (e1.trans e2) h2
theorem Rep.slot {K : PySem.W.Frag} {B H0 H Hs : Hp} {σ : L2.St} {δ : Dl} {i : Nat} {p : Addr} {o : OD} (R : Rep K B H0 σ δ H Hs) (h : δ[i]? = some (.ow p o)) : σ[i]? = some (some (.ref p)) := R.ref h
theorem simw_lend {i : Nat} (hr : SimW X.z ur tw) : SimW X.z (tCons (tVar i) ur) (wLend i tw) := fun R ⟨⟨p, o, h⟩, q⟩ k => ⟨_, R.slot h, hr R q fun vs es δ2 H2 Hs2 B2 R2 r2 e2 h2 => k _ _ _ _ _ _ R2 (.sl (R.slot h) r2) e2 h2⟩
theorem simw_any {i : Nat} (hr : SimW X.z ur tw) : SimW X.z (tCons (tVar i) ur) (wAny i tw) := fun R h k => by
  rcases h with ⟨p, o, h, q⟩ | ⟨d, h, q⟩
  · exact simw_lend hr R ⟨⟨p, o, h⟩, q⟩ k
  · obtain ⟨v, ev, r⟩ := R.get h
    exact ⟨v, ev, hr R q fun vs es δ2 H2 Hs2 B2 R2 r2 e2 h2 => k _ _ _ _ _ _ R2 (.dt (dp_mono e2 r) r2) e2 h2⟩
theorem simw_val (ha : SimV X.z ue tv) (hr : SimW X.z ur tw) : SimW X.z (tCons ue ur) (wVal tv tw) := fun {B H0} [hX : XOk _ _ _] {σ δ H Hs Q Q'} R h k => ha R h fun v r L δ1 H1 Hs1 B1 R1 hh e1 r1 h1 => by
  cases r with
  | dt d => exact hr (R1.weaken hh.ex) h1 fun vs es δ2 H2 Hs2 B2 R2 r2 e2 h2 => k _ _ _ _ _ _ R2 (.dt (dp_mono e2 r1) r2) (e1.trans e2) h2
  | rf a =>
    haveI := hX.mono hh.ex
    obtain rfl : v = .ref a := r1
    exact hr R1 h1 fun vs es δ2 H2 Hs2 B2 R2 r2 e2 h2 => k _ _ _ _ _ _ R2 (.rg (hh.mono e2) r2) (e1.trans e2) h2
theorem simw_loan (ha : SimV X.z ue tv) (hr : SimW X.z ur tw) : SimW X.z (tCons ue ur) (wLoan tv tw) := fun {B H0} [hX : XOk _ _ _] {σ δ H Hs Q Q'} R h k => ha R h fun v r L δ1 H1 Hs1 B1 R1 hh e1 r1 ⟨a, j, L1, er, eL, p, M, L2, hj, hp, h1⟩ => by
  subst er eL
  obtain rfl : v = .ref a := r1
  obtain ⟨B2, R2, h2⟩ := (R1.weaken hh.ex).splitR hj hp
  haveI := hX.mono h2.ex
  exact hr R2 h1 fun vs es δ2 H2 Hs2 B3 R3 r3 e2 q2 => k _ _ _ _ _ _ R3 (.rg (h2.mono e2) r3) (e1.trans e2) q2
theorem jq_nil : JQ X [] tNil wNil := ⟨pa_nil, simw_nil⟩
theorem jq_cons (ha : JE X e ue t) (hr : JQ X es ur tw) (hs : starEach (e :: es) X.env = (false, eval e X.env) :: starEach es X.env := by rfl) : JQ X (e :: es) (tCons ue ur) (wCons t tw) := ⟨pa_cons ha.p hr.p hs, simw_cons ha.s hr.s⟩
theorem jq_own (i : Nat) {x : Str} {p : Pos} (hr : JQ X es ur tw) (hN : X.N[i]? = some x := by rfl) (hv : Vis X.env.scope x := by first | exact Or.inl rfl | exact Or.inr (Or.inl rfl) | exact Or.inr (Or.inr rfl)) (hd : (x == ("__debug__" : Str)) = false := by decide)
    (hcd : (x == ("__classdict__" : Str)) = false := by decide) (hs : starEach (.Name x p :: es) X.env = (false, eval (.Name x p) X.env) :: starEach es X.env := by rfl) : JQ X (.Name x p :: es) (tCons (tVar i) ur) (wLend i tw) := ⟨pa_cons (pe_var hN hv hd hcd) hr.p hs, simw_lend hr.s⟩
theorem jq_any (i : Nat) {x : Str} {p : Pos} (hr : JQ X es ur tw) (hN : X.N[i]? = some x := by rfl) (hv : Vis X.env.scope x := by first | exact Or.inl rfl | exact Or.inr (Or.inl rfl) | exact Or.inr (Or.inr rfl)) (hd : (x == ("__debug__" : Str)) = false := by decide)
    (hcd : (x == ("__classdict__" : Str)) = false := by decide) (hs : starEach (.Name x p :: es) X.env = (false, eval (.Name x p) X.env) :: starEach es X.env := by rfl) : JQ X (.Name x p :: es) (tCons (tVar i) ur) (wAny i tw) := ⟨pa_cons (pe_var hN hv hd hcd) hr.p hs, simw_any hr.s⟩
theorem jq_val (ha : JV X e ue tv) (hr : JQ X es ur tw) (hs : starEach (e :: es) X.env = (false, eval e X.env) :: starEach es X.env := by rfl) : JQ X (e :: es) (tCons ue ur) (wVal tv tw) := ⟨pa_cons ha.p hr.p hs, simw_val ha.s hr.s⟩
theorem jq_loan (ha : JV X e ue tv) (hr : JQ X es ur tw) (hs : starEach (e :: es) X.env = (false, eval e X.env) :: starEach es X.env := by rfl) : JQ X (e :: es) (tCons ue ur) (wLoan tv tw) := ⟨pa_cons ha.p hr.p hs, simw_loan ha.s hr.s⟩
structure JKq (X : Cy) (kws : List Keyword) (u : TA) (t : TDW) : Prop where
  p : PK X kws u
  s : SimW X.z u t
theorem jkq_nil : JKq X [] tNil wNil := ⟨pk_nil, simw_nil⟩
theorem jkq_cons (ha : JE X e ue t) (hr : JKq X kws ur tw) : JKq X (⟨nm, e, kpos⟩ :: kws) (tCons ue ur) (wCons t tw) := ⟨pk_cons ha.p hr.p, simw_cons ha.s hr.s⟩
theorem jkq_val (ha : JV X e ue tv) (hr : JKq X kws ur tw) : JKq X (⟨nm, e, kpos⟩ :: kws) (tCons ue ur) (wVal tv tw) := ⟨pk_cons ha.p hr.p, simw_val ha.s hr.s⟩
theorem jkq_own (i : Nat) {x : Str} {p : Pos} (hr : JKq X kws ur tw) (hN : X.N[i]? = some x := by rfl) (hv : Vis X.env.scope x := by first | exact Or.inl rfl | exact Or.inr (Or.inl rfl) | exact Or.inr (Or.inr rfl)) (hd : (x == ("__debug__" : Str)) = false := by decide)
    (hcd : (x == ("__classdict__" : Str)) = false := by decide) : JKq X (⟨nm, .Name x p, kpos⟩ :: kws) (tCons (tVar i) ur) (wLend i tw) := ⟨pk_cons (pe_var hN hv hd hcd) hr.p, simw_lend hr.s⟩
end
section
variable {X : Cy} {e : Expr} {es : List Expr} {pos : Pos} {us : TA} {tw : TDW} {x : Str} {p : Pos} {f : Addr} {fd : FuncData} {ps : List Str} {n : Nat} {dsp : DSp} {K' : PySem.W.Frag} {E : L2.St → XK} {xk : Exn → Dl → Prop}
theorem pq_call (m : Mode X E xk) (F : FnOk X.prog X.w X.K X.mg X.base (L2.CX X.prog X.w) n f fd ps (spOf K' dsp)) (hr : Room n X.A) (hm : X.mg x = some (.ref f)) (hk : PySem.W.keepIn X.K (.ref f) = true) (hb : Binds X.K fd ps []) (ha : PA X (e :: es) us) (hg : Gl X x := by rfl) (hdb : (x == ("__debug__" : Str)) = false := by decide)
    (he : starEach (e :: es) X.env = (false, eval e X.env) :: starEach es X.env := by rfl) (hpl : (backTo pos (starEach es X.env)).any (·.1) = false := by rfl) : PE X (.Call (.Name x p) (e :: es) [] pos) (tCallS (spOf K' dsp) E us) := pe_callS F hr hg hm hk hb m.pas ha hdb he hpl
theorem je_callQ (m : Mode X E xk) (F : FnOk X.prog X.w X.K X.mg X.base (L2.CX X.prog X.w) n f fd ps (spOf K' dsp)) (hr : Room n X.A) (hm : X.mg x = some (.ref f)) (hk : PySem.W.keepIn X.K (.ref f) = true) (hb : Binds X.K fd ps []) (ha : JQ X (e :: es) us tw) (hK : X.K = K' := by rfl) (hg : Gl X x := by rfl) (hdb : (x == ("__debug__" : Str)) = false := by decide)
    (he : starEach (e :: es) X.env = (false, eval e X.env) :: starEach es X.env := by rfl) (hpl : (backTo pos (starEach es X.env)).any (·.1) = false := by rfl) : JE X (.Call (.Name x p) (e :: es) [] pos) (tCallS (spOf K' dsp) E us) (dCallQ xk dsp tw) := by
  subst hK
  exact ⟨pq_call m F hr hm hk hb ha.p hg hdb he hpl, sim_callQ m ha.s⟩
theorem jn_callQ (m : Mode X E xk) (F : FnOk X.prog X.w X.K X.mg X.base (L2.CX X.prog X.w) n f fd ps (spOf K' dsp)) (hr : Room n X.A) (hm : X.mg x = some (.ref f)) (hk : PySem.W.keepIn X.K (.ref f) = true) (hb : Binds X.K fd ps []) (ha : JQ X (e :: es) us tw) (hK : X.K = K' := by rfl) (hg : Gl X x := by rfl) (hdb : (x == ("__debug__" : Str)) = false := by decide)
    (he : starEach (e :: es) X.env = (false, eval e X.env) :: starEach es X.env := by rfl) (hpl : (backTo pos (starEach es X.env)).any (·.1) = false := by rfl) : JN X (.Call (.Name x p) (e :: es) [] pos) (tCallS (spOf K' dsp) E us) (nCallQ xk dsp tw) := by
  subst hK
  exact ⟨pq_call m F hr hm hk hb ha.p hg hdb he hpl, sim_callNq m ha.s⟩
theorem jv_callQ (m : Mode X E xk) (F : FnOk X.prog X.w X.K X.mg X.base (L2.CX X.prog X.w) n f fd ps (spOf K' dsp)) (hr : Room n X.A) (hm : X.mg x = some (.ref f)) (hk : PySem.W.keepIn X.K (.ref f) = true) (hb : Binds X.K fd ps []) (ha : JQ X (e :: es) us tw) (hK : X.K = K' := by rfl) (hg : Gl X x := by rfl) (hdb : (x == ("__debug__" : Str)) = false := by decide)
    (he : starEach (e :: es) X.env = (false, eval e X.env) :: starEach es X.env := by rfl) (hpl : (backTo pos (starEach es X.env)).any (·.1) = false := by rfl) : JV X (.Call (.Name x p) (e :: es) [] pos) (tCallS (spOf K' dsp) E us) (vCallQ xk dsp tw) := by
  subst hK
  exact ⟨pq_call m F hr hm hk hb ha.p hg hdb he hpl, sim_callV m ha.s⟩
end
def tRecv (C : Addr) (m : Str) (ta : TE) (t : TA) : TA := fun σ H Q => ta σ H fun x H1 => ∃ a dx fs, x = .ref a ∧ H1 a = some (.ins C dx fs) ∧ fs.lookup m = none ∧ t σ H1 fun vs H2 => Q (x :: vs) H2
section
variable {X : Cy} {e o : Expr} {es : List Expr} {pos apos : Pos} {ta : TE} {us t : TA} {tv : TDV} {tw : TDW} {f C : Addr} {fd : FuncData} {ps : List Str} {n k : Nat} {m cn : Str} {sp : Sp} {E : L2.St → XK}
theorem pe_methS {pl : Sem Bool} (he : PE X o ta) (c : Cls X.K C) (hm : Meth X.K C m f) (F : FnOk X.prog X.w X.K X.mg X.base (L2.CX X.prog X.w) k f fd ps sp) (hr : Room k X.A) (hb : Binds X.K fd ps []) (hx : ∀ σ, PassesAt (L2.CX X.prog X.w) X.toCx σ (E σ)) (ha : PA X (e :: es) t)
    (hst : starEach (e :: es) X.env = (false, eval e X.env) :: starEach es X.env := by rfl) (hpl : (backTo pos (starEach es X.env)).any (·.1) = false := by rfl)
    (ht : eval (.Call (.Attribute o m apos) (e :: es) [] pos) X.env = (do
      let ov ← eval o X.env
      standAt apos.atName
      let (f, first) ← holding [ov] (getMethod ov m pl)
      callWith pos f first (backTo pos (starEach (e :: es) X.env)) (backToKw pos (keywordEach [] X.env))) := by rfl) :
    PE X (.Call (.Attribute o m apos) (e :: es) [] pos) (tCallS sp E (tRecv C m ta t)) := by
  refine ⟨fun pins s σ H Q I h => ?_⟩
  refine PySem.W.methodCall_KW (pl := pl) (thn (he.run pins s σ H _ I h) fun u s1 ⟨x, H1, I1, rx, a, dx, fs, ex, ea, l, q⟩ => ?_) ht
  subst ex
  obtain rfl : u = Value.ref a := rx
  refine getmeth_ok I1 ea c hm l ?_
  refine PySem.W.callWith_K (first := [.ref a]) (h₀ := X.base) I.ok.mod.kin hm.kp (thn (ha.run pos pins s1 σ H1 _ I1 q) fun us s2 ⟨vs, H2, I2, r, q2⟩ => ⟨I2.kIn, ?_⟩) hst hpl
  exact run_fnS (us := .ref a :: us) (vs := .ref a :: vs) F hr hb (hx σ) I2 (.cons rfl r) q2
theorem pe_methS0 {pl : Sem Bool} (he : PE X o ta) (c : Cls X.K C) (hm : Meth X.K C m f) (F : FnOk X.prog X.w X.K X.mg X.base (L2.CX X.prog X.w) k f fd ps sp) (hr : Room k X.A) (hb : Binds X.K fd ps []) (hx : ∀ σ, PassesAt (L2.CX X.prog X.w) X.toCx σ (E σ))
    (ht : eval (.Call (.Attribute o m apos) [] [] pos) X.env = (do
      let ov ← eval o X.env
      standAt apos.atName
      let (f, first) ← holding [ov] (getMethod ov m pl)
      callWith pos f first (backTo pos (starEach [] X.env)) (backToKw pos (keywordEach [] X.env))) := by rfl) :
    PE X (.Call (.Attribute o m apos) [] [] pos) (tCallS sp E (tRecv C m ta tNil)) := by
  refine ⟨fun pins s σ H Q I h => ?_⟩
  refine PySem.W.methodCall_KW (pl := pl) (thn (he.run pins s σ H _ I h) fun u s1 ⟨x, H1, I1, rx, a, dx, fs, ex, ea, l, q⟩ => ?_) ht
  subst ex
  obtain rfl : u = Value.ref a := rx
  refine getmeth_ok I1 ea c hm l ?_
  exact PySem.W.callWith_K0 (first := [.ref a]) I1.kIn hm.kp (run_fnS (us := [.ref a]) (vs := [.ref a]) F hr hb (hx σ) I1 (.cons rfl .nil) q)
def wRecvO (cn m : Str) (i : Nat) (u : TDW) : TDW := fun δ Q => ∃ p o dx fs, δ[i]? = some (.ow p o) ∧ Has δ p (.ins cn dx fs) ∧ getR fs m = none ∧ u δ fun es δ2 => Q (.sl i :: es) δ2
def wRecvL (cn m : Str) (tv : TDV) (u : TDW) : TDW := fun δ Q => tv δ fun r L δ1 => ∃ a k L1 dx fs, r = .rf a ∧ L = [] ∧ Has δ1 a (.ins cn dx fs) ∧ getR fs m = none ∧ Loan δ1 L1 k fun δ1' => u δ1' fun es δ2 => Q (.rg a L1 (some k) :: es) δ2
theorem KAll.none {K : PySem.W.Frag} {Hs : Hp} {κ : Type} [DecidableEq κ] {k : κ} : ∀ {r : List (κ × V)} {s : List (κ × RV)}, KAll K Hs r s → getR s k = none → valV r k = none
  | _, _, .nil, h => rfl
  | _, _, .cons (k := k') (v := v) (r := d') (vs := r) (rs := s) q t, h => by
    by_cases e : k' = k
    · have : getR ((k', d') :: s) k = some d' := by simp [getR, List.find?_cons, e]
      rw [this] at h
      cases h
    · have : getR ((k', d') :: s) k = getR s k := by simp [getR, List.find?_cons, e]
      rw [this] at h
      rw [valV_neg e]
      exact t.none h
theorem simw_recvO {i : Nat} (hC : ClsAt X.K cn C) (hr : SimW X.z us tw) : SimW X.z (tRecv C m (tVar i) us) (wRecvO cn m i tw) := fun R ⟨p, o, dx, fs, h, hh, hn, q⟩ k => by
  obtain ⟨C', vs, h1, h2, h3, h4⟩ := R.has hh
  have e : C' = C := by
    have h1 : PySem.W.nsIn X.K mainGlobals cn = _ := h1
    have hC : PySem.W.nsIn X.K mainGlobals cn = _ := hC
    rw [hC] at h1
    cases h1
    rfl
  subst e
  exact ⟨_, R.slot h, p, dx, vs, rfl, h2, by rw [lookup_valV (α := Unit)]; exact h4.none hn, hr R q fun vs es δ2 H2 Hs2 B2 R2 r2 e2 h2 => k _ _ _ _ _ _ R2 (.sl (R.slot h) r2) e2 h2⟩
theorem simw_recvL (hC : ClsAt X.K cn C) (ha : SimV X.z ta tv) (hr : SimW X.z us tw) : SimW X.z (tRecv C m ta us) (wRecvL cn m tv tw) := fun {B H0} [hX : XOk _ _ _] {σ δ H Hs Q Q'} R h k => ha R h fun v r L δ1 H1 Hs1 B1 R1 hh e1 r1 ⟨a, j, L1, dx, fs, er, eL, hs, hn, p, M, L2, hj, hp, h1⟩ => by
  subst er eL
  obtain rfl : v = .ref a := r1
  obtain ⟨C', vs, z1, z2, z3, z4⟩ := R1.has hs
  have e : C' = C := by
    have z1 : PySem.W.nsIn X.K mainGlobals cn = _ := z1
    have hC : PySem.W.nsIn X.K mainGlobals cn = _ := hC
    rw [hC] at z1
    cases z1
    rfl
  subst e
  obtain ⟨B2, R2, h2⟩ := (R1.weaken hh.ex).splitR hj hp
  haveI := hX.mono h2.ex
  exact ⟨a, dx, vs, rfl, z2, by rw [lookup_valV (α := Unit)]; exact z4.none hn, hr R2 h1 fun vs es δ2 H2 Hs2 B3 R3 r3 e2 q2 => k _ _ _ _ _ _ R3 (.rg (h2.mono e2) r3) (e1.trans e2) q2⟩
end
end EL
namespace EL
open PySem PySem.Spec PyProof.Rows L2
section
variable {X : Cy} {E : L2.St → XK} {xk : Exn → Dl → Prop} {dsp : DSp} {us : TA} {tw : TDW} {e : Expr} {K' : PySem.W.Frag}
theorem je_q (m : Mode X E xk) (p : PE X e (tCallS (spOf K' dsp) E us)) (s : SimW X.z us tw) (hK : X.K = K' := by rfl) : JE X e (tCallS (spOf K' dsp) E us) (dCallQ xk dsp tw) := by
  subst hK
  exact ⟨p, sim_callQ m s⟩
theorem jn_q (m : Mode X E xk) (p : PE X e (tCallS (spOf K' dsp) E us)) (s : SimW X.z us tw) (hK : X.K = K' := by rfl) : JN X e (tCallS (spOf K' dsp) E us) (nCallQ xk dsp tw) := by
  subst hK
  exact ⟨p, sim_callNq m s⟩
theorem jv_q (m : Mode X E xk) (p : PE X e (tCallS (spOf K' dsp) E us)) (s : SimW X.z us tw) (hK : X.K = K' := by rfl) : JV X e (tCallS (spOf K' dsp) E us) (vCallQ xk dsp tw) := by
  subst hK
  exact ⟨p, sim_callV m s⟩
end
def tPm (ix : List Nat) (t : TA) : TA := fun σ H Q => t σ H fun vs H' => Q (permL ix vs) H'
def wPm (n : Nat) (ix : List Nat) (u : TDW) : TDW := fun δ Q => u δ fun es δ' => es.length = n ∧ ((∀ e ∈ es, ∃ (i : Nat) (d : D), e = .sl i ∨ e = .dt d)) ∧ Q (permL ix es) δ'
theorem Evs.len {K : PySem.W.Frag} {H0 Hs : Hp} {σ : L2.St} : ∀ {B B' : Hp} {vs : List V} {es : List Ev}, Evs K H0 Hs σ B B' vs es → vs.length = es.length
  | _, _, _, _, .nil => rfl
  | _, _, _, _, .sl _ t => congrArg (· + 1) t.len
  | _, _, _, _, .dt _ t => congrArg (· + 1) t.len
  | _, _, _, _, .rg _ t => congrArg (· + 1) t.len
def EvP (K : PySem.W.Frag) (Hs : Hp) (σ : L2.St) : V → Ev → Prop
  | v, .sl i => σ[i]? = some (some v)
  | v, .dt d => Dp K Hs v d
  | _, .rg _ _ _ => False
theorem Evs.plain {K : PySem.W.Frag} {H0 Hs : Hp} {σ : L2.St} : ∀ {B B' : Hp} {vs : List V} {es : List Ev}, Evs K H0 Hs σ B B' vs es → (∀ e ∈ es, ∃ (i : Nat) (d : D), e = .sl i ∨ e = .dt d) → B = B' ∧ ∀ (k : Nat) (v : V) (e : Ev), vs[k]? = some v → es[k]? = some e → EvP K Hs σ v e
  | _, _, _, _, .nil, _ => ⟨rfl, fun k v e h => by simp at h⟩
  | _, _, _, _, .sl h t, hp => by
    obtain ⟨h1, h2⟩ := t.plain fun e he => hp e (List.mem_cons_of_mem _ he)
    refine ⟨h1, fun k v e hv he => ?_⟩
    cases k with
    | zero =>
      cases hv
      cases he
      exact h
    | succ k => exact h2 k v e hv he
  | _, _, _, _, .dt h t, hp => by
    obtain ⟨h1, h2⟩ := t.plain fun e he => hp e (List.mem_cons_of_mem _ he)
    refine ⟨h1, fun k v e hv he => ?_⟩
    cases k with
    | zero =>
      cases hv
      cases he
      exact h
    | succ k => exact h2 k v e hv he
  | _, _, _, _, .rg h t, hp => by
    obtain ⟨i, d, z | z⟩ := hp _ List.mem_cons_self <;> cases z
theorem evs_of {K : PySem.W.Frag} {H0 Hs : Hp} {σ : L2.St} {B : Hp} : ∀ {vs : List V} {es : List Ev}, vs.length = es.length → (∀ (k : Nat) (v : V) (e : Ev), vs[k]? = some v → es[k]? = some e → EvP K Hs σ v e) → Evs K H0 Hs σ B B vs es
  | [], [], _, _ => .nil
  | [], _ :: _, h, _ => by simp at h
  | _ :: _, [], h, _ => by simp at h
  | v :: vs, e :: es, h, q => by
    have h1 := q 0 v e rfl rfl
    have t := evs_of (H0 := H0) (B := B) (vs := vs) (es := es) (by simpa using h) fun k a b z1 z2 => q (k + 1) a b z1 z2
    cases e with
    | sl i => exact .sl h1 t
    | dt d => exact .dt h1 t
    | rg a L j => exact h1.elim
section
variable {X : Cy} {us : TA} {tw : TDW}
theorem simw_pm {n : Nat} {ix : List Nat} (h : SimW X.z us tw) : SimW X.z (tPm ix us) (wPm n ix tw) := fun R q k => h R q fun vs es δ' H' Hs' B' R' r x ⟨hl, hp, q⟩ => by
  obtain ⟨eB, hr⟩ := r.plain hp
  subst eB
  obtain ⟨h1, h2⟩ := permL_rel (R := fun a b => EvP X.K Hs' _ a b) ix r.len fun j a b ha hb => hr j a b ha hb
  exact k _ _ _ _ _ _ R' (evs_of h1 h2) x q
end
def gK1 {α : Type} (n : Nat) (ix : List Nat) (us ws : List α) : List α := if us.length = 1 ∧ ws.length = n then us ++ permL ix ws else []
theorem Fun_kb1 {K : PySem.W.Frag} {x qual : Str} {st : Stmt} {f : Addr} {fd : FuncData} {ps ks : List Str} {ix : List Nat} (F : Fun K x qual st f fd) (h0 : ps.length ≠ 0)
    (h : ∀ (kV doc pm : Value) (an : Option Addr) (cdv ct u : Value) (ws : List Value), ws.length = ks.length → bindArgs (PySem.W.fnOf x qual (defArgs st) (defBody st) (defScope st) .none kV doc pm an cdv ct) ⟨[u], ks.zip ws⟩ = pure (ps.zip (u :: permL ix ws))) : KBinds K fd ps ks (gK1 ks.length ix) (gK1 ks.length ix) where
  to := fun s us ws _ hl => by
    obtain ⟨oc, od, kV, doc, pm, an, cdv, ct, osl, rfl, lk, hcd⟩ := F.ex
    unfold gK1 at hl ⊢
    by_cases hc : us.length = 1 ∧ ws.length = ks.length
    · rw [if_pos hc] at hl ⊢
      obtain ⟨u, rfl⟩ := List.length_eq_one_iff.mp hc.1
      exact .of_eq (h _ _ _ _ _ _ _ _ hc.2)
    · rw [if_neg hc] at hl
      exact absurd hl.symm h0
  rel := fun {vs us zs ws} r rz => by
    unfold gK1
    rw [r.length, rz.length]
    split
    · exact r.append (vals_perm ix rz)
    · exact .nil
section
variable {X : Cy} {pos p apos : Pos} {ta : TE} {tk : TA} {f C : Addr} {fd : FuncData} {ps ks : List Str} {n k : Nat} {m x : Str} {sp : Sp} {E : L2.St → XK} {kws : List Keyword} {ix : List Nat} {o : Expr}
theorem run_fnkS {g : List Value → List Value → List Value} {gV : List V → List V → List V} {pins : List (Addr × Obj)} {σ : L2.St} {H : Hp} {s : Shared} {Q : VK} {us ws : List Value} {vs zs : List V} (F : FnOk X.prog X.w X.K X.mg X.base (L2.CX X.prog X.w) k f fd ps sp) (hr : Room k X.A) (hb : KBinds X.K fd ps ks g gV) (hx : PassesAt (L2.CX X.prog X.w) X.toCx σ (E σ))
    (I : Inv X.toCx pins σ H s) (r : Vals vs us) (rz : Vals zs ws) (h : sp (gV vs zs) H Q (E σ)) : wpAny (model X.prog X.w) X.A (call (.ref f) us (ks.zip ws)) (EP X.toCx pins σ Q) X.xe s := by
  have r2 := hb.rel r rz
  have hl : (g us ws).length = ps.length := by rw [← r2.length]; exact F.len _ _ _ _ h
  refine wpAny_call (codeAny_mono (F.run X.A X.stack s H ⟨us, ks.zip ws⟩ (g us ws) (gV vs zs) Q (E σ) hr I.env0 (hb.to s us ws I.kIn hl) r2 h) fun r s' hq => ?_)
  cases r with
  | error e => exact hx pins H s e s' I hq
  | ok fl =>
    cases fl with
    | ret u => exact I.after hq
    | next => exact False.elim hq
    | brk => exact False.elim hq
    | cont => exact False.elim hq
def tKw (n : Nat) (ix : List Nat) (t : TA) : TA := fun σ H Q => t σ H fun vs H' => vs.length = n ∧ Q (permL ix vs) H'
theorem pe_callKS (F : FnOk X.prog X.w X.K X.mg X.base (L2.CX X.prog X.w) k f fd ps sp) (hr : Room k X.A) (hm : X.mg x = some (.ref f)) (hk : PySem.W.keepIn X.K (.ref f) = true) (hb : KBinds X.K fd ps ks (gK ks.length ix) (gK ks.length ix)) (hx : ∀ σ, PassesAt (L2.CX X.prog X.w) X.toCx σ (E σ)) (hkw : PK X kws tk) (hg : Gl X x := by rfl)
    (hall : (backToKw pos (keywordEach kws X.env)).all (·.1.isSome) = true := by rfl) (hks : (backToKw pos (keywordEach kws X.env)).filterMap (·.1) = ks := by rfl) (hdb : (x == ("__debug__" : Str)) = false := by decide)
    (hpl : ((backTo pos (starEach [] X.env)).any (·.1) || (backToKw pos (keywordEach kws X.env)).any (·.1.isNone)) = false := by rfl) : PE X (.Call (.Name x p) [] kws pos) (tCallS sp E (tKw ks.length ix tk)) := by
  refine ⟨fun pins s σ H Q I h => ?_⟩
  refine wpAny_Call_Name_kw (ld_glob I hg hm ?_ hdb)
  refine PySem.W.callWith_KW0 (h₀ := X.base) I.ok.mod.kin hk hall (thn (hkw.run pos pins s σ H _ I h) fun ws s2 ⟨zs, H2, I2, rz, hl, q2⟩ => ⟨I2.kIn, ?_⟩) hpl
  rw [hks]
  refine run_fnkS F hr hb (hx σ) I2 .nil rz ?_
  have e : gK ks.length ix [] zs = permL ix zs := by
    unfold gK
    rw [if_pos ⟨rfl, hl⟩]
  rw [e]
  exact q2
theorem pe_methKS {pl : Sem Bool} (he : PE X o ta) (c : Cls X.K C) (hm : Meth X.K C m f) (F : FnOk X.prog X.w X.K X.mg X.base (L2.CX X.prog X.w) k f fd ps sp) (hr : Room k X.A) (hb : KBinds X.K fd ps ks (gK1 ks.length ix) (gK1 ks.length ix)) (hx : ∀ σ, PassesAt (L2.CX X.prog X.w) X.toCx σ (E σ)) (hkw : PK X kws tk)
    (hall : (backToKw pos (keywordEach kws X.env)).all (·.1.isSome) = true := by rfl) (hks : (backToKw pos (keywordEach kws X.env)).filterMap (·.1) = ks := by rfl)
    (hpl : ((backTo pos (starEach [] X.env)).any (·.1) || (backToKw pos (keywordEach kws X.env)).any (·.1.isNone)) = false := by rfl)
    (ht : eval (.Call (.Attribute o m apos) [] kws pos) X.env = (do
      let ov ← eval o X.env
      standAt apos.atName
      let (f, first) ← holding [ov] (getMethod ov m pl)
      callWith pos f first (backTo pos (starEach [] X.env)) (backToKw pos (keywordEach kws X.env))) := by rfl) :
    PE X (.Call (.Attribute o m apos) [] kws pos) (tCallS sp E (tRecv C m ta (tKw ks.length ix tk))) := by
  refine ⟨fun pins s σ H Q I h => ?_⟩
  refine PySem.W.methodCall_KW (pl := pl) (thn (he.run pins s σ H _ I h) fun u s1 ⟨x, H1, I1, rx, a, dx, fs, ex, ea, l, q⟩ => ?_) ht
  subst ex
  obtain rfl : u = Value.ref a := rx
  refine getmeth_ok I1 ea c hm l ?_
  refine PySem.W.callWith_KW0 (first := [.ref a]) (h₀ := X.base) I.ok.mod.kin hm.kp hall (thn (hkw.run pos pins s1 σ H1 _ I1 q) fun ws s2 ⟨zs, H2, I2, rz, hl, q2⟩ => ⟨I2.kIn, ?_⟩) hpl
  rw [hks]
  refine run_fnkS (us := [.ref a]) (vs := [.ref a]) F hr hb (hx σ) I2 (.cons rfl .nil) rz ?_
  have e : gK1 ks.length ix [V.ref a] zs = V.ref a :: permL ix zs := by
    unfold gK1
    rw [if_pos ⟨rfl, hl⟩]
    rfl
  rw [e]
  exact q2
variable {us : TA} {tw : TDW}
theorem simw_kw (h : SimW X.z us tw) : SimW X.z (tKw n ix us) (wPm n ix tw) := fun R q k => h R q fun vs es δ' H' Hs' B' R' r x ⟨hl, hp, q⟩ => by
  obtain ⟨eB, hr⟩ := r.plain hp
  obtain ⟨h1, h2⟩ := permL_rel (R := fun a b => EvP X.K Hs' _ a b) ix r.len fun j a b ha hb => hr j a b ha hb
  subst eB
  exact ⟨by rw [r.len]; exact hl, k _ _ _ _ _ _ R' (evs_of h1 h2) x q⟩
end
end EL
namespace EL
open PySem PySem.Spec PyProof.Rows L2
theorem backS_app {t : Dl} : ∀ {es : List Ev} {as : List SD} {δ : Dl}, (∀ i ∈ borsW es, i < δ.length) → backS es as (δ ++ t) = backS es as δ ++ t
  | [], _, _, _ => rfl
  | .sl _ :: _, [], _, _ => rfl
  | .dt _ :: _, [], _, _ => rfl
  | .rg _ _ _ :: _, [], _, _ => rfl
  | .sl i :: es, s :: as, δ, h => by
    show (backS es as (δ ++ t)).set i s = (backS es as δ).set i s ++ t
    rw [backS_app (es := es) fun i hi => h i (List.mem_cons_of_mem _ hi), List.set_append_left _ _ (by rw [backS_len]; exact h i List.mem_cons_self)]
  | .dt _ :: es, _ :: as, δ, h => backS_app (es := es) (as := as) h
  | .rg _ _ _ :: es, _ :: as, δ, h => backS_app (es := es) (as := as) h
theorem BackJ.app {s : SD} {Q : Dl → Prop} : ∀ {es : List Ev} {as : List SD} {δ : Dl}, BackJ es as δ Q → BackJ es as (δ ++ [s]) fun δ2 => ∃ δ0, δ2 = δ0 ++ [s] ∧ Q δ0
  | [], [], δ, h => ⟨δ, rfl, h⟩
  | [], _ :: _, _, h => h.elim
  | .sl _ :: _, [], _, h => h.elim
  | .dt _ :: _, [], _, h => h.elim
  | .rg _ _ none :: _, [], _, h => h.elim
  | .rg _ _ (some _) :: _, [], _, h => h.elim
  | .sl _ :: es, _ :: as, δ, h => BackJ.app (es := es) (as := as) h
  | .dt _ :: es, _ :: as, δ, h => BackJ.app (es := es) (as := as) h
  | .rg _ _ none :: es, _ :: as, δ, h => BackJ.app (es := es) (as := as) h
  | .rg a L (some j) :: es, s' :: as, δ, h => by
    obtain ⟨L', p, M, M', hs, hj, hp, h⟩ := h
    refine ⟨L', p, M, M', hs, by rw [List.getElem?_append_left (lt_of_get hj)]; exact hj, hp, ?_⟩
    rw [List.set_append_left _ _ (lt_of_get hj)]
    exact BackJ.app (es := es) (as := as) h
theorem Evs.app {K : PySem.W.Frag} {H0 Hs : Hp} {σ t : L2.St} : ∀ {B B' : Hp} {vs : List V} {es : List Ev}, Evs K H0 Hs σ B B' vs es → Evs K H0 Hs (σ ++ t) B B' vs es
  | _, _, _, _, .nil => .nil
  | _, _, _, _, .sl h u => .sl (by rw [List.getElem?_append_left (lt_of_get h)]; exact h) u.app
  | _, _, _, _, .dt h u => .dt h u.app
  | _, _, _, _, .rg h u => .rg h u.app
theorem Hid.made {K : PySem.W.Frag} {B H0 Hs : Hp} {x dx C : Addr} {cn : Str} (hC : ClsAt K cn C) (hx : B x = none) (hd : B dx = none) (h0 : H0 x = none) (h1 : H0 dx = none) (ne : dx ≠ x) : Hid K B (upd (upd B dx (.own x)) x (.ins C dx [])) H0 Hs [(x, .ins cn dx [])] where
  ex := (Ex.new hd).trans (Ex.new (by rw [upd_ne ne.symm]; exact hx))
  on := fun b hb => by
    by_cases z : b = x
    · exact .inr (mem_addrsL.mpr ⟨_, List.mem_singleton.mpr rfl, by subst z; simp [obA]⟩)
    · rw [upd_ne z] at hb
      by_cases w : b = dx
      · exact .inr (mem_addrsL.mpr ⟨_, List.mem_singleton.mpr rfl, by subst w; simp [obA]⟩)
      · rw [upd_ne w] at hb
        exact .inl hb
  nw := fun b hb => by
    obtain ⟨y, hy, hb⟩ := mem_addrsL.mp hb
    rw [List.mem_singleton] at hy
    subst hy
    simp [obA] at hb
    rcases hb with rfl | rfl
    · exact ⟨hx, h0⟩
    · exact ⟨hd, h1⟩
  rg := ⟨by show ([(x, Ob.ins cn dx [])].flatMap fun y => obA y.1 y.2).Nodup; simp [obA, ne.symm], fun y hy => by
    rw [List.mem_singleton] at hy
    subst hy
    exact ⟨C, [], hC, upd_same, by rw [upd_ne ne]; exact upd_same, .nil⟩⟩
def tMakeS (C : Addr) (sp : Sp) (E : L2.St → XK) (t : TA) : TE := fun σ H Q => t σ H fun vs H1 => ∀ x dx, H1 x = none → H1 dx = none → dx ≠ x →
  sp (.ref x :: vs) (upd (upd H1 dx (.own x)) x (.ins C dx [])) (fun v H2 => v = .non ∧ Q (.ref x) H2) (E σ)
def vMake (cn : Str) (xk : Exn → Dl → Prop) (dsp : DSp) (tw : TDW) : TDV := fun δ Q => tw δ fun es δ' => CallOk es δ' ∧ ∀ (x dx : Addr) (Q2 : RS → List SD → Prop), (∀ L' as', as'.length = es.length → BackW es as' δ' (Q (.rf x) L') → Q2 (.dt .none) (.ow x (OD.rg L') :: as')) →
  (∀ e s as', as'.length = es.length → BackW es as' δ' (xk e) → Q2 (.exn e) (s :: as')) → dsp (.ow x (OD.rg [(x, .ins cn dx [])]) :: es.map (resW δ')) Q2
section
variable {X : Cy} {E : L2.St → XK} {xk : Exn → Dl → Prop} {dsp : DSp} {us : TA} {tw : TDW} {C f : Addr} {cn : Str} {fd : FuncData} {ps : List Str} {k : Nat} {sp : Sp} {x : Str} {p pos : Pos} {e : Expr} {es : List Expr} {t : TA} {K' : PySem.W.Frag}
theorem run_makeS {pins : List (Addr × Obj)} {σ : L2.St} {H : Hp} {s : Shared} {Q : VK} {us : List Value} {vs : List V} (M : Mk X.K C f) (F : FnOk X.prog X.w X.K X.mg X.base (L2.CX X.prog X.w) k f fd ps sp) (hr : Room (k + 1) X.A) (hb : Binds X.K fd ps [])
    (hx : PassesAt (L2.CX X.prog X.w) X.toCx σ (E σ)) (I : Inv X.toCx pins σ H s) (r : Vals vs us)
    (h : ∀ x dx, H x = none → H dx = none → dx ≠ x → sp (.ref x :: vs) (upd (upd H dx (.own x)) x (.ins C dx [])) (fun v H2 => v = .non ∧ Q (.ref x) H2) (E σ)) :
    wpAny (model X.prog X.w) X.A (call (.ref C) us) (EP X.toCx pins σ Q) X.xe s := by
  have hq := h (s.heap.objs.size + 1) s.heap.objs.size (I.hok.fresh (Nat.le_succ _)) (I.hok.fresh (Nat.le_refl _)) (Nat.ne_of_lt (Nat.lt_succ_self _))
  have I2 := Inv.made (C := C) I
  have r2 : Vals (V.ref (s.heap.objs.size + 1) :: vs) (Value.ref (s.heap.objs.size + 1) :: us) := .cons rfl r
  have hl : (Value.ref (s.heap.objs.size + 1) :: us ++ []).length = ps.length := by
    have e := r2.length
    rw [F.len _ _ _ _ hq] at e
    rw [List.append_nil]
    exact e.symm
  have hb2 := hb _ (Value.ref (s.heap.objs.size + 1) :: us) I2.kIn hl
  rw [List.append_nil] at hb2
  refine wpAny_call (make_map (f := f) I.kIn M.makes M.init (beq_iff_eq.mp M.fn) (codeAny_mono (F.run _ X.stack _ _ ⟨Value.ref (s.heap.objs.size + 1) :: us, []⟩ (Value.ref (s.heap.objs.size + 1) :: us) _ _ (E σ) (hr.make C us [])
    (I2.env0.make C us []) hb2 r2 hq) fun r s' hq' => ?_))
  cases r with
  | error e => exact hx pins _ _ e s' I2 hq'
  | ok fl =>
    cases fl with
    | ret u =>
      obtain ⟨v, H', I3, rv, ev, q3⟩ := I2.after hq'
      subst ev
      exact ⟨rv, ⟨V.ref (s.heap.objs.size + 1), H', I3, rfl, q3⟩⟩
    | next => exact False.elim hq'
    | brk => exact False.elim hq'
    | cont => exact False.elim hq'
theorem pe_makeS (M : Mk X.K C f) (F : FnOk X.prog X.w X.K X.mg X.base (L2.CX X.prog X.w) k f fd ps sp) (hr : Room (k + 1) X.A) (hm : X.mg x = some (.ref C)) (hb : Binds X.K fd ps []) (hx : ∀ σ, PassesAt (L2.CX X.prog X.w) X.toCx σ (E σ)) (ha : PA X (e :: es) t) (hg : Gl X x := by rfl)
    (hdb : (x == ("__debug__" : Str)) = false := by decide) (he : starEach (e :: es) X.env = (false, eval e X.env) :: starEach es X.env := by rfl) (hpl : (backTo pos (starEach es X.env)).any (·.1) = false := by rfl) : PE X (.Call (.Name x p) (e :: es) [] pos) (tMakeS C sp E t) := by
  refine ⟨fun pins s σ H Q I h => ?_⟩
  refine wpAny_Call_Name_kw (ld_glob I hg hm ?_ hdb)
  refine PySem.W.callWith_K (h₀ := X.base) I.ok.mod.kin M.kp (thn (ha.run pos pins s σ H _ I h) fun us s1 ⟨vs, H1, I1, r, q⟩ => ⟨I1.kIn, ?_⟩) he hpl
  exact run_makeS M F hr hb (hx σ) I1 r q
theorem pe_makeS0 (M : Mk X.K C f) (F : FnOk X.prog X.w X.K X.mg X.base (L2.CX X.prog X.w) k f fd ps sp) (hr : Room (k + 1) X.A) (hm : X.mg x = some (.ref C)) (hb : Binds X.K fd ps []) (hx : ∀ σ, PassesAt (L2.CX X.prog X.w) X.toCx σ (E σ)) (hg : Gl X x := by rfl)
    (hdb : (x == ("__debug__" : Str)) = false := by decide) : PE X (.Call (.Name x p) [] [] pos) (tMakeS C sp E tNil) := by
  refine ⟨fun pins s σ H Q I h => ?_⟩
  refine wpAny_Call_Name_kw (ld_glob I hg hm ?_ hdb)
  exact PySem.W.callWith_K0 I.kIn M.kp (run_makeS (us := []) M F hr hb (hx σ) I .nil h)
theorem sim_make (m : Mode X E xk) (hC : ClsAt X.K cn C) (hs : SimW X.z us tw) : SimV X.z (tMakeS C (spOf X.K dsp) E us) (vMake cn xk dsp tw) := by
  intro B H0 hX σ δ H Hs Q Q' R h k
  refine hs R h fun vs es δ1 H1 Hs1 B1 R1 r1 e1 ⟨⟨nd, hlt⟩, hd⟩ => fun x dx hx hdx ne => ?_
  have R2 : Rep X.K (upd (upd B1 dx (.own x)) x (.ins C dx [])) H0 σ δ1 (upd (upd H1 dx (.own x)) x (.ins C dx [])) Hs1 := (R1.hide hdx).hide (by rw [upd_ne ne.symm]; exact hx)
  have hh : Hid X.K B1 (upd (upd B1 dx (.own x)) x (.ins C dx [])) H0 Hs1 [(x, .ins cn dx [])] := Hid.made hC (R1.base.none hx) (R1.base.none hdx) (R1.frz.none (R1.ex.none hx)) (R1.frz.none (R1.ex.none hdx)) ne
  have R3 := R2.pushR (a := x) hh
  have hn : (borsW (.sl δ1.length :: es)).Nodup := List.nodup_cons.mpr ⟨fun z => Nat.lt_irrefl _ (hlt _ z), nd⟩
  have key : ∀ (s : SD) (as' : List SD) (P : Dl → Prop), BackW es as' δ1 P → BackW (.sl δ1.length :: es) (s :: as') (δ1 ++ [SD.ow x (OD.rg [(x, .ins cn dx [])])]) fun δ2 => ∃ δ0, δ2 = δ0 ++ [s] ∧ P δ0 := by
    intro s as' P h
    show BackJ es as' ((backS es as' (δ1 ++ [SD.ow x (OD.rg [(x, .ins cn dx [])])])).set δ1.length s) _
    rw [backS_app hlt, List.set_append_right _ _ (by rw [backS_len]; exact Nat.le_refl _), backS_len, Nat.sub_self]
    exact BackJ.app h
  refine callW_core (es := .sl δ1.length :: es) (vs := .ref x :: vs) (Qr := fun r δ2 => ∃ δ0 s, δ2 = δ0 ++ [s] ∧ ((∃ L', s = .ow x (OD.rg L') ∧ r = .dt .none ∧ Q (.rf x) L' δ0) ∨ ∃ e, r = .exn e ∧ xk e δ0)) R3 (.sl (by rw [← R1.len, List.getElem?_concat_length]) r1.app) hn (fun i hi => ?_) (fun Q2 h2 => ?_) (fun y d δ' H' Hs' R' xr q => ?_) fun v r δ' H' Hs' R' x1 rd _ _ nx q => ?_
  · rw [List.length_append]
    rcases List.mem_cons.mp hi with rfl | hi
    · simp
    · have := hlt i hi
      simp
      omega
  · have e : (Ev.sl δ1.length :: es).map (resW (δ1 ++ [SD.ow x (OD.rg [(x, .ins cn dx [])])])) = .ow x (OD.rg [(x, .ins cn dx [])]) :: es.map (resW δ1) := by
      rw [List.map_cons]
      congr 1
      · show ((δ1 ++ [SD.ow x (OD.rg [(x, .ins cn dx [])])])[δ1.length]?).getD .un = _
        rw [List.getElem?_concat_length]
        rfl
      · have : ∀ l : List Ev, (∀ i ∈ borsW l, i < δ1.length) → l.map (resW (δ1 ++ [SD.ow x (OD.rg [(x, .ins cn dx [])])])) = l.map (resW δ1) := by
          intro l
          induction l with
          | nil => intro _; rfl
          | cons a l ih =>
            intro hl
            cases a with
            | sl i =>
              rw [List.map_cons, List.map_cons, ih fun i hi => hl i (List.mem_cons_of_mem _ hi)]
              congr 1
              show ((δ1 ++ [SD.ow x (OD.rg [(x, .ins cn dx [])])])[i]?).getD .un = (δ1[i]?).getD .un
              rw [List.getElem?_append_left (hl i List.mem_cons_self)]
            | dt d =>
              rw [List.map_cons, List.map_cons, ih hl]
              rfl
            | rg a L j =>
              rw [List.map_cons, List.map_cons, ih hl]
              rfl
        exact this es hlt
    rw [e]
    refine hd x dx Q2 (fun L' as' hl q => h2 _ _ (congrArg (· + 1) hl) ?_) fun y s as' hl q => h2 _ _ (congrArg (· + 1) hl) ?_
    · exact BackW.mono (fun δ2 ⟨δ0, e, q⟩ => ⟨δ0, _, e, .inl ⟨L', rfl, rfl, q⟩⟩) (key _ _ _ q)
    · exact BackW.mono (fun δ2 ⟨δ0, e, q⟩ => ⟨δ0, s, e, .inr ⟨y, rfl, q⟩⟩) (key _ _ _ q)
  · obtain ⟨δ0, s, rfl, ⟨_, _, z, _⟩ | ⟨y', z, q⟩⟩ := q
    · cases z
    · cases z
      refine m.sim R'.popX ?_ q
      rcases xr with z | ⟨a, ws, ed, R4, h1, h2, h3⟩
      · exact .inl z
      · exact .inr ⟨a, ws, ed, R4.popX, h1, h2, h3⟩
  · obtain ⟨δ0, s, rfl, ⟨L', rfl, ed, q⟩ | ⟨y, z, q⟩⟩ := q
    · have hv := rd _ ed
      cases hv
      obtain ⟨B3, R4, h4⟩ := R'.popT
      exact ⟨rfl, k (.ref x) (.rf x) L' δ0 H' Hs' B3 R4 h4 (e1.trans x1) rfl q⟩
    · exact absurd z (nx y)
theorem jv_make (m : Mode X E xk) (hC : ClsAt X.K cn C) (p : PE X e (tMakeS C (spOf K' dsp) E us)) (hs : SimW X.z us tw) (hK : X.K = K' := by rfl) : JV X e (tMakeS C (spOf K' dsp) E us) (vMake cn xk dsp tw) := by
  subst hK
  exact ⟨p, sim_make m hC hs⟩
end
end EL
namespace EL
open PySem PySem.Spec PyProof.Rows L2
def putFr (f : Str) (r : RV) : List (Str × RV) → List (Str × RV)
  | [] => [(f, r)]
  | (g, x) :: l => if g = f then (g, r) :: l else (g, x) :: putFr f r l
section
variable {K : PySem.W.Frag} {Hs : Hp}
theorem KAll.putF {f : Str} {v : V} {r : RV} (q : RVal K Hs v r) : ∀ {vs : List (Str × V)} {rs : List (Str × RV)}, KAll K Hs vs rs → KAll K Hs (L2.putF f v vs) (putFr f r rs)
  | _, _, .nil => .cons q .nil
  | _, _, .cons (k := g) h t => by
    unfold L2.putF putFr
    by_cases e : g = f
    · rw [if_pos e, if_pos e]
      exact .cons q t
    · rw [if_neg e, if_neg e]
      exact .cons h (t.putF q)
theorem clsAt_inj {cn : Str} {C C' : Addr} (h : ClsAt K cn C) (h' : ClsAt K cn C') : C = C' := by
  have h : PySem.W.nsIn K mainGlobals cn = _ := h
  have h' : PySem.W.nsIn K mainGlobals cn = _ := h'
  rw [h] at h'
  cases h'
  rfl
theorem Rep.putI {B B' H0 H : Hp} {σ : L2.St} {δ : Dl} {a dx C : Addr} {cn : Str} {fs fs' : List (Str × RV)} {vs : List (Str × V)} {M : Lf} {Q : Dl → Prop} (R : Rep K B' H0 σ δ H Hs) (hh : Hid K B B' H0 Hs M) (h : Put δ a (.ins cn dx fs) (.ins cn dx fs') M Q) (hC : ClsAt K cn C) (r : KAll K Hs vs fs') :
    ∃ δ', Rep K B H0 σ δ' (upd H a (.ins C dx vs)) Hs ∧ Q δ' := by
  obtain ⟨C', ws, h1, h2, h3, h4⟩ := R.has h.has
  have ne : dx ≠ a := fun z => by
    subst z
    rw [h2] at h3
    cases h3
  exact R.putR (o := .ins cn dx fs) (o' := .ins cn dx fs') hh rfl h ⟨C, vs, hC, upd_same, by rw [upd_ne ne]; exact h3, r⟩
end
section
variable {X : Cy} {e a b j o : Expr} {es : List Expr} {pos pos' : Pos} {t tj : TDE} {tv tb : TDV} {ue ua ub uj : TE} {us : TA} {cn f : Str}
def sFldV (cn f : Str) (tb tv : TDV) : TDS := fun De δ => tv δ fun r M δ1 => tb δ1 fun rb _ δ2 => ∃ a dx fs, rb = .rf a ∧ fs.length < 1000 ∧ Put δ2 a (.ins cn dx fs) (.ins cn dx (putFr f r fs)) M De.nx
theorem js_fldV (T : FldOk X.K cn f) (hb : JV X b ub tb) (he : JV X e ue tv) (hs : swapsWith e (some (.Attribute b f pos')) pos.line X.env = pure false := by rfl) : JS X (.Assign [.Attribute b f pos'] e pos) (sFld X.K ub ue f) (sFldV cn f tb tv) := by
  refine ⟨ps_fld hb.p he.p hs, fun {B H0} [hX : XOk _ _ _] {σ δ H Hs De De'} R q k => he.s R q fun v r M δ1 H1 Hs1 B1 R1 hh1 x1 rv q1 => ?_⟩
  haveI := hX.mono hh1.ex
  refine hb.s R1 q1 fun vb rb Lb δ2 H2 Hs2 B2 R2 hh2 x2 rvb ⟨a, dx, fs, eb, hl, q2⟩ => ?_
  subst eb
  obtain rfl : vb = .ref a := rvb
  obtain ⟨C, vs, hC, hH, _, hr⟩ := R2.has q2.has
  obtain ⟨δ', R4, q4⟩ := (R2.weaken hh2.ex).putI (hh1.mono x2) q2 hC (hr.putF (f := f) (rv.mono x2))
  exact ⟨a, C, dx, vs, rfl, hH, (T C hC).1, (T C hC).2, by rw [hr.len]; exact hl, k.nx _ _ _ _ R4 (x1.trans x2) q4⟩
theorem DpI {K : PySem.W.Frag} {Hs : Hp} (n : Int) : RVal K Hs (V.int n) (.dt (.int n)) := (Dp.int n : Dp K Hs (.int n) (.int n))
def sFldAugV (cn f : Str) (tb : TDV) (t : TDE) : TDS := fun De δ => tb δ fun rb _ δ1 => ∃ a dx fs z, rb = .rf a ∧ Has δ1 a (.ins cn dx fs) ∧ getR fs f = some (.dt (.int z)) ∧ t δ1 fun d δ2 => ∃ n dx' fs', d = .int n ∧ fs'.length < 1000 ∧ Put δ2 a (.ins cn dx' fs') (.ins cn dx' (putFr f (.dt (.int (z + n))) fs')) [] De.nx
theorem js_fldAddV (T : FldOk X.K cn f) (hb : JV X b ub tb) (he : JE X e ue t) : JS X (.AugAssign (.Attribute b f pos') .Add e pos) (sFldAug X.K ub ue rAdd f) (sFldAugV cn f tb t) := by
  refine ⟨ps_fldaug hb.p he.p in_add, fun {B H0} [hX : XOk _ _ _] {σ δ H Hs De De'} R q k => hb.s R q fun vb rb Lb δ1 H1 Hs1 B1 R1 hh1 x1 rvb ⟨a, dx, fs, z, eb, hh, hz, q1⟩ => ?_⟩
  subst eb
  obtain rfl : vb = .ref a := rvb
  obtain ⟨C, vs, hC, hH, _, hr⟩ := R1.has hh
  obtain ⟨w, hw, rw'⟩ := hr.get hz
  have rw2 : Dp X.K Hs1 w (.int z) := rw'
  cases rw2
  refine ⟨a, C, dx, vs, .int z, rfl, hH, (T C hC).1, (T C hC).2, by rw [lookup_valV (α := Unit)]; exact hw, he.s (R1.weaken hh1.ex) q1 fun v d δ2 H2 Hs2 R2 x2 r2 ⟨n, dx', fs', ed, hl, q2⟩ => ?_⟩
  subst ed
  cases r2
  obtain ⟨C', vs', hC', hH', _, hr'⟩ := R2.has q2.has
  obtain rfl := clsAt_inj hC hC'
  obtain ⟨δ', R4, q4⟩ := R2.putI Hid.nil q2 hC (hr'.putF (f := f) (v := .int (z + n)) (r := .dt (.int (z + n))) (DpI (z + n)))
  exact ⟨z, n, rfl, rfl, dx', vs', hH', by rw [hr'.len]; exact hl, k.nx _ _ _ _ R4 (x1.trans x2) q4⟩
def sDropV (tv : TDV) : TDS := fun De δ => tv δ fun _ _ δ' => De.nx δ'
theorem js_exprV (h : JV X e ue tv) (hs : swapsWith e none pos.line X.env = pure false := by rfl) : JS X (.Expr e pos) (tDrop ue) (sDropV tv) := ⟨ps_expr h.p hs, fun R q k => h.s R q fun _ _ _ _ _ _ _ R1 hh x _ q1 => k.nx _ _ _ _ (R1.weaken hh.ex) x q1⟩
def rsV : RV → Lf → RS
  | .dt d, _ => .dt d
  | .rf a, L => .rg a L
def sRetV (tv : TDV) : TDS := fun De δ => tv δ fun r L δ' => De.rt (rsV r L) δ'
theorem js_retV (h : JV X e ue tv) : JS X (.Return (some e) pos) (tRet ue) (sRetV tv) := ⟨ps_ret h.p, fun R q k => h.s R q fun v r L δ' H' Hs' B' R1 hh x rv q1 => by
  cases r with
  | dt d => exact k.rt _ _ _ _ _ _ (R1.weaken hh.ex) x rv q1
  | rf a =>
    obtain rfl : v = .ref a := rv
    exact k.rr a L _ _ _ _ B' R1 hh x q1⟩
def isNoV : RV → Bool
  | .dt d => isNoneD d
  | .rf _ => false
theorem isNoV_dec {K : PySem.W.Frag} {H : Hp} {v : V} {r : RV} (h : RVal K H v r) : decide (v = .non) = isNoV r := by
  cases r with
  | dt d => exact isNone_dec h
  | rf a =>
    obtain rfl : v = .ref a := h
    rfl
def bNoneV (neg : Bool) (tv : TDV) : TDB := fun δ Q => tv δ fun r _ δ' => Q (neg ^^ isNoV r) δ'
theorem jt_isNV {jk p'} (ha : JV X a ua tv) : JT X (.Compare a [.Is] [.Constant .none jk p'] pos) (tB (tIsN ua)) (bNoneV false tv) := ⟨pt_cmp (pc_isN ha.p), fun R q k => ha.s R q fun v r L δ' H' Hs' B' R1 hh x rv q1 => by
  rw [isNoV_dec rv]
  exact ⟨_, rfl, k _ _ _ _ (R1.weaken hh.ex) x (by simpa using q1)⟩⟩
theorem jt_notNV {jk p'} (ha : JV X a ua tv) : JT X (.Compare a [.IsNot] [.Constant .none jk p'] pos) (tB (tNotN ua)) (bNoneV true tv) := ⟨pt_cmp (pc_notN ha.p), fun R q k => ha.s R q fun v r L δ' H' Hs' B' R1 hh x rv q1 => by
  rw [isNoV_dec rv]
  exact ⟨_, rfl, k _ _ _ _ (R1.weaken hh.ex) x (by simpa using q1)⟩⟩
def vName (i : Nat) : TDV := fun δ Q => (∃ d, δ[i]? = some (.dt d) ∧ Q (.dt d) [] δ) ∨ ∃ p o, δ[i]? = some (.ow p o) ∧ Q (.rf p) [] δ
theorem jv_name (i : Nat) {x : Str} (hN : X.N[i]? = some x := by rfl) (hv : Vis X.env.scope x := by first | exact Or.inl rfl | exact Or.inr (Or.inl rfl) | exact Or.inr (Or.inr rfl)) (hd : (x == ("__debug__" : Str)) = false := by decide)
    (hcd : (x == ("__classdict__" : Str)) = false := by decide) : JV X (.Name x pos) (tVar i) (vName i) :=
  ⟨pe_var hN hv hd hcd, fun R h k => by
    rcases h with ⟨d, h, q⟩ | ⟨p, o, h, q⟩
    · obtain ⟨v, e, r⟩ := R.get h
      exact ⟨v, e, k _ (.dt d) [] _ _ _ _ R Hid.nil (Ex.refl _) r q⟩
    · exact ⟨.ref p, R.ref h, k _ (.rf p) [] _ _ _ _ R Hid.nil (Ex.refl _) rfl q⟩⟩
def dDIn (neg : Bool) (t : TDE) (tb : TDV) : TDE := fun δ Q => t δ fun d δ1 => tb δ1 fun rb _ δ2 => ∃ (a : Addr) (kvs : List (Key × RV)) (key : Key), rb = .rf a ∧ Has δ2 a (.dk kvs) ∧ keyOf d = some key ∧ Q (.bool (neg ^^ (getR kvs key).isSome)) δ2
theorem KAll.some_eq {K : PySem.W.Frag} {Hs : Hp} {κ : Type} [DecidableEq κ] {k : κ} {r : List (κ × V)} {s : List (κ × RV)} (h : KAll K Hs r s) : (valV r k).isSome = (getR s k).isSome := by
  cases e : getR s k with
  | none =>
    rw [h.none e]
    rfl
  | some x =>
    obtain ⟨v, hv, _⟩ := h.get e
    rw [hv]
    rfl
theorem je_dinV (hu : X.A.units + 200 < cLine) (ha : JE X a ua t) (hb : JV X b ub tb) : PC X .In a b (tDIn ua ub) ∧ SimE X.z (tDIn ua ub) (dDIn false t tb) := ⟨pc_din (by omega) ha.p hb.p, fun {B H0} [hX : XOk _ _ _] {σ δ H Hs Q Q'} R q k => ha.s R q fun v d δ1 H1 Hs1 R1 x1 r1 q1 => hb.s R1 q1 fun vb rb Lb δ2 H2 Hs2 B2 R2 hh x2 rvb ⟨a, kvs, key, eb, h, ek, q2⟩ => by
  subst eb
  obtain rfl : vb = .ref a := rvb
  obtain ⟨vs, hH, hr⟩ := R2.has h
  rw [key_dp r1 ek]
  refine ⟨a, valV vs key, rfl, .k hH, ?_⟩
  rw [hr.some_eq]
  exact k _ _ _ _ _ (R2.weaken hh.ex) (x1.trans x2) (.bl _) (by simpa using q2)⟩
theorem je_dnotinV (hu : X.A.units + 200 < cLine) (ha : JE X a ua t) (hb : JV X b ub tb) : PC X .NotIn a b (tDNotIn ua ub) ∧ SimE X.z (tDNotIn ua ub) (dDIn true t tb) := ⟨pc_dnotin (by omega) ha.p hb.p, fun {B H0} [hX : XOk _ _ _] {σ δ H Hs Q Q'} R q k => ha.s R q fun v d δ1 H1 Hs1 R1 x1 r1 q1 => hb.s R1 q1 fun vb rb Lb δ2 H2 Hs2 B2 R2 hh x2 rvb ⟨a, kvs, key, eb, h, ek, q2⟩ => by
  subst eb
  obtain rfl : vb = .ref a := rvb
  obtain ⟨vs, hH, hr⟩ := R2.has h
  rw [key_dp r1 ek]
  refine ⟨a, valV vs key, rfl, .k hH, ?_⟩
  rw [hr.some_eq]
  exact k _ _ _ _ _ (R2.weaken hh.ex) (x1.trans x2) (.bl _) (by simpa using q2)⟩
theorem jt_dinV (hu : X.A.units + 200 < cLine) (ha : JE X a ua t) (hb : JV X b ub tb) (h1 : behindInMarks .In b = false := by first | exact nobehind _ (by decide) (by decide) | rfl) : JT X (.Compare a [.In] [b] pos) (tB (tDIn ua ub)) (dTest (dDIn false t tb)) := ⟨pt_cmp (je_dinV hu ha hb).1 h1, sim_B (je_dinV hu ha hb).2⟩
theorem jt_dnotinV (hu : X.A.units + 200 < cLine) (ha : JE X a ua t) (hb : JV X b ub tb) (h1 : behindInMarks .NotIn b = false := by first | exact nobehind _ (by decide) (by decide) | rfl) : JT X (.Compare a [.NotIn] [b] pos) (tB (tDNotIn ua ub)) (dTest (dDIn true t tb)) := ⟨pt_cmp (je_dnotinV hu ha hb).1 h1, sim_B (je_dnotinV hu ha hb).2⟩
def sInsV (tb : TDV) (tj : TDE) (tv : TDV) : TDS := fun De δ => tb δ fun rb _ δ1 => ∃ a, rb = .rf a ∧ (∃ rs, Has δ1 a (.lst rs)) ∧ tj δ1 fun dj δ2 => tv δ2 fun r M δ3 => ∃ rs n, dj = .int n ∧ rs.length ≤ 100000 ∧ 0 ≤ n ∧ n < 2 ^ 63 ∧ Put δ3 a (.lst rs) (.lst (rs.take n.toNat ++ [r] ++ rs.drop n.toNat)) M De.nx
abbrev rInsert : V → List V → Hp → VK → Prop := fun x vs H Q => ∃ (l : Addr) (xs : List V) (i : Int) (y : V), x = .ref l ∧ vs = [.int i, y] ∧ H l = some (.lst xs) ∧ xs.length < sizeLine ∧ 0 ≤ i ∧ i < 2 ^ 63 ∧ Q .non (upd H l (.lst (xs.take i.toNat ++ [y] ++ xs.drop i.toNat)))
theorem js_insV {p2 p3 : Pos} (hb : JV X b ub tb) (hj : JE X j uj tj) (he : JV X e ue tv) (hs : starEach [j, e] X.env = (false, eval j X.env) :: starEach [e] X.env := by rfl) (hs2 : starEach [e] X.env = (false, eval e X.env) :: starEach [] X.env := by rfl)
    (h1 : PE X (.Call (.Attribute b "insert" p2) [j, e] [] p3) (tBM X.K "list" rInsert ub (tCons uj (tCons ue tNil))) → PS X (.Expr (.Call (.Attribute b "insert" p2) [j, e] [] p3) pos) (tDrop (tBM X.K "list" rInsert ub (tCons uj (tCons ue tNil)))) := by exact fun z => ps_expr z)
    (h2 : PE X b ub → PA X [j, e] (tCons uj (tCons ue tNil)) → PE X (.Call (.Attribute b "insert" p2) [j, e] [] p3) (tBM X.K "list" rInsert ub (tCons uj (tCons ue tNil))) := by exact fun z y => pe_bm PySem.F.plainAttrs_list PySem.F.slot_list_insert PySem.F.type_list_insert mt_insert z y) :
    JS X (.Expr (.Call (.Attribute b "insert" p2) [j, e] [] p3) pos) (tDrop (tBM X.K "list" rInsert ub (tCons uj (tCons ue tNil)))) (sInsV tb tj tv) := by
  refine ⟨h1 (h2 hb.p (pa_cons hj.p (pa_cons he.p pa_nil hs2) hs)), fun {B H0} [hX : XOk _ _ _] {σ δ H Hs De De'} R q k => hb.s R q fun vb rb Lb δ1 H1 Hs1 B1 R1 hh1 x1 rvb ⟨a, eb, ⟨rs0, h0⟩, q1⟩ => ?_⟩
  subst eb
  obtain rfl : vb = .ref a := rvb
  obtain ⟨vs0, hH0, _⟩ := R1.has h0
  refine ⟨.inl ⟨rfl, vs0, .inl (.inl hH0)⟩, ?_⟩
  refine hj.s (R1.weaken hh1.ex) q1 fun y dj δ2 H2 Hs2 R2 x2 r2 q2 => he.s R2 q2 fun v r M δ3 H3 Hs3 B3 R3 hh3 x3 rv ⟨rs, n, ej, hl, n0, n1, q3⟩ => ?_
  subst ej
  cases r2
  obtain ⟨vs, hH, hr⟩ := R3.has q3.has
  obtain ⟨δ', R4, q4⟩ := R3.putL hh3 q3 (((hr.take n.toNat).app (.cons rv .nil)).app (hr.drop n.toNat))
  exact ⟨a, vs, n, v, rfl, rfl, hH, by rw [hr.len]; exact lt_line hl, n0, n1, k.nx _ _ _ _ R4 (x1.trans (x2.trans x3)) q4⟩
theorem RAll.erase {K : PySem.W.Frag} {Hs : Hp} : ∀ (n : Nat) {vs : List V} {rs : List RV}, RAll K Hs vs rs → RAll K Hs (vs.eraseIdx n) (rs.eraseIdx n)
  | _, _, _, .nil => by simp; exact .nil
  | 0, _, _, .cons _ t => t
  | n + 1, _, _, .cons p t => .cons p (RAll.erase n t)
def vPopAt (tb : TDV) (tj : TDE) : TDV := fun δ Q => tb δ fun rb _ δ1 => ∃ a, rb = .rf a ∧ (∃ rs, Has δ1 a (.lst rs)) ∧ tj δ1 fun dj δ2 => ∃ (rs : List RV) (n : Int) (k : Nat) (z : RV), dj = .int n ∧ -(2 ^ 63) ≤ n ∧ n < 2 ^ 63 ∧ seqIndex? n rs.length = some k ∧ rs[k]? = some z ∧ Put δ2 a (.lst rs) (.lst (rs.eraseIdx k)) [] fun δ' => Q z [] δ'
theorem jv_popAt {p2 p3 : Pos} (hb : JV X b ub tb) (hj : JE X j uj tj) (hs : starEach [j] X.env = (false, eval j X.env) :: starEach [] X.env := by rfl)
    (h2 : PE X b ub → PA X [j] (tCons uj tNil) → PE X (.Call (.Attribute b "pop" p2) [j] [] p3) (tBM X.K "list" rPopAt ub (tCons uj tNil)) := by exact fun z y => pe_bm PySem.F.plainAttrs_list PySem.F.slot_list_pop PySem.F.type_list_pop mt_popAt z y) :
    JV X (.Call (.Attribute b "pop" p2) [j] [] p3) (tBM X.K "list" rPopAt ub (tCons uj tNil)) (vPopAt tb tj) := by
  refine ⟨h2 hb.p (pa_cons hj.p pa_nil hs), fun {B H0} [hX : XOk _ _ _] {σ δ H Hs Q Q'} R q k => hb.s R q fun vb rb Lb δ1 H1 Hs1 B1 R1 hh1 x1 rvb ⟨a, eb, ⟨rs0, h0⟩, q1⟩ => ?_⟩
  subst eb
  obtain rfl : vb = .ref a := rvb
  obtain ⟨vs0, hH0, _⟩ := R1.has h0
  refine ⟨.inl ⟨rfl, vs0, .inl (.inl hH0)⟩, ?_⟩
  refine hj.s (R1.weaken hh1.ex) q1 fun y dj δ2 H2 Hs2 R2 x2 r2 ⟨rs, n, kk, z, ej, n0, n1, hk, hz, q2⟩ => ?_
  subst ej
  cases r2
  obtain ⟨vs, hH, hr⟩ := R2.has q2.has
  obtain ⟨w, hw, rw'⟩ := hr.get hz
  obtain ⟨δ', R4, q4⟩ := R2.putL Hid.nil q2 (hr.erase kk)
  exact ⟨a, vs, n, kk, w, rfl, rfl, hH, n0, n1, by rw [hr.len]; exact hk, hw, k _ z [] _ _ _ _ R4 Hid.nil (x1.trans x2) rw' q4⟩
end
end EL
namespace EL
open PySem PySem.Spec PyProof.Rows L2
section
variable {X : Cy} {e a b tg : Expr} {es : List Expr} {pos : Pos} {t ta : TDE} {tb : TDV} {ue ub : TE} {us : TA} {sts : List Stmt} {st : Stmt} {w : TS} {s : TDS}
def sForVGo (i : Nat) (a : Addr) (s : TDS) (De : DEnds) : List RV → Nat → Dl → Prop
  | [], n, δ => (∃ rs, Has δ a (.lst rs) ∧ rs.length ≤ n) ∧ De.nx δ
  | r :: l, n, δ => (∃ rs, Has δ a (.lst rs) ∧ rs[n]? = some r) ∧ i < δ.length ∧ s { De with nx := sForVGo i a s De l (n + 1), ct := sForVGo i a s De l (n + 1), bk := De.nx } (δ.set i (slotV r []))
def sForV (i : Nat) (tb : TDV) (s : TDS) : TDS := fun De δ => tb δ fun rb _ δ1 => ∃ a l, rb = .rf a ∧ sForVGo i a s De l 0 δ1
theorem sForVGo.has {i : Nat} {a : Addr} {De : DEnds} {n : Nat} {δ : Dl} : ∀ {l : List RV}, sForVGo i a s De l n δ → ∃ rs, Has δ a (.lst rs)
  | [], h => ⟨_, h.1.choose_spec.1⟩
  | _ :: _, h => ⟨_, h.1.choose_spec.1⟩
theorem Rep.setV {K : PySem.W.Frag} {B H0 H Hs : Hp} {σ : L2.St} {δ : Dl} {i : Nat} {v : V} {r : RV} (R : Rep K B H0 σ δ H Hs) (h : RVal K Hs v r) (hi : i < δ.length) : Rep K B H0 (σ.set i (some v)) (δ.set i (slotV r [])) H Hs := by
  cases r with
  | dt d => exact R.set h i
  | rf a =>
    obtain rfl : v = .ref a := h
    exact R.ownR Hid.nil hi
theorem js_forV {i : Nat} {x : Str} {p1 : Pos} (hc : X.calm = true) (hN : X.N.Nodup) (hb : JV X b ub tb) (hs1 : JSs X sts w s) (hi : X.N[i]? = some x := by rfl) (hx : Loc X.env.scope x := by first | exact .inl rfl | exact .inr rfl) (hf : X.fn x = true ∨ X.env.scope.names.lookup x = some .local := by first | exact .inl rfl | exact .inr rfl | assumption)
    (hs : ∀ z, foldedSetIterable b X.env z = pure z := by intro _; rfl) (hp : PassesOwn (model X.prog X.w) X.A X.env X.xe := by exact PassesOwn.never) : JS X (.For (.Name x p1) b sts [] pos) (tFor (iList X.K ub) (gName i) w) (sForV i tb s) := by
  refine ⟨ps_for hp hc (pi_list hb.p) (pg_name hN hi hx hf) hs1.p hs, ?_⟩
  intro B H0 hX σ δ H Hs D0 D' R q k
  refine hb.s R q fun vb rb Lb δ1 H1 Hs1 B1 R1 hh e1 rvb ⟨a, l, eb, q1⟩ => ?_
  subst eb
  obtain rfl : vb = .ref a := rvb
  obtain ⟨rs0, h0⟩ := q1.has
  obtain ⟨vs0, hH0, _⟩ := R1.has h0
  have k1 := k.mono e1
  refine ⟨a, rfl, ⟨vs0, .inl (.inl hH0)⟩, fun n m σ' H' => ∃ l δ' Hs', l.length = m ∧ Rep X.K B H0 σ' δ' H' Hs' ∧ Ex Hs1 Hs' ∧ sForVGo i a s D0 l n δ', ⟨l.length, l, δ1, Hs1, rfl, R1.weaken hh.ex, Ex.refl _, q1⟩, ?_⟩
  rintro n m σ' H' ⟨l, δ', Hs', hm, R', e', q'⟩
  cases l with
  | nil =>
    obtain ⟨⟨rs, h, hl⟩, q'⟩ := q'
    obtain ⟨vs, hH, hr⟩ := R'.has h
    exact .inl ⟨⟨vs, .inl (.inl hH), by rw [hr.len]; exact hl⟩, k1.nx _ _ _ _ R' e' q'⟩
  | cons r l =>
    obtain ⟨⟨rs, h, hr1⟩, hi', q'⟩ := q'
    obtain ⟨vs, hH, hr⟩ := R'.has h
    obtain ⟨v, hv, rv⟩ := hr.get hr1
    refine .inr ⟨⟨vs, v, .inl (.inl hH), hv⟩, fun σ2 H2 => ∃ δ2 Hs2, Rep X.K B H0 σ2 δ2 H2 Hs2 ∧ Ex Hs1 Hs2 ∧ sForVGo i a s D0 l (n + 1) δ2, fun σ2 H2 ⟨δ2, Hs2, R2, e2, q2⟩ => ⟨l.length, by simp at hm; omega, l, δ2, Hs2, rfl, R2, e2, q2⟩, fun x H2 ⟨ee, y⟩ => ?_⟩
    subst ee
    have z := y vs (.inl (.inl hH))
    rw [hv] at z
    cases z
    exact hs1.s (R'.setV rv hi') q' ⟨fun σ4 δ4 H4 Hs4 R4 e4 q4 => ⟨δ4, Hs4, R4, e'.trans e4, q4⟩, (k1.mono e').rt, (k1.mono e').rn, (k1.mono e').ro, (k1.mono e').rr, (k1.mono e').nx, fun σ4 δ4 H4 Hs4 R4 e4 q4 => ⟨δ4, Hs4, R4, e'.trans e4, q4⟩⟩
def View (δ : Dl) (L : Lf) : RV → D → Prop
  | .dt d, e => d = e
  | .rf a, e => ∃ xs : List D, e = .list xs ∧ (Has δ a (.lst (xs.map .dt)) ∨ (a, Ob.lst (xs.map .dt)) ∈ L ∨ ∃ (i : Nat), δ[i]? = some (SD.ow a (.lst xs)))
def Views (δ : Dl) (L : Lf) : List RV → List D → Prop
  | [], [] => True
  | r :: rs, d :: ds => View δ L r d ∧ Views δ L rs ds
  | _, _ => False
def scal : D → Bool
  | .none => true
  | .bool _ => true
  | .int _ => true
  | .str _ => true
  | _ => false
theorem scal_dp {K : PySem.W.Frag} {H H' : Hp} {v : V} {d : D} (r : Dp K H v d) (h : scal d = true) : Dp K H' v d := by
  cases r with
  | non => exact .non
  | bl b => exact .bl b
  | int i => exact .int i
  | str x => exact .str x
  | _ => cases h
theorem view_dp {K : PySem.W.Frag} {B B' H0 H Hs : Hp} {σ : L2.St} {δ : Dl} {L : Lf} {v : V} {r : RV} {d : D} (R : Rep K B' H0 σ δ H Hs) (hh : Hid K B B' H0 Hs L) (hv : RVal K Hs v r) (w : View δ L r d) : Dp K H v d := by
  cases r with
  | dt e =>
    obtain rfl : e = d := w
    exact dp_mono R.ex hv
  | rf a =>
    obtain rfl : v = .ref a := hv
    obtain ⟨xs, rfl, h | h | ⟨i, h⟩⟩ := w
    · obtain ⟨vs, hp, hr⟩ := R.has h
      exact .lst (.inl (.inl hp)) (dpAll_mono R.ex hr.to_dp)
    · obtain ⟨vs, hp, hr⟩ := hh.rg.at_ _ h
      exact .lst (.inl (.inl (R.base _ _ hp))) (dpAll_mono R.ex hr.to_dp)
    · obtain ⟨vs, _, hp, hr⟩ := own_at R h
      exact .lst (.inl (.inl hp)) (dpAll_mono R.ex hr)
theorem views_dp {K : PySem.W.Frag} {B B' H0 H Hs : Hp} {σ : L2.St} {δ : Dl} {L : Lf} (R : Rep K B' H0 σ δ H Hs) (hh : Hid K B B' H0 Hs L) : ∀ {vs : List V} {rs : List RV} {ds : List D}, RAll K Hs vs rs → Views δ L rs ds → DpAll K H vs ds
  | _, _, [], .nil, _ => .nil
  | _, _, _ :: _, .nil, h => h.elim
  | _, _, [], .cons _ _, h => h.elim
  | _, _, _ :: _, .cons r t, h => .cons (view_dp R hh r h.1) (views_dp R hh t h.2)
def dView (dsp : DSp) (tvs : TDVs) : TDE := fun δ Q => tvs δ fun rs L δ' => ∃ ds, Views δ' L rs ds ∧ ∀ Q2 : RS → List SD → Prop, (∀ d as', as'.length = ds.length → scal d = true → Q d δ' → Q2 (.dt d) as') → dsp (ds.map .dt) Q2
theorem sim_view {dsp : DSp} {tvs : TDVs} (h : SimVs X.z us tvs) : SimE X.z (tCallS (spOf X.K dsp) eNo us) (dView dsp tvs) := fun {B H0} [hX : XOk _ _ _] {σ δ H Hs Q Q'} R q k => h R q fun vs rs L δ1 H1 Hs1 B1 R1 hh e1 r1 ⟨ds, hv, hd⟩ => by
  have hdp := views_dp R1 hh r1 hv
  refine ⟨H1, ds.map .dt, fun _ _ => False, by rw [List.length_map, dpAll_len hdp], Ex.refl _, ⟨fun i s hs => ?_, fun _ _ _ h => h, fun _ _ _ h => h.elim⟩, ?_⟩
  · rw [List.getElem?_map] at hs
    obtain ⟨d, hd1, hd2⟩ := Option.map_eq_some_iff.mp hs
    subst hd2
    obtain ⟨v, hv1, r⟩ := dpAll_get hdp hd1
    exact ⟨some v, by rw [List.getElem?_map, hv1]; rfl, r, fun _ h => h⟩
  · refine hd _ fun d as' hl hsc hq H' Hs' fps' x1 x2 x3 x4 x5 x6 v hr => ?_
    have ex := x2.trans x3
    exact k v d δ1 H' Hs1 ((R1.weaken hh.ex).ext ⟨Ex.refl _, ex, R1.ex.trans ex, fun b h1 h2 => absurd h2 h1⟩) e1 (scal_dp hr hsc) hq
theorem je_view {dsp : DSp} {tvs : TDVs} {K' : PySem.W.Frag} (p : PE X e (tCallS (spOf K' dsp) eNo us)) (h : SimVs X.z us tvs) (hK : X.K = K' := by rfl) : JE X e (tCallS (spOf K' dsp) eNo us) (dView dsp tvs) := by
  subst hK
  exact ⟨p, sim_view h⟩
theorem js_never : JS X st (fun _ _ _ => False) (fun _ _ => False) := ⟨⟨fun _ _ _ _ _ _ h => h.elim⟩, fun _ q _ => q.elim⟩
theorem jss_never : JSs X sts (fun _ _ _ => False) (fun _ _ => False) := ⟨⟨fun _ _ _ _ _ _ h => h.elim⟩, fun _ q _ => q.elim⟩
theorem je_never : JE X e (fun _ _ _ => False) (fun _ _ => False) := ⟨⟨fun _ _ _ _ _ _ h => h.elim⟩, fun _ q _ => q.elim⟩
def Mv (δ : Dl) (j k : Nat) (L1 : Lf) (Q : Dl → Prop) : Prop := ∃ (a : Addr) (L0 : Lf), δ[j]? = some (SD.ow a (OD.rg L0)) ∧ j ≠ k ∧ Loan δ L1 k fun δ1 => ∃ M, (L0 ++ L1).Perm M ∧ Q (δ1.set j (.ow a (OD.rg M)))
theorem Rep.mv {K : PySem.W.Frag} {B H0 H Hs : Hp} {σ : L2.St} {δ : Dl} {j k : Nat} {L1 : Lf} {Q : Dl → Prop} (R : Rep K B H0 σ δ H Hs) (h : Mv δ j k L1 Q) : ∃ δ', Rep K B H0 σ δ' H Hs ∧ Q δ' := by
  obtain ⟨a, L0, ha, hne, p, M0, L2, hk, hp, M, hM, q⟩ := h
  obtain ⟨B1, R1, hh⟩ := R.splitR hk hp
  have hj : (δ.set k (SD.ow p (OD.rg L2)))[j]? = some (SD.ow a (OD.rg L0)) := by
    rw [List.getElem?_set_ne (fun z => hne z.symm)]
    exact ha
  have R2 := R1.joinR hh hj
  have R3 := R2.permR (List.getElem?_set_self (lt_of_get hj)) hM
  rw [List.set_set] at R3
  exact ⟨_, R3, q⟩
def sMv (j k : Nat) (s : TDS) : TDS := fun De δ => ∃ L1, Mv δ j k L1 fun δ' => s De δ'
theorem js_mv (j k : Nat) (h : JSs X sts w s) : JSs X sts w (sMv j k s) := ⟨h.p, fun R ⟨L1, q⟩ kk => by
  obtain ⟨δ', R1, q1⟩ := R.mv q
  exact h.s R1 q1 kk⟩
end
end EL
namespace EL
open PySem PySem.Spec PyProof.Rows L2
mutual
def nkOf : D → Option NestedKey
  | .none => some .none
  | .bool b => some (.num (if b = true then 1 else 0))
  | .int i => some (.num i)
  | .str x => some (.text x)
  | .tuple ds => (nksOf ds).bind fun ks => some (.tup ks)
  | _ => none
def nksOf : List D → Option (List NestedKey)
  | [] => some []
  | d :: ds => (nkOf d).bind fun k => (nksOf ds).bind fun ks => some (k :: ks)
end
section
variable {X : Cx} {pins : List (Addr × Obj)} {σ : L2.St} {H : Hp} {s : Shared}
mutual
theorem nk_is (I : Inv X pins σ H s) : ∀ (d : D) (v : V) (u : Value) (k : NestedKey), Dp X.K H v d → RelV v u → nkOf d = some k → NestedIs s.heap k u
  | .none, v, u, k, h, r, e => by
    cases h
    simp only [nkOf, Option.some.injEq] at e
    subst e
    obtain rfl : u = Value.none := r
    exact .none
  | .bool b, v, u, k, h, r, e => by
    cases h
    simp only [nkOf, Option.some.injEq] at e
    subst e
    obtain rfl : u = Value.bool b := r
    exact .bool rfl
  | .int i, v, u, k, h, r, e => by
    cases h
    simp only [nkOf, Option.some.injEq] at e
    subst e
    obtain ⟨t, rfl⟩ := r
    exact .int i t
  | .str x, v, u, k, h, r, e => by
    cases h
    simp only [nkOf, Option.some.injEq] at e
    subst e
    obtain ⟨t, rfl⟩ := r
    exact .text x t
  | .list _, _, _, _, _, _, e => by simp [nkOf] at e
  | .tuple ds, v, u, k, h, r, e => by
    cases h with
    | @tup a vs _ hs ha =>
      simp only [nkOf] at e
      cases e1 : nksOf ds with
      | none =>
        rw [e1] at e
        cases e
      | some ks =>
        rw [e1] at e
        cases e
        obtain rfl : u = Value.ref a := r
        obtain ⟨its, rv, p1, _⟩ := I.tuple hs
        obtain ⟨o1, h1, h2, n, h3⟩ := (show s.heap.IsTuple a its.toArray from p1)
        exact .tup h1 h2 h3 (nks_is I ds vs its ks ha rv e1)
theorem nks_is (I : Inv X pins σ H s) : ∀ (ds : List D) (vs : List V) (us : List Value) (ks : List NestedKey), DpAll X.K H vs ds → Vals vs us → nksOf ds = some ks → NestedAll s.heap ks us
  | [], vs, us, ks, h, r, e => by
    cases h
    cases r
    simp only [nksOf, Option.some.injEq] at e
    subst e
    exact .nil
  | d :: ds, vs, us, ks, h, r, e => by
    cases h with
    | cons h1 h2 =>
      cases r with
      | cons r1 r2 =>
        simp only [nksOf] at e
        cases e1 : nkOf d with
        | none =>
          rw [e1] at e
          cases e
        | some k =>
          cases e2 : nksOf ds with
          | none =>
            rw [e1, e2] at e
            cases e
          | some ks' =>
            rw [e1, e2] at e
            cases e
            exact .cons (nk_is I d _ _ k h1 r1 e1) (nks_is I ds _ _ ks' h2 r2 e2)
end
end
abbrev NEs := List (NestedKey × Addr × Value)
def DNo (P : Program) (w : World) (d : Addr) (xs : NEs) (ep : Nat) : HO := .ext fun h => ∃ o es, h.get? d = some o ∧ o.ExactDict ∧ o.data = .dict es ep ∧ es.toList = xs.map (entryOfKey (nestedKind P w)) ∧ (xs.map (·.1)).Nodup ∧ (d == sysModules) = false ∧ xs.length ≤ sizeLine
def KeyA (K : PySem.W.Frag) (H : Hp) (k : NestedKey) (b : Addr) : Prop := ∃ kd, Dp K H (.ref b) kd ∧ nkOf kd = some k ∧ k.depth ≤ 8
section
variable {X : Cx} {pins : List (Addr × Obj)} {σ : L2.St} {H : Hp} {s : Shared} {d b : Addr} {xs : NEs} {k : NestedKey}
theorem dn_ok {P : Program} {w : World} {h : Heap} (x : h.DictOfH (nestedKind P w) d xs) (hd : (d == sysModules) = false) (hl : xs.length ≤ sizeLine) : ∃ ep, ∀ H : Hp, ObjOk P w H h d (DNo P w d xs ep) := by
  obtain ⟨o, es, ep, h1, h2, h3, h4, h5, h6⟩ := x
  exact ⟨ep, fun H => ⟨⟨o, es, h1, h2, h3, h4, h6, hd, hl⟩, ⟨o, h1⟩, fun g1 g2 ⟨o, es, e, r⟩ kk => ⟨o, es, kk o e, r⟩⟩⟩
theorem keyA_is (I : Inv X pins σ H s) (h : KeyA X.K H k b) : (nestedKind X.prog X.w).is s.heap k b := by
  obtain ⟨kd, h1, h2, h3⟩ := h
  exact ⟨nk_is I kd _ _ k h1 rfl h2, h3⟩
theorem dn_of (I : Inv X pins σ H s) (e : ∃ ep, H d = some (DNo X.prog X.w d xs ep)) (hk : ∀ x ∈ xs, KeyA X.K H x.1 x.2.1) : s.heap.DictOfH (nestedKind X.prog X.w) d xs ∧ (d == sysModules) = false ∧ xs.length ≤ sizeLine := by
  obtain ⟨ep, e⟩ := e
  have z : ObjOk X.prog X.w H s.heap d (DNo X.prog X.w d xs ep) := I.hok d _ e
  obtain ⟨⟨o, es, h1, h2, h3, h4, h5, h6, h7⟩, _, _⟩ := z
  exact ⟨⟨o, es, ep, h1, h2, h3, h4, fun x hx => keyA_is I (hk x hx), h5⟩, h6, h7⟩
theorem dn_ty (I : Inv X pins σ H s) (e : ∃ ep, H d = some (DNo X.prog X.w d xs ep)) : s.TypeIs (.ref d) "dict" ∧ ∀ a, Value.ref d = .ref a → ∃ ob, s.heap.get? a = some ob ∧ ob.dict = none := by
  obtain ⟨ep, e⟩ := e
  have z : ObjOk X.prog X.w H s.heap d (DNo X.prog X.w d xs ep) := I.hok d _ e
  obtain ⟨⟨o, es, h1, h2, h3, _⟩, _, _⟩ := z
  refine ⟨⟨o, h1, h2.1⟩, fun a ea => ?_⟩
  cases ea
  exact ⟨o, h1, h2.2.1⟩
end
def RdN (K : PySem.W.Frag) (P : Program) (w : World) (H : Hp) (d : Addr) (xs : NEs) : Prop := (∃ ep, H d = some (DNo P w d xs ep)) ∧ ∀ x ∈ xs, KeyA K H x.1 x.2.1
def tDNewN (P : Program) (w : World) : TE := fun _ H Q => ∀ p ep, H p = none → Q (.ref p) (upd H p (DNo P w p [] ep))
def rInN (K : PySem.W.Frag) (P : Program) (w : World) (neg : Bool) : R2 := fun x y H Q => ∃ b d xs k, x = .ref b ∧ y = .ref d ∧ RdN K P w H d xs ∧ KeyA K H k b ∧ Q (.bl (neg ^^ (atKey xs k).isSome)) H
def rIxN (K : PySem.W.Frag) (P : Program) (w : World) : R2 := fun x y H Q => ∃ b d xs k c u v, x = .ref d ∧ y = .ref b ∧ RdN K P w H d xs ∧ KeyA K H k b ∧ atKey xs k = some (c, u) ∧ RelV v u ∧ Q v H
def rGetN (K : PySem.W.Frag) (P : Program) (w : World) : V → List V → Hp → VK → Prop := fun x vs H Q => ∃ b d z xs k, x = .ref d ∧ vs = [.ref b, z] ∧ RdN K P w H d xs ∧ KeyA K H k b ∧ ((∃ c u v, atKey xs k = some (c, u) ∧ RelV v u ∧ Q v H) ∨ atKey xs k = none ∧ Q z H)
def rSetN (K : PySem.W.Frag) (P : Program) (w : World) : TSet := fun o i v H Q => ∃ b d xs k, o = .ref d ∧ i = .ref b ∧ RdN K P w H d xs ∧ KeyA K H k b ∧ xs.length < sizeLine ∧ ∀ u ep, RelV v u → Q (upd H d (DNo P w d (storedH xs k b u) ep))
section
variable {X : Cx} {pos apos cpos : Pos} {o e : Expr} {es : List Expr} {to : TE} {t : TA}
theorem room_n (hu : X.A.units + 200 < cLine) : (nestedKind X.prog X.w).room X.A.in1 := by
  show X.A.in1.units + 8 < cLine
  simp only [Around.in1_units]
  omega
theorem pe_dnewN : PE X (.Dict [] [] pos) (tDNewN X.prog X.w) := ⟨fun pins s σ H Q I h => by
  obtain ⟨ep, ok⟩ := dn_ok (P := X.prog) (w := X.w) (Heap.DictOfH.new s.heap) (beq_eq_false_iff_ne.mpr (Ne.symm (Nat.ne_of_lt I.big))) (Nat.zero_le _)
  exact wpAny_Dict_empty ⟨.ref s.heap.objs.size, _, I.laid (a := s.heap.objs.size) (o := DNo X.prog X.w s.heap.objs.size [] ep) (t' := s.toks) (fun _ _ q => Heap.get?_push_of_some _ q) (Nat.le_refl _) (ok _), rfl, h _ ep (I.hok.fresh (Nat.le_refl _))⟩⟩
theorem op_inN (hu : X.A.units + 200 < cLine) : OpR X (compareOp .In) (rInN X.K X.prog X.w false) := by
  intro pins s σ H x y v u Q I rx ry ⟨b, d, xs, k, ex, ey, hr, hk, q⟩
  subst ex ey
  obtain rfl : v = Value.ref b := rx
  obtain rfl : u = Value.ref d := ry
  obtain ⟨h1, h2, h3⟩ := dn_of I hr.1 hr.2
  refine in_keyed (knd := nestedKind X.prog X.w) (room_n hu) (keyA_is I hk) h2 ⟨xs, h1, rfl⟩ ?_
  rw [valueAt_pairsH, Option.isSome_map]
  rw [Bool.false_xor] at q
  exact ⟨.bl _, H, I.tok _, rfl, q⟩
theorem op_notInN (hu : X.A.units + 200 < cLine) : OpR X (compareOp .NotIn) (rInN X.K X.prog X.w true) := by
  intro pins s σ H x y v u Q I rx ry ⟨b, d, xs, k, ex, ey, hr, hk, q⟩
  subst ex ey
  obtain rfl : v = Value.ref b := rx
  obtain rfl : u = Value.ref d := ry
  obtain ⟨h1, h2, h3⟩ := dn_of I hr.1 hr.2
  refine notIn_keyed (knd := nestedKind X.prog X.w) (room_n hu) (keyA_is I hk) h2 ⟨xs, h1, rfl⟩ ?_
  rw [valueAt_pairsH, Option.isSome_map]
  rw [Bool.true_xor] at q
  exact ⟨.bl _, H, I.tok _, rfl, q⟩
theorem mt_getN (hu : X.A.units + 200 < cLine) : MtR X "dict.get" (rGetN X.K X.prog X.w) := by
  intro pins s σ H x vs v us Q I rx rv ⟨b, d, z, xs, k, ex, ev, hr, hk, q⟩
  subst ex ev
  obtain rfl : v = Value.ref d := rx
  obtain ⟨u1, u2, rfl, r1, r2⟩ := rv.two
  obtain rfl : u1 = Value.ref b := r1
  obtain ⟨h1, h2, h3⟩ := dn_of I hr.1 hr.2
  refine getOr_keyed (knd := nestedKind X.prog X.w) (room_n hu) (keyA_is I hk) h2 ⟨xs, h1, rfl⟩ ?_
  rw [valueAt_pairsH]
  rcases q with ⟨c, u, w', ha, ru, q⟩ | ⟨ha, q⟩
  · rw [ha]
    exact ⟨w', H, I.tok _, ru, q⟩
  · rw [ha]
    exact ⟨z, H, I.tok _, r2, q⟩
theorem set_N (hu : X.A.units + 200 < cLine) : PSet X (rSetN X.K X.prog X.w) := by
  intro pins s σ H o i v ov iv u Q I ro ri rv ⟨b, d, xs, k, eo, ei, hr, hk, hl, q⟩
  subst eo ei
  obtain rfl : ov = Value.ref d := ro
  obtain rfl : iv = Value.ref b := ri
  obtain ⟨h1, h2, h3⟩ := dn_of I hr.1 hr.2
  refine wpAny_setItem_heap (knd := nestedKind X.prog X.w) (hsz := h3) (room_n hu) (keyA_is I hk) h1 fun h' hm hs => ?_
  have hl2 : (storedH xs k b u).length ≤ sizeLine := by
    unfold storedH
    split
    · rw [List.length_map]
      exact h3
    · rw [List.length_append, List.length_singleton]
      omega
  obtain ⟨ep0, hr1⟩ := hr.1
  obtain ⟨ep, ok⟩ := dn_ok hm h2 hl2
  exact ⟨_, d_write I (by rw [hr1]; exact True.intro) hs (let ⟨q, _, _, hq, _⟩ := hm; ⟨q, hq⟩) (ok _), q u ep rv⟩
def tBMN (P : Program) (w : World) (r : V → List V → Hp → VK → Prop) (to : TE) (t : TA) : TE := fun σ H Q => to σ H fun x H1 => (∃ d xs, x = .ref d ∧ ∃ ep, H1 d = some (DNo P w d xs ep)) ∧ t σ H1 fun xs H2 => r x xs H2 Q
theorem pe_bmN {id : String} {name : Str} {r : V → List V → Hp → VK → Prop} (pa : PlainAttrs "dict") (slot : Slot "dict" name id) (hty : typeOf (.builtin id) = pure (.type "method_descriptor")) (hm : MtR X id r) (ho : PE X o to) (ha : PA X (e :: es) t)
    (hbase : attributeBase o name X.env (eval o X.env) = eval o X.env := by rfl)
    (hfew : ((backTo cpos (starEach (e :: es) X.env)).all (fun x => !x.1) && (backToKw cpos (keywordEach [] X.env)).all (fun x => x.1.isSome)
      && decide ((e :: es).length + ([] : List Keyword).length + (if ([] : List Keyword).isEmpty then 0 else 1) < 30)) = true := by rfl)
    (hline : (apos.endLine == cpos.line) = true := by rfl) (hs : starEach (e :: es) X.env = (false, eval e X.env) :: starEach es X.env := by rfl) (hplain : (backTo cpos (starEach es X.env)).any (·.1) = false := by rfl) :
    PE X (.Call (.Attribute o name apos) (e :: es) [] cpos) (tBMN X.prog X.w r to t) := by
  refine ⟨fun pins s σ H Q I h => ?_⟩
  refine wpAny_Call_method_late hbase hfew hline rfl (thn (ho.run pins s σ H _ I h) fun v s1 ⟨x, H1, I1, r1, ⟨d, xs, ex, hd⟩, q1⟩ => ?_)
  subst ex
  obtain rfl : v = Value.ref d := r1
  obtain ⟨h1, h2⟩ := dn_ty I1 hd
  refine ⟨"dict", id, pa, slot, hty, h1, h2, ?_⟩
  have hA := ha.run cpos pins s1 σ H1 _ I1 q1
  rw [hs] at hA ⊢
  refine Calls.callWith_builtin (by show (false || (backTo cpos (starEach es X.env)).any (·.1)) = false; rw [hplain] <;> rfl) (Calls.evalArgs_plain ?_)
  exact thn hA fun us s2 ⟨vs, H2, I2, r2, q2⟩ => hm pins s2 σ H2 (.ref d) vs (.ref d) us Q I2 rfl r2 q2
end
end EL
namespace EL
open PySem PySem.Spec PyProof.Rows L2
inductive ENs (K : PySem.W.Frag) (Hs : Hp) : NEs → List (D × D) → Prop
  | nil : ENs K Hs [] []
  | cons {k : NestedKey} {b : Addr} {u : Value} {v : V} {kd vd : D} {xs : NEs} {kvs : List (D × D)} : nkOf kd = some k → k.depth ≤ 8 → Dp K Hs (.ref b) kd → RelV v u → Dp K Hs v vd → ENs K Hs xs kvs → ENs K Hs ((k, b, u) :: xs) ((kd, vd) :: kvs)
def getN (kvs : List (D × D)) (k : NestedKey) : Option D := (kvs.find? fun kv => decide (nkOf kv.1 = some k)).map (·.2)
def putN (kvs : List (D × D)) (kd : D) (k : NestedKey) (d : D) : List (D × D) := if (getN kvs k).isSome then kvs.map (fun kv => if nkOf kv.1 = some k then (kv.1, d) else kv) else kvs ++ [(kd, d)]
section
variable {K : PySem.W.Frag} {Hs Hs' H : Hp} {k : NestedKey}
theorem ENs.mono (e : Ex Hs Hs') : ∀ {xs : NEs} {kvs : List (D × D)}, ENs K Hs xs kvs → ENs K Hs' xs kvs
  | _, _, .nil => .nil
  | _, _, .cons h1 h2 h3 h4 h5 t => .cons h1 h2 (dp_mono e h3) h4 (dp_mono e h5) (t.mono e)
theorem ENs.len : ∀ {xs : NEs} {kvs : List (D × D)}, ENs K Hs xs kvs → xs.length = kvs.length
  | _, _, .nil => rfl
  | _, _, .cons _ _ _ _ _ t => congrArg (· + 1) t.len
theorem ENs.keys (e : Ex Hs H) : ∀ {xs : NEs} {kvs : List (D × D)}, ENs K Hs xs kvs → ∀ x ∈ xs, KeyA K H x.1 x.2.1
  | _, _, .nil => fun x hx => by simp at hx
  | _, _, .cons (kd := kd) h1 h2 h3 h4 h5 t => fun x hx => by
    rcases List.mem_cons.mp hx with rfl | hx
    · exact ⟨kd, dp_mono e h3, h1, h2⟩
    · exact t.keys e x hx
theorem ENs.get : ∀ {xs : NEs} {kvs : List (D × D)}, ENs K Hs xs kvs → (∀ d, getN kvs k = some d → ∃ c u v, atKey xs k = some (c, u) ∧ RelV v u ∧ Dp K Hs v d) ∧ (getN kvs k = none → atKey xs k = none)
  | _, _, .nil => ⟨fun d h => by simp [getN] at h, fun _ => rfl⟩
  | _, _, .cons (k := k') (b := b) (u := u) (v := v) (kd := kd) (vd := vd) (xs := xs) (kvs := kvs) h1 h2 h3 h4 h5 t => by
    obtain ⟨i1, i2⟩ := t.get
    by_cases e : k' = k
    · have g : getN ((kd, vd) :: kvs) k = some vd := by simp [getN, List.find?_cons, h1, e]
      have a : atKey ((k', b, u) :: xs) k = some (b, u) := by simp [atKey, List.find?_cons, e]
      rw [g, a]
      exact ⟨fun d hd => by cases hd; exact ⟨b, u, v, rfl, h4, h5⟩, fun z => nomatch z⟩
    · have g : getN ((kd, vd) :: kvs) k = getN kvs k := by simp [getN, List.find?_cons, h1, e]
      have a : atKey ((k', b, u) :: xs) k = atKey xs k := by simp [atKey, List.find?_cons, e]
      rw [g, a]
      exact ⟨i1, i2⟩
theorem ENs.isSome {xs : NEs} {kvs : List (D × D)} (h : ENs K Hs xs kvs) : (atKey xs k).isSome = (getN kvs k).isSome := by
  cases e : getN kvs k with
  | none =>
    rw [h.get.2 e]
    rfl
  | some d =>
    obtain ⟨c, u, v, h1, _⟩ := h.get.1 d e
    rw [h1]
    rfl
theorem ENs.map {u : Value} {v : V} {d : D} (r : RelV v u) (q : Dp K Hs v d) : ∀ {xs : NEs} {kvs : List (D × D)}, ENs K Hs xs kvs → ENs K Hs (xs.map (putAt k u)) (kvs.map fun kv => if nkOf kv.1 = some k then (kv.1, d) else kv)
  | _, _, .nil => .nil
  | _, _, .cons (k := k') h1 h2 h3 h4 h5 t => by
    rw [List.map_cons, List.map_cons]
    unfold putAt
    by_cases e : k' = k
    · simp only [h1, e, if_true]
      exact .cons (by rw [h1, e]) (by rw [← e]; exact h2) h3 r q (t.map r q)
    · have : ¬ some k' = some k := fun z => e (Option.some.inj z)
      simp only [h1, e, this, if_false]
      exact .cons h1 h2 h3 h4 h5 (t.map r q)
theorem ENs.app : ∀ {xs ys : NEs} {kvs lvs : List (D × D)}, ENs K Hs xs kvs → ENs K Hs ys lvs → ENs K Hs (xs ++ ys) (kvs ++ lvs)
  | _, _, _, _, .nil, h => h
  | _, _, _, _, .cons h1 h2 h3 h4 h5 t, h => .cons h1 h2 h3 h4 h5 (t.app h)
theorem ENs.put {u : Value} {v : V} {kd d : D} {b : Addr} {xs : NEs} {kvs : List (D × D)} (h : ENs K Hs xs kvs) (hk : nkOf kd = some k) (h8 : k.depth ≤ 8) (hb : Dp K Hs (.ref b) kd) (r : RelV v u) (q : Dp K Hs v d) : ENs K Hs (storedH xs k b u) (putN kvs kd k d) := by
  unfold storedH putN
  rw [h.isSome]
  split
  · exact h.map r q
  · exact h.app (.cons hk h8 hb r q .nil)
end
def apN (P : Program) (w : World) (p : Addr) (kvs : List (D × D)) : AP := ⟨fun K Hs o => ∃ xs, (∃ ep, o = DNo P w p xs ep) ∧ ENs K Hs xs kvs, fun ⟨xs, ⟨ep, e⟩, _⟩ ys z => (by rw [e] at z; cases z), fun ⟨xs, e, h⟩ x => ⟨xs, e, h.mono x⟩⟩
abbrev OD.dn (P : Program) (w : World) (p : Addr) (kvs : List (D × D)) : OD := OD.one (apN P w p kvs)
section
variable {X : Cy} {e j x0 : Expr} {es : List Expr} {pos pos' : Pos} {t tj : TDE} {ue uj : TE} {P : Program} {w : World}
def sDictN (P : Program) (w : World) (i : Nat) : TDS := fun De δ => i < δ.length ∧ ∀ p, De.nx (δ.set i (.ow p (OD.dn P w p [])))
theorem js_dictN {i : Nat} {x : Str} {p' dp : Pos} (hN : X.N.Nodup) (hP : X.prog = P := by rfl) (hw : X.w = w := by rfl) (hi : X.N[i]? = some x := by rfl) (hx : Loc X.env.scope x := by first | exact .inl rfl | exact .inr rfl) (hs : swapsWith (.Dict [] [] dp) (some (.Name x p')) pos.line X.env = pure false := by rfl)
    (hf : X.fn x = true ∨ X.env.scope.names.lookup x = some .local := by first | exact .inl rfl | exact .inr rfl | assumption) : JS X (.Assign [.Name x p'] (.Dict [] [] dp) pos) (tAsg (tDNewN P w) (gName i)) (sDictN P w i) := by
  subst hP hw
  exact ⟨ps_set hN hi hx pe_dnewN hs hf, fun R ⟨hl, q⟩ k p ep hp =>
    k.nx _ _ _ _ ((R.hide hp).ownA (a := apN X.prog X.w p []) (R.base.none hp) (R.frz.none (R.ex.none hp)) ⟨[], ⟨ep, rfl⟩, .nil⟩ hl) (Ex.refl _) (q p)⟩
theorem own_n {K : PySem.W.Frag} {B H0 H Hs : Hp} {σ : L2.St} {δ : Dl} {i : Nat} {p : Addr} {kvs : List (D × D)} (R : Rep K B H0 σ δ H Hs) (h : δ[i]? = some (.ow p (OD.dn P w p kvs))) : ∃ xs, σ[i]? = some (some (.ref p)) ∧ RdN K P w H p xs ∧ ENs K Hs xs kvs := by
  obtain ⟨o, e1, hp, xs, ⟨ep, eo⟩, hk⟩ := own_atA R h
  subst eo
  exact ⟨xs, e1, ⟨⟨ep, hp⟩, hk.keys R.ex⟩, hk⟩
def KeyD (d : D) (k : NestedKey) : Prop := nkOf d = some k ∧ k.depth ≤ 8 ∧ ∃ ds, d = .tuple ds
theorem keyD_a {K : PySem.W.Frag} {H : Hp} {v : V} {d : D} {k : NestedKey} (r : Dp K H v d) (h : KeyD d k) : ∃ b, v = .ref b ∧ KeyA K H k b := by
  obtain ⟨h1, h2, ds, e⟩ := h
  subst e
  cases r with
  | tup hs ha => exact ⟨_, rfl, _, .tup hs ha, h1, h2⟩
def dIxN (P : Program) (w : World) (i : Nat) (tj : TDE) : TDE := fun δ Q => (∃ p o, δ[i]? = some (.ow p o)) ∧ tj δ fun d δ' => ∃ p kvs k z, δ'[i]? = some (.ow p (OD.dn P w p kvs)) ∧ KeyD d k ∧ getN kvs k = some z ∧ Q z δ'
def tIxN (K : PySem.W.Frag) (P : Program) (w : World) (td ty : TE) : TE := fun σ H Q => td σ H fun x H1 => ty σ H1 fun y H2 => rIxN K P w x y H2 Q
theorem pe_ixN {o i : Expr} {td ty : TE} (hu : X.A.units + 200 < cLine) (ho : PE X o td) (hi : PE X i ty) (hs : NoSl i) : PE X (.Subscript o i pos) (tIxN X.K X.prog X.w td ty) := by
  refine ⟨fun pins s σ H Q I h => ?_⟩
  refine subD_of PySem.F.slot_dict_getitem.lookup hs (thn (ho.run pins s σ H _ I h) fun u s1 ⟨x, H1, I1, rx, q1⟩ => thn (hi.run pins s1 σ H1 _ I1 q1) fun iv s2 ⟨y, H2, I2, ry, b, d, xs, k, c, u0, v0, ex, ey, hr, hk, ha, ru, q⟩ => ?_)
  subst ex ey
  obtain rfl : u = Value.ref d := rx
  obtain rfl : iv = Value.ref b := ry
  obtain ⟨h1, h2, h3⟩ := dn_of I2 hr.1 hr.2
  refine ⟨(dn_ty I2 hr.1).1, wpAny_getItem_heap (knd := nestedKind X.prog X.w) (room_n hu) (keyA_is I2 hk) h1 ha ?_⟩
  exact ⟨v0, H2, I2.tok _, ru, q⟩
theorem je_ixN {x : Str} {p1 : Pos} (hu : X.A.units + 200 < cLine) (i : Nat) (hj : JE X j uj tj) (hP : X.prog = P := by rfl) (hw : X.w = w := by rfl) (hN : X.N[i]? = some x := by rfl) (hv : Vis X.env.scope x := by first | exact Or.inl rfl | exact Or.inr (Or.inl rfl) | exact Or.inr (Or.inr rfl)) (hd : (x == ("__debug__" : Str)) = false := by decide)
    (hcd : (x == ("__classdict__" : Str)) = false := by decide) (hs : NoSl j := by first | exact nosl _ | exact fun _ _ => rfl) : JE X (.Subscript (.Name x p1) j pos) (tIxN X.K P w (tVar i) uj) (dIxN P w i tj) := by
  subst hP hw
  refine ⟨pe_ixN hu (pe_var hN hv hd hcd) hj.p hs, fun R ⟨⟨p, o, ex⟩, q⟩ k => ⟨_, R.ref ex, hj.s R q fun v d δ' H' Hs' R1 x1 r ⟨p', kvs, key, z, ey, hk, hz, q1⟩ => ?_⟩⟩
  obtain ⟨xs, e2, hr, he⟩ := own_n R1 ey
  have e1 := R.ref ex
  rw [e1] at e2
  cases e2
  obtain ⟨b, rfl, ka⟩ := keyD_a (dp_mono R1.ex r) hk
  obtain ⟨c, u, v', h1, h2, h3⟩ := he.get.1 z hz
  exact ⟨b, p, xs, key, c, u, v', rfl, rfl, hr, ka, h1, h2, k _ _ _ _ _ R1 x1 h3 q1⟩
def dGetN (P : Program) (w : World) (i : Nat) (tj t : TDE) : TDE := fun δ Q => (∃ p kvs, δ[i]? = some (.ow p (OD.dn P w p kvs))) ∧ tj δ fun d δ1 => t δ1 fun z δ2 => ∃ p kvs k, δ2[i]? = some (.ow p (OD.dn P w p kvs)) ∧ KeyD d k ∧ Q ((getN kvs k).getD z) δ2
theorem je_getN {x : Str} {p1 p2 p3 : Pos} (hu : X.A.units + 200 < cLine) (i : Nat) (hj : JE X j uj tj) (he : JE X e ue t) (hP : X.prog = P := by rfl) (hw : X.w = w := by rfl) (hN : X.N[i]? = some x := by rfl) (hv : Vis X.env.scope x := by first | exact Or.inl rfl | exact Or.inr (Or.inl rfl) | exact Or.inr (Or.inr rfl)) (hd : (x == ("__debug__" : Str)) = false := by decide)
    (hcd : (x == ("__classdict__" : Str)) = false := by decide) (hs : starEach [j, e] X.env = (false, eval j X.env) :: starEach [e] X.env := by rfl) (hs2 : starEach [e] X.env = (false, eval e X.env) :: starEach [] X.env := by rfl)
    (h2 : PE X (.Name x p1) (tVar i) → PA X [j, e] (tCons uj (tCons ue tNil)) → MtR X.toCx "dict.get" (rGetN X.K X.prog X.w) → PE X (.Call (.Attribute (.Name x p1) "get" p2) [j, e] [] p3) (tBMN X.prog X.w (rGetN X.K X.prog X.w) (tVar i) (tCons uj (tCons ue tNil))) := by exact fun z y m => pe_bmN PySem.F.plainAttrs_dict PySem.F.slot_dict_get PySem.F.type_dict_get m z y) :
    JE X (.Call (.Attribute (.Name x p1) "get" p2) [j, e] [] p3) (tBMN P w (rGetN X.K P w) (tVar i) (tCons uj (tCons ue tNil))) (dGetN P w i tj t) := by
  subst hP hw
  refine ⟨h2 (pe_var hN hv hd hcd) (pa_cons hj.p (pa_cons he.p pa_nil hs2) hs) (mt_getN hu), fun R ⟨⟨p, kvs0, ex⟩, q⟩ k => ?_⟩
  obtain ⟨xs0, e1, hr0, _⟩ := own_n R ex
  refine ⟨_, e1, ⟨p, xs0, rfl, hr0.1⟩, hj.s R q fun v d δ1 H1 Hs1 R1 x1 r1 q1 => he.s R1 q1 fun y z δ2 H2 Hs2 R2 x2 r2 ⟨p', kvs, key, ey, hk, q2⟩ => ?_⟩
  obtain ⟨xs, e2, hr, hes⟩ := own_n R2 ey
  rw [e1] at e2
  cases e2
  obtain ⟨b, rfl, ka⟩ := keyD_a (dp_mono R2.ex (dp_mono x2 r1)) hk
  refine ⟨b, p, y, xs, key, rfl, rfl, hr, ka, ?_⟩
  cases g : getN kvs key with
  | some z' =>
    obtain ⟨c, u, v', h1, h2, h3⟩ := hes.get.1 z' g
    rw [g] at q2
    exact .inl ⟨c, u, v', h1, h2, k _ _ _ _ _ R2 (x1.trans x2) h3 q2⟩
  | none =>
    rw [g] at q2
    exact .inr ⟨hes.get.2 g, k _ _ _ _ _ R2 (x1.trans x2) r2 q2⟩
def sSetN (P : Program) (w : World) (i : Nat) (tj t : TDE) : TDS := fun De δ => t δ fun d δ1 => (∃ p o, δ1[i]? = some (.ow p o)) ∧ tj δ1 fun dj δ2 => ∃ p kvs k, δ2[i]? = some (.ow p (OD.dn P w p kvs)) ∧ KeyD dj k ∧ kvs.length ≤ 100000 ∧ De.nx (δ2.set i (.ow p (OD.dn P w p (putN kvs dj k d))))
theorem js_setN {x : Str} {p1 p2 : Pos} (hu : X.A.units + 200 < cLine) (i : Nat) (hj : JE X j uj tj) (he : JE X e ue t) (hP : X.prog = P := by rfl) (hw : X.w = w := by rfl) (hN : X.N[i]? = some x := by rfl) (hv : Vis X.env.scope x := by first | exact Or.inl rfl | exact Or.inr (Or.inl rfl) | exact Or.inr (Or.inr rfl)) (hd : (x == ("__debug__" : Str)) = false := by decide)
    (hcd : (x == ("__classdict__" : Str)) = false := by decide)
    (h1 : PE X (.Name x p1) (tVar i) → PE X j uj → PE X e ue → PSet X.toCx (rSetN X.K X.prog X.w) → PS X (.Assign [.Subscript (.Name x p1) j p2] e pos) (tAsg ue (gSub (tVar i) uj (rSetN X.K X.prog X.w))) := by exact fun z y v m => ps_asg v (pg_sub z y m)) :
    JS X (.Assign [.Subscript (.Name x p1) j p2] e pos) (tAsg ue (gSub (tVar i) uj (rSetN X.K P w))) (sSetN P w i tj t) := by
  subst hP hw
  refine ⟨h1 (pe_var hN hv hd hcd) hj.p he.p (set_N hu), fun R q k => he.s R q fun v d δ1 H1 Hs1 R1 x1 r ⟨⟨p, o, ex⟩, q1⟩ => ?_⟩
  have e1 := R1.ref ex
  refine ⟨_, e1, hj.s R1 q1 fun y dj δ2 H2 Hs2 R2 x2 r2 ⟨p', kvs, key, ey, hk, hl, q2⟩ => ?_⟩
  obtain ⟨xs, e2, hr, hes⟩ := own_n R2 ey
  rw [e1] at e2
  cases e2
  obtain ⟨b, rfl, ka⟩ := keyD_a (dp_mono R2.ex r2) hk
  refine ⟨b, p, xs, key, rfl, rfl, hr, ka, by rw [hes.len]; exact lt_line hl, fun u ep ru => ?_⟩
  exact k.nx _ _ _ _ (R2.changeA (a' := apN X.prog X.w p (putN kvs dj key d)) ey ⟨_, ⟨ep, rfl⟩, hes.put hk.1 hk.2.1 r2 ru (dp_mono x2 r)⟩) (x1.trans x2) q2
def dInN (P : Program) (w : World) (neg : Bool) (i : Nat) (tj : TDE) : TDE := fun δ Q => tj δ fun d δ' => ∃ p kvs k, δ'[i]? = some (.ow p (OD.dn P w p kvs)) ∧ KeyD d k ∧ Q (.bool (neg ^^ (getN kvs k).isSome)) δ'
theorem sim_inN {neg : Bool} {i : Nat} (hj : SimE X.z uj tj) : SimE X.z (tOp (rInN X.K P w neg) uj (tVar i)) (dInN P w neg i tj) := fun R q k => hj R q fun v d δ' H' Hs' R1 x1 r ⟨p, kvs, key, ey, hk, q1⟩ => by
  obtain ⟨xs, e2, hr, hes⟩ := own_n R1 ey
  obtain ⟨b, rfl, ka⟩ := keyD_a (dp_mono R1.ex r) hk
  refine ⟨_, e2, b, p, xs, key, rfl, rfl, hr, ka, ?_⟩
  rw [hes.isSome]
  exact k _ _ _ _ _ R1 x1 (.bl _) q1
theorem jt_inN {x : Str} {p1 : Pos} (hu : X.A.units + 200 < cLine) (i : Nat) (hj : JE X j uj tj) (hP : X.prog = P := by rfl) (hw : X.w = w := by rfl) (hN : X.N[i]? = some x := by rfl) (hv : Vis X.env.scope x := by first | exact Or.inl rfl | exact Or.inr (Or.inl rfl) | exact Or.inr (Or.inr rfl)) (hd : (x == ("__debug__" : Str)) = false := by decide)
    (hcd : (x == ("__classdict__" : Str)) = false := by decide) (hm : behindInMarks .In (.Name x p1) = false := by with_unfolding_all rfl) : JT X (.Compare j [.In] [.Name x p1] pos) (tTest (tOp (rInN X.K P w false) uj (tVar i))) (dTest (dInN P w false i tj)) := by
  subst hP hw
  exact ⟨pt_cmpR (op_inN hu) hj.p (pe_var hN hv hd hcd) hm, sim_test (sim_inN hj.s)⟩
theorem jt_notInN {x : Str} {p1 : Pos} (hu : X.A.units + 200 < cLine) (i : Nat) (hj : JE X j uj tj) (hP : X.prog = P := by rfl) (hw : X.w = w := by rfl) (hN : X.N[i]? = some x := by rfl) (hv : Vis X.env.scope x := by first | exact Or.inl rfl | exact Or.inr (Or.inl rfl) | exact Or.inr (Or.inr rfl)) (hd : (x == ("__debug__" : Str)) = false := by decide)
    (hcd : (x == ("__classdict__" : Str)) = false := by decide) (hm : behindInMarks .NotIn (.Name x p1) = false := by with_unfolding_all rfl) : JT X (.Compare j [.NotIn] [.Name x p1] pos) (tTest (tOp (rInN X.K P w true) uj (tVar i))) (dTest (dInN P w true i tj)) := by
  subst hP hw
  exact ⟨pt_cmpR (op_notInN hu) hj.p (pe_var hN hv hd hcd) hm, sim_test (sim_inN hj.s)⟩
end
end EL
namespace EL
open PySem PySem.Spec PyProof.Rows L2
abbrev Cy.no (X : Cy) : Cy := { toCx := X.toCx.nox, W := X.W, xk := xNo }
section
variable {X : Cy} {body : List Stmt} {h₀ : ExceptHandler} {hs : List ExceptHandler} {w : TS} {s : TDS} {pos : Pos}
theorem js_tryNo (hb : JSs X.no body w s) : JS X (.Try body (h₀ :: hs) [] [] pos) w s := ⟨ps_try_thru0 hb.p, fun {B H0} [hX : XOk _ _ _] {σ δ H Hs De De'} R q k => by
  haveI : XOk X.no.z B H0 := ⟨fun _ _ z => z.elim⟩
  exact hb.s R q k⟩
end
section
variable {X : Cy} {e a b : Expr} {pos p1 : Pos} {tb : TDV} {ub : TE}
def keyD2 : Key → D
  | .inl i => .int i
  | .inr x => .str x
theorem kall_keys {K : PySem.W.Frag} {Hs : Hp} : ∀ {vs : List (Key × V)} {kvs : List (Key × RV)}, KAll K Hs vs kvs → DpAll K Hs (vs.map fun kv => kV kv.1) (kvs.map fun kv => keyD2 kv.1)
  | _, _, .nil => .nil
  | _, _, .cons (k := k) _ t => by
    refine .cons ?_ (kall_keys t)
    cases k with
    | inl i => exact .int i
    | inr x => exact .str x
def nListD (tb : TDV) : TDL := fun δ Q => tb δ fun rb _ δ1 => ∃ (a : Addr) (kvs : List (Key × RV)), rb = .rf a ∧ Has δ1 a (.dk kvs) ∧ Q (kvs.map fun kv => keyD2 kv.1) δ1
theorem jn_listD (hc : X.calm = true) (hg : Gl X "list") (hm : X.mg "list" = none) (hb : JV X b ub tb) (hs : starEach [b] X.env = (false, eval b X.env) :: starEach [] X.env := by rfl) (hpl : (backTo pos (starEach [] X.env)).any (·.1) = false := by rfl) :
    JN X (.Call (.Name "list" p1) [b] [] pos) (tCB rListD (tCons ub tNil)) (nListD tb) :=
  ⟨pe_callTy (call_list_dK hc) hg hm (by decide +kernel) (pa_cons hb.p pa_nil hs) (by decide) (by decide) hs hpl, fun R q k => hb.s R q fun vb rb Lb δ1 H1 Hs1 B1 R1 hh x1 rvb ⟨a, kvs, eb, hh1, q1⟩ => by
    subst eb
    obtain rfl : vb = .ref a := rvb
    obtain ⟨vs, hH, hr⟩ := R1.has hh1
    refine ⟨a, vs, rfl, hH, fun p hp => ?_⟩
    have R2 := R1.weaken hh.ex
    exact k p _ _ _ _ _ (R2.hide hp) (R2.base.none hp) (R2.frz.none (R2.ex.none hp)) x1 (kall_keys hr) q1⟩
end
end EL
namespace EL
open PySem PySem.Spec PyProof.Rows L2
def VwO (v d : Addr) : HO := .ext fun h => h.IsValuesView v d
def tValN (P : Program) (w : World) (to : TE) : TE := fun σ H Q => to σ H fun x H1 => ∃ d xs, x = .ref d ∧ (∃ ep, H1 d = some (DNo P w d xs ep)) ∧ ∀ v, H1 v = none → Q (.ref v) (upd H1 v (VwO v d))
def maxI : List Int → Int → Int
  | [], z => z
  | x :: xs, _ => xs.foldl max x
def rMaxV (P : Program) (w : World) : List V → List V → Hp → VK → Prop := fun vs zs H Q => ∃ v d xs z ns, vs = [.ref v] ∧ zs = [.int z] ∧ H v = some (VwO v d) ∧ (∃ ep, H d = some (DNo P w d xs ep)) ∧ Vals (ns.map V.int) (xs.map fun x => x.2.2) ∧ Q (.int (maxI ns z)) H
section
variable {X : Cx} {pos apos cpos : Pos} {o e : Expr} {es : List Expr} {to : TE} {t : TA}
theorem pe_valuesN (ho : PE X o to) (hbase : attributeBase o "values" X.env (eval o X.env) = eval o X.env := by rfl) (hline : (apos.endLine == cpos.line) = true := by rfl) : PE X (.Call (.Attribute o "values" apos) [] [] cpos) (tValN X.prog X.w to) := by
  refine ⟨fun pins s σ H Q I h => ?_⟩
  refine wpAny_Call_method0_late hbase hline (thn (ho.run pins s σ H _ I h) fun v s1 ⟨x, H1, I1, r1, d, xs, ex, hd, q1⟩ => ?_)
  subst ex
  obtain rfl : v = Value.ref d := r1
  obtain ⟨h1, h2⟩ := dn_ty I1 hd
  obtain ⟨ep, hd⟩ := hd
  have z : ObjOk X.prog X.w H1 s1.heap d (DNo X.prog X.w d xs ep) := I1.hok d _ hd
  obtain ⟨⟨o1, es, g1, g2, g3, g4, g5, g6, g7⟩, _, _⟩ := z
  refine ⟨"dict", "dict.values", PySem.F.plainAttrs_dict, PySem.F.slot_dict_values, PySem.F.type_dict_values, h1, h2, ?_⟩
  refine Calls.callWith_builtin rfl (PySem.evalArgs_none (call_meetsIn PySem.F.slot_dict_values h1 PySem.F.entry_dict_values (PySem.F.args_dict_values_1 _) (meets_dict_values_raw d g6) ⟨⟨es, ep, o1, g1, g2, g3⟩, ?_⟩))
  refine ⟨.ref s1.heap.objs.size, _, I1.laid (a := s1.heap.objs.size) (o := VwO s1.heap.objs.size d) (t' := s1.toks) (fun _ _ q => Heap.get?_push_of_some _ q) (Nat.le_refl _) ?_, rfl, q1 _ (I1.hok.fresh (Nat.le_refl _))⟩
  exact ⟨⟨_, Heap.get?_push_size _ rfl, rfl, rfl⟩, ⟨_, Heap.get?_push_size _ rfl⟩, fun h1 h2 ⟨o, e, r⟩ k => ⟨o, k o e, r⟩⟩
theorem ints_reads {h : Heap} : ∀ {ns : List Int} {us : List Value}, Vals (ns.map V.int) us → ReadsAll h us (ns.map .int) []
  | [], _, r => by
    cases r
    exact .nil
  | n :: ns, _, r => by
    cases r with
    | cons r1 r2 =>
      obtain ⟨t, rfl⟩ := r1
      exact ReadsAll.cons (as := []) (bs := []) (.int n t) (ints_reads r2)
theorem cr_maxV (hc : X.calm = true) (hu : X.A.units + 200 < cLine) : CallRK X (.builtin "max") [Str.ofString "default"] (rMaxV X.prog X.w) := by
  intro pins s σ H vs zs us ws Q I r rz ⟨v, d, xs, z, ns, ev, ez, hv, hd, hvals, q⟩
  subst ev ez
  obtain rfl := Vals.ref1 r
  obtain ⟨w1, rfl, e1⟩ := vals1 rz
  obtain ⟨tz, rfl⟩ := e1
  have zv : ObjOk X.prog X.w H s.heap v (VwO v d) := I.hok v _ hv
  obtain ⟨ep, hd⟩ := hd
  have zd : ObjOk X.prog X.w H s.heap d (DNo X.prog X.w d xs ep) := I.hok d _ hd
  obtain ⟨o1, es, g1, g2, g3, g4, g5, g6, g7⟩ := zd.1
  have hraw : s.heap.DictRaw d es ep := ⟨o1, g1, g2, g3⟩
  have hne : d ≠ s.heap.objs.size := Nat.ne_of_lt (Heap.lt_size g1)
  have hvs : (es.map (·.val)).toList = xs.map fun x => x.2.2 := by
    rw [Array.toList_map, g4, List.map_map]
    rfl
  have hr : ReadsAll s.heap (es.map (·.val)).toList (ns.map .int) [] := by
    rw [hvs]
    exact ints_reads hvals
  have ha : PySem.W.AlikeAll (ns.map .int) := ⟨fun x hx y hy => by
    obtain ⟨a, _, rfl⟩ := List.mem_map.mp hx
    obtain ⟨b, _, rfl⟩ := List.mem_map.mp hy
    rfl, fun x hx => by
    obtain ⟨a, _, rfl⟩ := List.mem_map.mp hx
    exact fun z => nomatch z⟩
  have hd0 : PyData.depthAll (ns.map .int) ≤ 1 := by
    clear q hvals hr ha
    induction ns with
    | nil => simp [PyData.depthAll]
    | cons n ns ih =>
      simp only [List.map_cons, PyData.depthAll, PyData.depth]
      omega
  refine call_max_walkD (wpAny_pyIter_values_raw zv.1 hraw ?_)
  have W := ((Walks.rawValues (prog := X.prog) (w := X.w) (A := X.A.in1) (I.ok.hd hc) s.heap.objs.size d hne es ep).mono_item (P' := fun i v => (es.map (·.val))[i]? = some v) fun i v hi ⟨hi2, e⟩ => by
    rw [e]
    simp [hi2]).toS
  have e0 := rfl (a := ({ s with heap := s.heap.push { cls := .type "dict_valueiterator", data := .fields #[.ref d, .int 0 0, .int es.size 0, .int ep 0] } } : Shared))
  refine ⟨_, _, _, _, _, _, _, s.heap, (fun i j => PySem.W.dataLt ((ns.map PyData.int).getD j .none) ((ns.map PyData.int).getD i .none)), rfl, W, ⟨⟨_, Heap.get?_push_size _ rfl, rfl, rfl⟩, hraw.push _⟩, ?_, ?_, ?_, ?_, ?_⟩
  · intro b hb
    simp at hb
    show b < (s.heap.push _).objs.size
    rw [Heap.size_push]
    rcases hb with rfl | rfl
    · exact Nat.lt_succ_self _
    · exact Nat.lt_succ_of_lt (Heap.lt_size g1)
  · intro b o e hb
    rw [List.mem_singleton.mp hb] at e
    exact Nat.lt_irrefl _ (Heap.lt_size e)
  · exact fun b o e => Heap.get?_push_of_some _ e
  · intro hz s' m
    obtain ⟨h', tk, rfl, hk'⟩ := PySem.W.moved_old rfl rfl m
    have hl : ns = [] := by
      have h1 := PySem.W.readsAll_len hr
      simp at h1
      exact List.length_eq_zero_iff.mp (by omega)
    subst hl
    exact ⟨.int z, H, I.kept (t' := tk) hk', ⟨tz, rfl⟩, q⟩
  · intro hp
    refine ⟨PySem.W.cmpIn_gt (A := X.A.in1) hr ha (by simp only [Around.in1_units]; omega), fun v' s' hP m => ?_⟩
    obtain ⟨h', tk, rfl, hk'⟩ := PySem.W.moved_old rfl rfl m
    obtain ⟨bs, r2, _, _, _⟩ := PySem.W.readsAll_atA hr _ v' hP
    cases ns with
    | nil =>
      have h1 := PySem.W.readsAll_len hr
      rw [Array.size_map] at h1
      rw [h1] at hp
      exact absurd hp (Nat.lt_irrefl _)
    | cons y ys =>
      have h1 := PySem.W.readsAll_len hr
      simp at h1
      have e1 : es.size - 1 = ys.length := by omega
      have e2 := (PySem.W.argBest_fold (fun a b => PySem.W.dataLt b a) PyData.none (.int y) (ys.map .int) (ys.map PyData.int).length (Nat.le_refl _)).2
      rw [List.take_length, List.length_map] at e2
      rw [e1] at r2
      have e3 := PySem.W.maxD_ints y ys
      unfold PySem.W.maxD at e3
      have r3 : Reads s.heap v' (.int (ys.foldl max y)) bs := by
        rw [← e3, ← e2]
        exact r2
      cases r3
      exact ⟨.int _, H, I.kept (t' := tk) hk', ⟨_, rfl⟩, q⟩
end
theorem ens_ints {K : PySem.W.Frag} {Hs : Hp} : ∀ {xs : NEs} {kvs : List (D × D)} {ns : List Int}, ENs K Hs xs kvs → kvs.map (·.2) = ns.map PyData.int → Vals (ns.map V.int) (xs.map fun x => x.2.2)
  | _, _, [], .nil, _ => .nil
  | _, _, _ :: _, .nil, h => by simp at h
  | _, _, [], .cons _ _ _ _ _ _, h => by simp at h
  | _, _, n :: ns, .cons (u := u) (v := v) h1 h2 h3 h4 h5 t, h => by
    simp only [List.map_cons, List.cons.injEq] at h
    obtain ⟨e1, e2⟩ := h
    have h5 : Dp K Hs v (.int n) := e1 ▸ h5
    cases h5
    exact .cons h4 (ens_ints t e2)
def dMaxV (P : Program) (w : World) (i : Nat) (z : Int) : TDE := fun δ Q => ∃ p kvs ns, δ[i]? = some (.ow p (OD.dn P w p kvs)) ∧ kvs.map (·.2) = ns.map PyData.int ∧ Q (.int (maxI ns z)) δ
theorem je_maxV {X : Cy} {P : Program} {w : World} {x : Str} {p1 p2 p3 p4 p5 p6 pos : Pos} {z : Int} {j} (hc : X.calm = true) (hu : X.A.units + 200 < cLine) (i : Nat) (hg : Gl X "max") (hm : X.mg "max" = none) (hP : X.prog = P := by rfl) (hw : X.w = w := by rfl) (hN : X.N[i]? = some x := by rfl) (hv : Vis X.env.scope x := by first | exact Or.inl rfl | exact Or.inr (Or.inl rfl) | exact Or.inr (Or.inr rfl)) (hd : (x == ("__debug__" : Str)) = false := by decide)
    (hcd : (x == ("__classdict__" : Str)) = false := by decide) (hb : bootBuiltins "max" = some (.builtin "max"))
    (h : PE X (.Name x p2) (tVar i) → CallRK X.toCx (.builtin "max") [Str.ofString "default"] (rMaxV X.prog X.w) → PE X (.Call (.Name "max" p1) [.Call (.Attribute (.Name x p2) "values" p3) [] [] p4] [⟨some "default", .Constant (.int z) j p5, p6⟩] pos) (tCKw (rMaxV X.prog X.w) (tCons (tValN X.prog X.w (tVar i)) tNil) (tCons (tC (.int z)) tNil))) :
    JE X (.Call (.Name "max" p1) [.Call (.Attribute (.Name x p2) "values" p3) [] [] p4] [⟨some "default", .Constant (.int z) j p5, p6⟩] pos) (tCKw (rMaxV P w) (tCons (tValN P w (tVar i)) tNil) (tCons (tC (.int z)) tNil)) (dMaxV P w i z) := by
  subst hP hw
  refine ⟨h (pe_var hN hv hd hcd) (cr_maxV hc hu), fun R ⟨p, kvs, ns, ex, ek, q⟩ k => ?_⟩
  obtain ⟨xs, e1, hr, hes⟩ := own_n R ex
  refine ⟨_, e1, p, xs, rfl, hr.1, fun v hv0 => ?_⟩
  have X1 := PExt.raw R.ex (VwO v p) hv0
  have ne : p ≠ v := fun z => by
    subst z
    obtain ⟨ep, this⟩ := hr.1
    rw [hv0] at this
    cases this
  exact ⟨v, p, xs, z, ns, rfl, rfl, upd_same, by rw [upd_ne ne]; exact hr.1, ens_ints hes ek, k _ _ _ _ _ (R.ext X1) X1.s (.int _) q⟩
end EL
namespace EL
open PySem PySem.Spec PyProof.Rows L2
theorem walk_ofE {l : PySem.W.OpenLaw} {n k : Nat} {q : Program} {loose : List Str} {XP : (Str → Option Value) → Heap → Prop} {YP : World → Heap → Prop} {d : DefRec} {K : Params → PySem.W.Frag} {sp : PySem.W.Frag → Sp} {x : Str}
    (hn : l.most = some n) (hn2 : n ≤ sizeLine) (hdf : d.params.defaults = []) (hr : Room k callerA)
    (hY : ∀ (w : World) (h : Heap), YP w h → (K w.params).In h)
    (F : ∀ (w : World) (mg : Str → Option Value) (fa : Addr) (h : Heap), (K w.params).In h → h.Ns mainGlobals mg → mg d.name = some (.ref fa) →
      ∃ fd : FuncData, (∀ (s : Shared) (u : Value), BindsTo s fd ⟨[u], []⟩ [(x, u)]) ∧
        ∀ base : Heap, (K w.params).In base → base.Ns mainGlobals mg → FnOk l.prog w (K w.params) mg base (L2.CX l.prog w) k fa fd [x] (sp (K w.params)))
    (hsp : ∀ (K : PySem.W.Frag) (H : Hp) (a : Addr) (ns : List Int), ns.length ≤ n → Only H → SqL K H a (ns.map V.int) → sp K [.ref a] H (fun v _ => v = .bl true) fun _ _ _ => False) :
    PySem.W.WalkO q loose XP YP l.row.toRowW d [] (fun f vs => PySem.call f vs) :=
  walk_of (K := K) (CX := fun w => L2.CX l.prog w) (sp := fun w => sp (K w.params)) hn hn2 hdf hr hY F (fun w H a ns h1 h2 h3 => hsp (K w.params) H a ns h1 h2 h3) fun _ _ _ _ _ ⟨_, _, _, _, _, _, _, _, _, _, _, _, h⟩ => h.elim
theorem fldOk {K : PySem.W.Frag} {cn f : Str} {C : Addr} (k : ClsAt K cn C) (c : L2.Cls K C) (n : NoAttr K C f) : FldOk K cn f := fun C' h => by
  obtain rfl := clsAt_inj k h
  exact ⟨c, n⟩
end EL
namespace PySem
open Sem (wp)
open AutoSeq1 (wpAny_loadPart')
theorem meets_enumerate_newB1 {v : Value} {o : Obj} {H : Heap → Prop} (B : Begins v o H) :
    Meets (Builtin.«enumerate.__new__» ⟨[.type "enumerate", v], []⟩) (fun _ R s => H s.heap ∧
      R (.ok (.ret (.ref (s.heap.push o).objs.size))) { s with heap := (s.heap.push o).push { cls := .type "enumerate", data := .fields #[.none, .bool false, .ref s.heap.objs.size, rawInt 0, .none, .none] } }) :=
  .of_wp fun prog w A R s h => by
    obtain ⟨hp, g, d, tk, os⟩ := s; obtain ⟨h1, h⟩ := h
    have hsub := sub_enumerate
    have q1 : ∀ {A' : Around} {E : Value → Shared → Prop} {Q : Value → Shared → Prop}, Q (.ref hp.objs.size) ⟨hp.push o, g, d, tk, os⟩ → wpAny (model prog w) A' (pyIter v) Q E ⟨hp, g, d, tk, os⟩ :=
      fun q => B.iter prog w _ _ ⟨hp, g, d, tk, os⟩ _ h1 q
    wp_walk using q1
    refine wpAny_stack_any fun st => wpAny_pure ?_
    split
    · rename_i c _ _ _ _ _
      cases (c == Value.type "enumerate")
      · wp_walk using q1
        exact ⟨_, rfl, h⟩
      · wp_walk using q1
        exact ⟨_, rfl, h⟩
    · wp_walk using q1
      exact ⟨_, rfl, h⟩
section
variable {prog : Program} {w : World} {A : Around} {E : Value → Shared → Prop} {s : Shared}
theorem enum_begins1 {v : Value} {o : Obj} {H : Heap → Prop} {Q : Value → Shared → Prop} (B : Begins v o H) (h1 : H s.heap)
    (h : ∀ h', IsEnum h' (s.heap.objs.size + 1) s.heap.objs.size 0 .none → h'.get? s.heap.objs.size = some o → h'.objs.size = s.heap.objs.size + 2 →
      (∀ b o, s.heap.get? b = some o → h'.get? b = some o) → Q (.ref (s.heap.objs.size + 1)) { s with heap := h' }) :
    wpAny (model prog w) A (call (.type "enumerate") [v]) Q E s := by
  refine callType_new F.called_enumerate (by decide) (F.typeCall_enumerate_1 _) (F.newCall_enumerate_1 _) (fun obj => F.args_object_init_2 obj _) F.entry_enumerate_new
    (meets_enumerate_newB1 B) ⟨h1, ?_⟩
  have hz : (s.heap.push o).objs.size = s.heap.objs.size + 1 := Heap.size_push ..
  show _ ∧ _
  rw [hz]
  have he : IsEnum ((s.heap.push o).push { cls := .type "enumerate", data := .fields #[.none, .bool false, .ref s.heap.objs.size, rawInt 0, .none, .none] }) (s.heap.objs.size + 1) s.heap.objs.size 0 .none := by
    have := Heap.get?_push_size (s.heap.push o) (o := { cls := .type "enumerate", data := .fields #[.none, .bool false, .ref s.heap.objs.size, rawInt 0, .none, .none] }) rfl
    rw [hz] at this; exact this
  refine ⟨⟨_, he, rfl⟩, h _ he (Heap.get?_push_of_some _ (Heap.get?_push_size _ B.free)) (by rw [Heap.size_push, hz]) fun b o x => Heap.get?_push_of_some _ (Heap.get?_push_of_some _ x)⟩
end
end PySem
namespace EL
open PySem PySem.Spec PyProof.Rows L2
def ItT (K : PySem.W.Frag) (a : Addr) : It :=
  ⟨fun i H => ∃ (xs : List V) (x : V), SqT K H a xs ∧ xs[i]? = some x, fun i H v H' => ∃ T x, v = .ref T ∧ H T = none ∧ H' = upd H T (.tup [.int (i : Nat), x]) ∧ ∀ xs, SqT K H a xs → xs[i]? = some x, fun i H => ∃ xs : List V, SqT K H a xs ∧ xs.length ≤ i⟩
theorem turn_enumT {P : Program} {w : World} {K : PySem.W.Frag} {elts : List Expr} {kk : Nat} {tpos : Pos} (a e it : Addr) :
    Turn P w K (.Tuple elts kk tpos) (ItT K a) [e, it] e (fun i h => (∃ old, IsEnum h e it ((i : Nat) : Int) old) ∧ h.IsTupleIter it a i ∧ e ≠ it) where
  mem := by simp
  obj := fun i h st b hb => by
    obtain ⟨⟨old, he⟩, ⟨o, ho, hc, hd⟩, _⟩ := st
    have e' : b = e ∨ b = it := by simpa using hb
    rcases e' with z | z
    · rw [z]; exact ⟨_, he, fun v q => nomatch q⟩
    · rw [z]; exact ⟨o, ho, fun v q => by rw [hd] at q; cases q⟩
  keep := fun i h h' st k => let ⟨⟨old, he⟩, hi, hne⟩ := st; ⟨⟨old, k e (by simp) _ he⟩, hi.at fun o q => k it (by simp) o q, hne⟩
  item := by
    intro X hP hw hK hc i pins s σ H E I hf st hg
    subst hP hw hK
    obtain ⟨⟨old, he⟩, hit, hne⟩ := st
    obtain ⟨xs, x, hq, hx⟩ := hg
    obtain ⟨its, rv, p, hz⟩ := I.tuple hq
    obtain ⟨u, hu, ru⟩ := rv.get hx
    have hel : e < s.heap.objs.size := Heap.lt_size he
    have hil : it < s.heap.objs.size := by obtain ⟨_, q, _⟩ := hit; exact Heap.lt_size q
    have hti : a ≠ it := fun z => by
      obtain ⟨o1, h1, c1, _⟩ := hit
      obtain ⟨o2, h2, c2, _⟩ := p
      rw [z, h1] at h2
      cases h2
      rw [c1] at c2
      exact absurd c2 (by decide)
    have hea : e ≠ a := fun z => by
      obtain ⟨o2, h2, c2, _⟩ := p
      rw [← z, he] at h2
      cases h2
      have c3 : Value.type "enumerate" = Value.type "tuple" := c2
      exact absurd c3 (by decide)
    have hlt : i < its.toArray.size := by
      have := lt_of_get hu
      simpa using this
    refine wpAny_pyNext_enum_itemC (Draws.tuple (A := X.A.in1) (I.ok.hd hc) it a hti its.toArray) he ⟨hit, p⟩ hlt hne (by simp [hne, hea]) fun u' h' tk hu' ho hst' hT hsz hk => ?_
    obtain ⟨hit', p'⟩ := hst'
    have eu : u' = u := by
      have : its.toArray[i]? = some u := by simpa using hu
      rw [this] at hu'
      exact (Option.some.inj hu').symm
    subst eu
    refine ⟨_, rfl, wpAny_letOwnedTupleGo_enum (s := { s with heap := h', toks := tk + 1 }) ho fun h'' he' sb => ?_⟩
    have hT2 : h''.get? s.heap.objs.size = some { cls := .type "tuple", data := .seq #[.int i tk, u'] } := (sb.2 _ (Nat.ne_of_gt hel)).trans hT
    have new : ObjOk X.prog X.w (upd H s.heap.objs.size (.tup [.int (i : Nat), x])) h'' s.heap.objs.size (.tup [.int (i : Nat), x]) :=
      ⟨by show 2 ≤ sizeLine; decide, [.int i tk, u'], .cons ⟨_, rfl⟩ (.cons ru .nil), ⟨_, hT2, rfl, _, rfl⟩⟩
    have I1 : Inv X pins σ (upd H s.heap.objs.size (.tup [.int (i : Nat), x])) { s with heap := h'', toks := tk + 1 } :=
      I.turnedNew (ch := [e, it]) (fun b ob hb q => (sb.2 b (fun z => hb (by simp [z]))).trans (hk b ob (fun z => hb (by simp [z])) (fun z => hb (by simp [z])) q)) hf (Nat.le_refl _) new
    refine ⟨.ref s.heap.objs.size, _, I1, rfl, ⟨_, x, rfl, I.hok.fresh (Nat.le_refl _), rfl, fun ys hy => by rw [I.tuple_inj hy hq]; exact hx⟩, ⟨⟨u', ?_⟩, hit'.at fun o q => (sb.2 it (Ne.symm hne)).trans q, hne⟩, fun b hb => ?_⟩
    · have e1 : ((i + 1 : Nat) : Int) = (i : Int) + 1 := by omega
      rw [e1]; exact he'
    · have hb' : b < s.heap.objs.size := by
        have e' : b = e ∨ b = it := by simpa using hb
        rcases e' with z | z
        · rw [z]; exact hel
        · rw [z]; exact hil
      rw [upd_ne (Nat.ne_of_lt hb')]
      exact (hf b hb).1
  done := by
    intro X hP hw hK hc i pins s σ H E I hf st hg
    subst hP hw hK
    obtain ⟨⟨old, he⟩, hit, hne⟩ := st
    obtain ⟨xs, hq, hx⟩ := hg
    obtain ⟨its, rv, p, hz⟩ := I.tuple hq
    obtain ⟨f0, f1, f2, f3, f4, f5⟩ := hf it (by simp)
    have hl := rv.length
    have hti : a ≠ it := fun z => by
      obtain ⟨o1, h1, c1, _⟩ := hit
      obtain ⟨o2, h2, c2, _⟩ := p
      rw [z, h1] at h2
      cases h2
      rw [c1] at c2
      exact absurd c2 (by decide)
    have D2 : Draws X.prog X.w X.A.in1 it [it, a] i (fun _ _ => True) (fun j h => j = i ∧ h.IsTupleIter it a i ∧ h.IsTuple a its.toArray) :=
      { live := fun _ _ st => let ⟨o, ho, _⟩ := st.2.1; ⟨o, ho⟩
        frame := fun _ _ _ st hk => ⟨st.1, st.2.1.at fun o e => hk it (by simp) o e, st.2.2.at fun o e => hk a (by simp) o e⟩
        item := fun j s Q E hj st hQ => absurd st.1 (by omega)
        done := fun s Q E st hE => wpAny_nextOf_tuple_end (I.ok.hd hc) st.2.1 st.2.2 (by simp; omega) hE }
    exact wpAny_pyNext_enum_endD D2 he ⟨rfl, hit, p⟩ fun h' hx => ⟨rfl, I.turned (t' := s.toks) (fun b o hb q => hx b o hb q) f0 f1 f3 f4 f5⟩
  self := fun A i s Q E st h => let ⟨⟨_, he⟩, _⟩ := st; wpAny_pyIter_enum he h
def iEnumA (K : PySem.W.Frag) (ta : TA) : TI := fun σ H R => ta σ H fun vs H1 => ∃ a xs, vs = [.ref a] ∧ ((SqL K H1 a xs ∧ R (Ite K a) H1) ∨ (SqT K H1 a xs ∧ R (ItT K a) H1))
theorem pi_enumA {X : Cx} {e : Expr} {ta : TA} {p pos tpos : Pos} {elts : List Expr} {kk : Nat} (hg : Gl X "enumerate") (hm : X.mg "enumerate" = none) (ha : PA X [e] ta) (hs : starEach [e] X.env = [(false, eval e X.env)] := by rfl) :
    PI X (.Tuple elts kk tpos) (.Call (.Name "enumerate" p) [e] [] pos) (iEnumA X.K ta) := by
  refine ⟨fun pins s σ H R I h => ?_⟩
  refine Call_ (ld_blt I hg hm boot_enumerate (PyProof.Rows.callWith_type1 (thn (ha.run pos pins s σ H _ I h) fun us s1 ⟨vs, H1, I1, r1, q1⟩ => ?_) hs rfl))
  obtain ⟨a, xs, ex, q1⟩ := q1
  subst ex
  cases r1 with
  | cons r rr =>
    cases rr
    cases r
    have hfresh : ∀ {h' : Heap}, ∀ b ∈ [s1.heap.objs.size + 1, s1.heap.objs.size], s1.heap.objs.size ≤ b := fun b hb => by
      have e' : b = s1.heap.objs.size + 1 ∨ b = s1.heap.objs.size := by simpa using hb
      rcases e' with z | z
      · rw [z]; exact Nat.le_add_right _ _
      · rw [z]; exact Nat.le_refl _
    rcases q1 with ⟨hq, q⟩ | ⟨hq, q⟩
    · obtain ⟨its, rv, p', hz⟩ := I1.list hq
      refine call_enumerate_list p'.isList fun h' he hit hsz hk => wpAny_pyIter_enum he ?_
      have I2 : Inv X pins σ H1 { s1 with heap := h' } := I1.kept (t' := s1.toks) hk
      refine ⟨s1.heap.objs.size + 1, [s1.heap.objs.size + 1, s1.heap.objs.size], _, _, H1, rfl, I2, turn_enum a (s1.heap.objs.size + 1) s1.heap.objs.size, ⟨⟨.none, he⟩, hit, Nat.succ_ne_self _⟩, fun b hb => ?_, q⟩
      have hle := hfresh (h' := h') b hb
      exact I1.fpOk hle (I1.hok.fresh hle)
    · obtain ⟨its, rv, p', hz⟩ := I1.tuple hq
      refine enum_begins1 (begins_tuple a its.toArray) p' fun h' he hit hsz hk => wpAny_pyIter_enum he ?_
      have I2 : Inv X pins σ H1 { s1 with heap := h' } := I1.kept (t' := s1.toks) hk
      refine ⟨s1.heap.objs.size + 1, [s1.heap.objs.size + 1, s1.heap.objs.size], _, _, H1, rfl, I2, turn_enumT a (s1.heap.objs.size + 1) s1.heap.objs.size, ⟨⟨.none, he⟩, ⟨_, hit, rfl, rfl⟩, Nat.succ_ne_self _⟩, fun b hb => ?_, q⟩
      have hle := hfresh (h' := h') b hb
      exact I1.fpOk hle (I1.hok.fresh hle)
def enumD (xs : List D) : List D := (List.range xs.length).zipWith (fun i x => .tuple [.int (i : Nat), x]) xs
theorem enumD_len (xs : List D) : (enumD xs).length = xs.length := by simp [enumD]
theorem enumD_get {xs : List D} {i : Nat} {d : D} (h : (enumD xs)[i]? = some d) : ∃ x, xs[i]? = some x ∧ d = .tuple [.int (i : Nat), x] := by
  have hl := lt_of_get h
  rw [enumD_len] at hl
  refine ⟨xs[i], List.getElem?_eq_getElem hl, ?_⟩
  unfold enumD at h
  rw [List.getElem?_eq_getElem (by simp; exact hl)] at h
  simp at h
  exact h.symm
theorem it_enumL {K : PySem.W.Frag} {Hs : Hp} {a : Addr} {vs : List V} {xs : List D} (h : SqL K Hs a vs) (ha : DpAll K Hs vs xs) : ItOk K (Ite K a) (enumD xs) Hs := fun i H Hs1 e1 e2 =>
  ⟨fun hi => ⟨vs, (e1.trans e2).sl h, by rw [enumD_len] at hi; rw [dpAll_len ha]; omega⟩, fun d hd => by
    obtain ⟨x, hx, rfl⟩ := enumD_get hd
    obtain ⟨v, hv, rv⟩ := dpAll_get ha hx
    refine ⟨⟨vs, v, (e1.trans e2).sl h, hv⟩, fun z H' ⟨T, v', e, hT, eH, q1⟩ => ?_⟩
    subst e eH
    have z1 := q1 vs ((e1.trans e2).sl h)
    rw [hv] at z1
    cases z1
    have x1 := PExt.new e2 (.tup [.int (i : Nat), v]) hT
    exact ⟨_, x1, .tup (.inl (.inl upd_same)) (.cons (.int _) (.cons (dp_mono (e1.trans x1.s) rv) .nil))⟩⟩
theorem it_enumT {K : PySem.W.Frag} {Hs : Hp} {a : Addr} {vs : List V} {xs : List D} (h : SqT K Hs a vs) (ha : DpAll K Hs vs xs) : ItOk K (ItT K a) (enumD xs) Hs := fun i H Hs1 e1 e2 =>
  ⟨fun hi => ⟨vs, (e1.trans e2).st h, by rw [enumD_len] at hi; rw [dpAll_len ha]; omega⟩, fun d hd => by
    obtain ⟨x, hx, rfl⟩ := enumD_get hd
    obtain ⟨v, hv, rv⟩ := dpAll_get ha hx
    refine ⟨⟨vs, v, (e1.trans e2).st h, hv⟩, fun z H' ⟨T, v', e, hT, eH, q1⟩ => ?_⟩
    subst e eH
    have z1 := q1 vs ((e1.trans e2).st h)
    rw [hv] at z1
    cases z1
    have x1 := PExt.new e2 (.tup [.int (i : Nat), v]) hT
    exact ⟨_, x1, .tup (.inl (.inl upd_same)) (.cons (.int _) (.cons (dp_mono (e1.trans x1.s) rv) .nil))⟩⟩
def iEnD (t : TDL) : TDI := fun δ Q => t δ fun ds δ' => ∃ xs, ((ds = [.list xs]) ∨ ds = [.tuple xs]) ∧ Q (enumD xs) δ'
theorem ji_enum {X : Cy} {e : Expr} {us : TA} {u : TDL} {p pos tpos : Pos} {elts : List Expr} {kk : Nat} (hg : Gl X "enumerate") (hm : X.mg "enumerate" = none) (ha : JA X [e] us u) (hs : starEach [e] X.env = [(false, eval e X.env)] := by rfl) :
    JI X (.Tuple elts kk tpos) (.Call (.Name "enumerate" p) [e] [] pos) (iEnumA X.K us) (iEnD u) :=
  ⟨pi_enumA hg hm ha.p hs, fun R q k => ha.s R q fun vs ds δ1 H1 Hs1 R1 e1 r1 ⟨xs, hd, q1⟩ => by
    rcases hd with rfl | rfl
    · cases r1 with
      | cons r1 r2 =>
        cases r2
        cases r1 with
        | @lst a ws _ h1 a1 => exact ⟨a, ws, rfl, .inl ⟨R1.ex.sl h1, k _ _ _ _ _ R1 e1 (it_enumL h1 a1) q1⟩⟩
    · cases r1 with
      | cons r1 r2 =>
        cases r2
        cases r1 with
        | @tup a ws _ h1 a1 => exact ⟨a, ws, rfl, .inr ⟨R1.ex.st h1, k _ _ _ _ _ R1 e1 (it_enumT h1 a1) q1⟩⟩⟩
theorem st_iEn {δ : Dl} {u : TDL} {Q : List D → Dl → Prop} (q : u δ fun ds δ' => ∃ xs, ((ds = [.list xs]) ∨ ds = [.tuple xs]) ∧ Q (enumD xs) δ') : iEnD u δ Q := q
theorem en_L {xs : List D} {Q : List D → Prop} (q : Q xs) : ∃ ys, ((([.list xs] : List D) = [.list ys]) ∨ ([.list xs] : List D) = [.tuple ys]) ∧ Q ys := ⟨xs, .inl rfl, q⟩
theorem en_T {xs : List D} {Q : List D → Prop} (q : Q xs) : ∃ ys, ((([.tuple xs] : List D) = [.list ys]) ∨ ([.tuple xs] : List D) = [.tuple ys]) ∧ Q ys := ⟨xs, .inr rfl, q⟩
end EL
namespace EL
open PySem PySem.Spec PyProof.Rows L2
def inSD (neg : Bool) : D → D → (D → Prop) → Prop
  | .str x, .str z, Q => ∃ c, x = ⟨#[c]⟩ ∧ Q (.bool (neg ^^ decide (c ∈ z.cps.toList)))
  | _, _, _ => False
section
variable {X : Cy} {e a b j o : Expr} {es : List Expr} {pos p1 p apos : Pos} {t : TDE} {tb tv : TDV} {ub ue : TE} {us : TA} {tw : TDW}
theorem do_inS : OpD X (compareOp .In) rInS (inSD false) := ⟨op_inS, fun {Hs H x y dx dy Q Q'} e r1 r2 q k => by
  cases r1 <;> cases r2 <;> first | exact q.elim | skip
  obtain ⟨c, rfl, q⟩ := q
  exact ⟨c, _, rfl, rfl, k _ _ _ _ (PExt.refl e) (.bl _) (by simpa using q)⟩⟩
theorem do_notInS : OpD X (compareOp .NotIn) rNotInS (inSD true) := ⟨op_notInS, fun {Hs H x y dx dy Q Q'} e r1 r2 q k => by
  cases r1 <;> cases r2 <;> first | exact q.elim | skip
  obtain ⟨c, rfl, q⟩ := q
  exact ⟨c, _, rfl, rfl, k _ _ _ _ (PExt.refl e) (.bl _) (by simpa using q)⟩⟩
theorem cst_int {K : PySem.W.Frag} {mg : Str → Option Value} {x : Str} {i : Int} {tk : Tok} (hm : mg x = some (.int i tk)) : Cst K mg x (.int i) :=
  ⟨.int i, .int i tk, hm, ⟨tk, rfl⟩, fun H => .int i⟩
def strD : List D → (D → Prop) → Prop
  | [.int i], Q => i.natAbs.log2 < 1920 ∧ Q (.str (toString i))
  | _, _ => False
theorem cd_str : CallD X (.type "str") (fun xs H Q => ∃ i, xs = [.int i] ∧ i.natAbs.log2 < 1920 ∧ Q (.str (toString i)) H) strD :=
  ⟨call_str_int, fun {Hs H vs ds Q Q'} e r q k => by
    cases r with
    | nil => exact q.elim
    | cons r1 r2 =>
      cases r2 with
      | cons _ _ => cases r1 <;> exact q.elim
      | nil =>
        cases r1 <;> first | exact q.elim | skip
        obtain ⟨q1, q2⟩ := q
        exact ⟨_, rfl, q1, k _ _ _ _ (PExt.refl e) (.str _) q2⟩⟩
def nListV (tb : TDV) : TDL := fun δ Q => tb δ fun rb _ δ1 => ∃ (a : Addr) (xs : List D), rb = .rf a ∧ Has δ1 a (.lst (xs.map .dt)) ∧ Q xs δ1
theorem jn_listV (hg : Gl X "list") (hm : X.mg "list" = none) (hb : JV X b ub tb) (hs : starEach [b] X.env = (false, eval b X.env) :: starEach [] X.env := by rfl) (hpl : (backTo pos (starEach [] X.env)).any (·.1) = false := by rfl) :
    JN X (.Call (.Name "list" p1) [b] [] pos) (tCB (rListU X.K) (tCons ub tNil)) (nListV tb) :=
  ⟨pe_callTy cn_list.p hg hm (by decide +kernel) (pa_cons hb.p pa_nil hs) (by decide) (by decide) hs hpl, fun R q k => hb.s R q fun vb rb Lb δ1 H1 Hs1 B1 R1 hh x1 rvb ⟨a, xs, eb, hh1, q1⟩ => by
    subst eb
    obtain rfl : vb = .ref a := rvb
    obtain ⟨vs, hH, hr⟩ := R1.has hh1
    refine ⟨a, vs, rfl, .inl (.inl (.inl hH)), fun p hp => ?_⟩
    have R2 := R1.weaken hh.ex
    exact k p _ _ _ _ _ (R2.hide hp) (R2.base.none hp) (R2.frz.none (R2.ex.none hp)) x1 hr.to_dp q1⟩
def dTupV (tb : TDV) : TDE := fun δ Q => tb δ fun rb _ δ1 => ∃ (a : Addr) (xs : List D), rb = .rf a ∧ Has δ1 a (.lst (xs.map .dt)) ∧ Q (.tuple xs) δ1
theorem je_tupV (hg : Gl X "tuple") (hm : X.mg "tuple" = none) (hb : JV X b ub tb) (hs : starEach [b] X.env = (false, eval b X.env) :: starEach [] X.env := by rfl) (hpl : (backTo pos (starEach [] X.env)).any (·.1) = false := by rfl) :
    JE X (.Call (.Name "tuple" p1) [b] [] pos) (tCB (rTupU X.K) (tCons ub tNil)) (dTupV tb) :=
  ⟨pe_callTy cd_tuple.p hg hm (by decide +kernel) (pa_cons hb.p pa_nil hs) (by decide) (by decide) hs hpl, fun R q k => hb.s R q fun vb rb Lb δ1 H1 Hs1 B1 R1 hh x1 rvb ⟨a, xs, eb, hh1, q1⟩ => by
    subst eb
    obtain rfl : vb = .ref a := rvb
    obtain ⟨vs, hH, hr⟩ := R1.has hh1
    refine ⟨a, vs, rfl, .inl ⟨.inl (.inl hH), fun p hp => ?_⟩⟩
    have R2 := R1.weaken hh.ex
    have X1 := PExt.new R2.ex (.tup vs) hp
    exact k _ _ _ _ _ (R2.ext X1) (x1.trans X1.s) (.tup (.inl (.inl upd_same)) (dpAll_mono X1.s hr.to_dp)) q1⟩
end
abbrev TDPv := Dl → (List (Key × RV) → Lf → Dl → Prop) → Prop
def SimPv (Z : ZX) (trs : List (TE × TE)) (t : TDPv) : Prop := ∀ {B H0 : Hp} [XOk Z B H0] {σ : L2.St} {δ : Dl} {H Hs : Hp} {Q : List (Key × RV) → Lf → Dl → Prop} {Q' : List (V × V) → Hp → Prop}, Rep Z.K B H0 σ δ H Hs → t δ Q →
  (∀ (r : List (Key × V)) kvs L δ' H' Hs' B', Rep Z.K B' H0 σ δ' H' Hs' → Hid Z.K B B' H0 Hs' L → Ex Hs Hs' → KAll Z.K Hs' r kvs → Q kvs L δ' → Q' (r.map fun kv => (kV kv.1, kv.2)) H') → tPairs trs σ H Q'
structure JPv (X : Cy) (pos : Pos) (keys : List (Option Expr)) (values : List Expr) (trs : List (TE × TE)) (t : TDPv) : Prop where
  p : PPs X pos keys values trs
  s : SimPv X.z trs t
def vpNil : TDPv := fun δ Q => Q [] [] δ
def vpCons (x : Str) (t : TDV) (u : TDPv) : TDPv := fun δ Q => t δ fun r L δ1 => u δ1 fun kvs M δ2 => Q ((.inr x, r) :: kvs) (L ++ M) δ2
def mergeR (kvs more : List (Key × RV)) : List (Key × RV) := more.foldl (fun acc kv => EL.putR acc kv.1 kv.2) kvs
theorem KAll.merge {K : PySem.W.Frag} {Hs : Hp} : ∀ {m : List (Key × V)} {n : List (Key × RV)} {r : List (Key × V)} {s : List (Key × RV)}, KAll K Hs m n → KAll K Hs r s → KAll K Hs (mergeK r m) (mergeR s n)
  | _, _, _, _, .nil, h => h
  | _, _, _, _, .cons (k := kk) q t, h => by
    have z := KAll.merge t (h.put (k := kk) q)
    exact z
section
variable {X : Cy} {pos : Pos} {keys : List (Option Expr)} {values : List Expr} {trs : List (TE × TE)} {u : TDPv} {v : Expr} {tv : TE} {t : TDV}
theorem jpv_nil : JPv X pos [] [] [] vpNil := ⟨pps_nil, fun R h k => k [] [] [] _ _ _ _ R .nil (Ex.refl _) .nil h⟩
theorem jpv_cons {x : Str} {k : Nat} {kp : Pos} (hv : JV X v tv t) (hr : JPv X pos keys values trs u) : JPv X pos (some (.Constant (.str x) k kp) :: keys) (v :: values) ((tC (.str x), tv) :: trs) (vpCons x t u) :=
  ⟨pps_cons pe_str hv.p hr.p, fun {B H0} [hX : XOk _ _ _] {σ δ H Hs Q Q'} R h k => hv.s R h fun w d L δ1 H1 Hs1 B1 R1 hh e1 r1 q1 => by
    haveI := hX.mono hh.ex
    exact hr.s R1 q1 fun r kvs M δ2 H2 Hs2 B2 R2 hh2 e2 r2 q2 => k ((.inr x, w) :: r) _ _ _ _ _ _ R2 ((hh.mono e2).trans hh2) (e1.trans e2) (.cons (r1.mono e2) r2) q2⟩
def vDisp (u : TDPv) : TDV := fun δ Q => u δ fun kvs L δ' => kvs.length ≤ 15 ∧ ∀ p, Q (.rf p) (L ++ [(p, .dk (mergeR [] kvs))]) δ'
theorem jv_disp {dp : Pos} (h : JPv X dp keys values trs u) (hall : keys.all (·.isSome) = true := by rfl) (hl : keys.length = values.length := by rfl) (h0 : keys ≠ [] := by exact fun z => nomatch z) (h15 : keys.length ≤ 15 := by decide) :
    JV X (.Dict keys values dp) (tDisp trs) (vDisp u) := ⟨pe_disp h.p hall hl h0 h15, fun {B H0} [hX : XOk _ _ _] {σ δ H Hs Q Q'} R q k p hp => by
  have hB : B p = none := R.base.none hp
  have hH0 : H0 p = none := R.frz.none (R.ex.none hp)
  haveI := hX.hide (o := .dK []) hB
  refine h.s (R.hide (o := .dK []) hp) q fun r kvs L δ2 H2 Hs2 B2 R2 hh e2 r2 ⟨h1, q2⟩ => ?_
  have hBp : B2 p = some (.dK []) := hh.ex p _ upd_same
  have hne : ∀ b ∈ addrsL L, b ≠ p ∧ B b = none ∧ H0 b = none := fun b hb => by
    obtain ⟨n1, n2⟩ := hh.nw b hb
    have : b ≠ p := fun z => by
      subst z
      rw [upd_same] at n1
      cases n1
    rw [upd_ne this] at n1
    exact ⟨this, n1, n2⟩
  refine ⟨R2.base p _ hBp, r, rfl, by rw [r2.len]; exact h1, ?_⟩
  have R3 : Rep X.K (upd B2 p (.dK [])) H0 σ δ2 H2 Hs2 := by
    have : upd B2 p (.dK []) = B2 := funext fun b => by
      by_cases hb : b = p
      · subst hb
        rw [upd_same, hBp]
      · rw [upd_ne hb]
    rw [this]
    exact R2
  have R4 := R3.hset (o' := .dK (mergeK [] r)) hH0
  have e5 : upd (upd B2 p (.dK [])) p (.dK (mergeK [] r)) = upd B2 p (.dK (mergeK [] r)) := by
    funext b
    by_cases hb : b = p
    · subst hb
      rw [upd_same, upd_same]
    · rw [upd_ne hb, upd_ne hb, upd_ne hb]
  refine k _ (.rf p) _ _ _ _ _ R4 ?_ e2 rfl (q2 p)
  exact {
    ex := fun b o hb => by
      have hbp : b ≠ p := fun z => by
        subst z
        rw [hB] at hb
        cases hb
      rw [upd_ne hbp]
      exact hh.ex b o (by rw [upd_ne hbp]; exact hb)
    on := fun b hb => by
      rw [addrsL_app]
      by_cases hbp : b = p
      · subst hbp
        exact .inr (List.mem_append_right _ (by show b ∈ [b]; simp))
      · rw [upd_ne hbp] at hb
        rcases hh.on b hb with z | z
        · rw [upd_ne hbp] at z
          exact .inl z
        · exact .inr (List.mem_append_left _ z)
    nw := fun b hb => by
      rw [addrsL_app] at hb
      rcases List.mem_append.mp hb with z | z
      · exact (hne b z).2
      · have : b = p := by
          have z' : b ∈ [p] := z
          simpa using z'
        subst this
        exact ⟨hB, hH0⟩
    rg := ⟨by
      rw [addrsL_app]
      refine List.nodup_append.mpr ⟨hh.rg.nd, by show ([p] : List Addr).Nodup; simp, fun b hb c hc => ?_⟩
      have : c = p := by
        have z' : c ∈ [p] := hc
        simpa using z'
      subst this
      exact (hne b hb).1, fun x hx => by
      rcases List.mem_append.mp hx with z | z
      · exact (hh.rg.at_ x z).mono (Ex.refl _) fun b hb u hu => by
          rw [upd_ne (hne b (mem_addrsL.mpr ⟨x, z, hb⟩)).1]
          exact hu
      · simp at z
        subst z
        exact ⟨_, upd_same, r2.merge .nil⟩⟩ }⟩
end
structure JM (X : Cy) (e : Expr) (K' : PySem.W.Frag) (dsp : DSp) (us : TA) (tw : TDW) : Prop where
  p : PE X e (tCallS (spOf K' dsp) eNo us)
  s : SimW X.z us tw
section
variable {X : Cy} {e o : Expr} {es : List Expr} {pos p apos : Pos} {us : TA} {tw : TDW} {dsp : DSp} {K' : PySem.W.Frag} {x : Str} {f C : Addr} {fd : FuncData} {ps ks : List Str} {n : Nat} {ix : List Nat} {kws : List Keyword} {m cn : Str} {ue : TE} {tv : TDV} {tk : TA}
theorem je_m (h : JM X e K' dsp us tw) (hK : X.K = K' := by rfl) : JE X e (tCallS (spOf K' dsp) eNo us) (dCallQ xNo dsp tw) := je_q (.never X) h.p h.s hK
theorem jn_m (h : JM X e K' dsp us tw) (hK : X.K = K' := by rfl) : JN X e (tCallS (spOf K' dsp) eNo us) (nCallQ xNo dsp tw) := jn_q (.never X) h.p h.s hK
theorem jv_m (h : JM X e K' dsp us tw) (hK : X.K = K' := by rfl) : JV X e (tCallS (spOf K' dsp) eNo us) (vCallQ xNo dsp tw) := jv_q (.never X) h.p h.s hK
theorem jm_call (F : FnOk X.prog X.w X.K X.mg X.base (L2.CX X.prog X.w) n f fd ps (spOf K' dsp)) (hr : Room n X.A) (hm : X.mg x = some (.ref f)) (hk : PySem.W.keepIn X.K (.ref f) = true) (hb : Binds X.K fd ps []) (ha : JQ X (e :: es) us tw) (hg : Gl X x := by rfl) (hdb : (x == ("__debug__" : Str)) = false := by decide)
    (he : starEach (e :: es) X.env = (false, eval e X.env) :: starEach es X.env := by rfl) (hpl : (backTo pos (starEach es X.env)).any (·.1) = false := by rfl) : JM X (.Call (.Name x p) (e :: es) [] pos) K' dsp us tw :=
  ⟨pq_call (.never X) F hr hm hk hb ha.p hg hdb he hpl, ha.s⟩
theorem jm_callK (F : FnOk X.prog X.w X.K X.mg X.base (L2.CX X.prog X.w) n f fd ps (spOf K' dsp)) (hr : Room n X.A) (hm : X.mg x = some (.ref f)) (hk : PySem.W.keepIn X.K (.ref f) = true) (hb : KBinds X.K fd ps ks (gK ks.length ix) (gK ks.length ix)) (ha : JKq X kws us tw) (hg : Gl X x := by rfl)
    (hall : (backToKw pos (keywordEach kws X.env)).all (·.1.isSome) = true := by rfl) (hks : (backToKw pos (keywordEach kws X.env)).filterMap (·.1) = ks := by rfl) (hdb : (x == ("__debug__" : Str)) = false := by decide)
    (hpl : ((backTo pos (starEach [] X.env)).any (·.1) || (backToKw pos (keywordEach kws X.env)).any (·.1.isNone)) = false := by rfl) : JM X (.Call (.Name x p) [] kws pos) K' dsp (tKw ks.length ix us) (wPm ks.length ix tw) :=
  ⟨pe_callKS F hr hm hk hb (Mode.never X).pas ha.p hg hall hks hdb hpl, simw_kw ha.s⟩
theorem jm_methO {pl : Sem Bool} (i : Nat) (hC : ClsAt X.K cn C) (c : L2.Cls X.K C) (hm : Meth X.K C m f) (F : FnOk X.prog X.w X.K X.mg X.base (L2.CX X.prog X.w) n f fd ps (spOf K' dsp)) (hr : Room n X.A) (hb : Binds X.K fd ps []) (ha : JQ X (e :: es) us tw)
    (hN : X.N[i]? = some x := by rfl) (hv : Vis X.env.scope x := by first | exact Or.inl rfl | exact Or.inr (Or.inl rfl) | exact Or.inr (Or.inr rfl)) (hd : (x == ("__debug__" : Str)) = false := by decide) (hcd : (x == ("__classdict__" : Str)) = false := by decide)
    (hst : starEach (e :: es) X.env = (false, eval e X.env) :: starEach es X.env := by rfl) (hpl : (backTo pos (starEach es X.env)).any (·.1) = false := by rfl)
    (ht : eval (.Call (.Attribute (.Name x p) m apos) (e :: es) [] pos) X.env = (do
      let ov ← eval (.Name x p) X.env
      standAt apos.atName
      let (f, first) ← holding [ov] (getMethod ov m pl)
      callWith pos f first (backTo pos (starEach (e :: es) X.env)) (backToKw pos (keywordEach [] X.env))) := by rfl) :
    JM X (.Call (.Attribute (.Name x p) m apos) (e :: es) [] pos) K' dsp (tRecv C m (tVar i) us) (wRecvO cn m i tw) :=
  ⟨pe_methS (pe_var hN hv hd hcd) c hm F hr hb (Mode.never X).pas ha.p hst hpl ht, simw_recvO hC ha.s⟩
theorem jm_methKO {pl : Sem Bool} (i : Nat) (hC : ClsAt X.K cn C) (c : L2.Cls X.K C) (hm : Meth X.K C m f) (F : FnOk X.prog X.w X.K X.mg X.base (L2.CX X.prog X.w) n f fd ps (spOf K' dsp)) (hr : Room n X.A) (hb : KBinds X.K fd ps ks (gK1 ks.length ix) (gK1 ks.length ix)) (ha : JKq X kws us tw)
    (hN : X.N[i]? = some x := by rfl) (hv : Vis X.env.scope x := by first | exact Or.inl rfl | exact Or.inr (Or.inl rfl) | exact Or.inr (Or.inr rfl)) (hd : (x == ("__debug__" : Str)) = false := by decide) (hcd : (x == ("__classdict__" : Str)) = false := by decide)
    (hall : (backToKw pos (keywordEach kws X.env)).all (·.1.isSome) = true := by rfl) (hks : (backToKw pos (keywordEach kws X.env)).filterMap (·.1) = ks := by rfl)
    (hpl : ((backTo pos (starEach [] X.env)).any (·.1) || (backToKw pos (keywordEach kws X.env)).any (·.1.isNone)) = false := by rfl)
    (ht : eval (.Call (.Attribute (.Name x p) m apos) [] kws pos) X.env = (do
      let ov ← eval (.Name x p) X.env
      standAt apos.atName
      let (f, first) ← holding [ov] (getMethod ov m pl)
      callWith pos f first (backTo pos (starEach [] X.env)) (backToKw pos (keywordEach kws X.env))) := by rfl) :
    JM X (.Call (.Attribute (.Name x p) m apos) [] kws pos) K' dsp (tRecv C m (tVar i) (tKw ks.length ix us)) (wRecvO cn m i (wPm ks.length ix tw)) :=
  ⟨pe_methKS (pe_var hN hv hd hcd) c hm F hr hb (Mode.never X).pas ha.p hall hks hpl ht, simw_recvO hC (simw_kw ha.s)⟩
theorem jm_methL {pl : Sem Bool} (hC : ClsAt X.K cn C) (c : L2.Cls X.K C) (hm : Meth X.K C m f) (F : FnOk X.prog X.w X.K X.mg X.base (L2.CX X.prog X.w) n f fd ps (spOf K' dsp)) (hr : Room n X.A) (hb : Binds X.K fd ps []) (ho : JV X o ue tv) (ha : JQ X (e :: es) us tw)
    (hst : starEach (e :: es) X.env = (false, eval e X.env) :: starEach es X.env := by rfl) (hpl : (backTo pos (starEach es X.env)).any (·.1) = false := by rfl)
    (ht : eval (.Call (.Attribute o m apos) (e :: es) [] pos) X.env = (do
      let ov ← eval o X.env
      standAt apos.atName
      let (f, first) ← holding [ov] (getMethod ov m pl)
      callWith pos f first (backTo pos (starEach (e :: es) X.env)) (backToKw pos (keywordEach [] X.env))) := by rfl) :
    JM X (.Call (.Attribute o m apos) (e :: es) [] pos) K' dsp (tRecv C m ue us) (wRecvL cn m tv tw) :=
  ⟨pe_methS ho.p c hm F hr hb (Mode.never X).pas ha.p hst hpl ht, simw_recvL hC ho.s ha.s⟩
theorem jv_mk (M : Mk X.K C f) (hC : ClsAt X.K cn C) (F : FnOk X.prog X.w X.K X.mg X.base (L2.CX X.prog X.w) n f fd ps (spOf K' dsp)) (hr : Room (n + 1) X.A) (hm : X.mg x = some (.ref C)) (hb : Binds X.K fd ps []) (ha : JQ X (e :: es) us tw) (hK : X.K = K' := by rfl) (hg : Gl X x := by rfl)
    (hdb : (x == ("__debug__" : Str)) = false := by decide) (he : starEach (e :: es) X.env = (false, eval e X.env) :: starEach es X.env := by rfl) (hpl : (backTo pos (starEach es X.env)).any (·.1) = false := by rfl) : JV X (.Call (.Name x p) (e :: es) [] pos) (tMakeS C (spOf K' dsp) eNo us) (vMake cn xNo dsp tw) :=
  jv_make (.never X) hC (pe_makeS M F hr hm hb (Mode.never X).pas ha.p hg hdb he hpl) ha.s hK
theorem jv_mk0 (M : Mk X.K C f) (hC : ClsAt X.K cn C) (F : FnOk X.prog X.w X.K X.mg X.base (L2.CX X.prog X.w) n f fd ps (spOf K' dsp)) (hr : Room (n + 1) X.A) (hm : X.mg x = some (.ref C)) (hb : Binds X.K fd ps []) (hK : X.K = K' := by rfl) (hg : Gl X x := by rfl)
    (hdb : (x == ("__debug__" : Str)) = false := by decide) : JV X (.Call (.Name x p) [] [] pos) (tMakeS C (spOf K' dsp) eNo tNil) (vMake cn xNo dsp wNil) :=
  jv_make (.never X) hC (pe_makeS0 M F hr hm hb (Mode.never X).pas hg hdb) simw_nil hK
end
end EL
namespace EL
open PySem PySem.Spec PyProof.Rows L2
section
variable {X : Cy} {e : Expr} {es : List Expr} {pos kpos p : Pos} {ue : TE} {ur us : TA} {t : TDE} {tv : TDV} {tw : TDW} {kws : List Keyword} {nm : Option Str}
def wLoanO (tv : TDV) (u : TDW) : TDW := fun δ Q => tv δ fun r L δ1 => (∃ d, r = .dt d ∧ u δ1 fun es δ2 => Q (.dt d :: es) δ2) ∨ ∃ a k L1, r = .rf a ∧ L = [] ∧ Loan δ1 L1 k fun δ1' => u δ1' fun es δ2 => Q (.rg a L1 (some k) :: es) δ2
theorem simw_loanO (ha : SimV X.z ue tv) (hr : SimW X.z ur tw) : SimW X.z (tCons ue ur) (wLoanO tv tw) := by
  intro B H0 hX σ δ H Hs Q Q' R h k
  refine ha R h fun v r L δ1 H1 Hs1 B1 R1 hh e1 rv q => ?_
  have R1' := R1.weaken hh.ex
  rcases q with ⟨d, er, q⟩ | ⟨a, kk, L1, er, eL, ⟨p, M, L2, hs, pm, q⟩⟩
  · subst er
    exact hr R1' q fun vs es δ2 H2 Hs2 B2 R2 w2 e2 q2 => k _ _ _ _ _ _ R2 (.dt (dp_mono e2 rv) w2) (e1.trans e2) q2
  · subst er
    obtain rfl : v = .ref a := rv
    obtain ⟨B2, R2, h2⟩ := R1'.splitR hs pm
    haveI := hX.mono h2.ex
    exact hr R2 q fun vs es δ2 H2 Hs2 B3 R3 w3 e3 q3 => k _ _ _ _ _ _ R3 (.rg (h2.mono e3) w3) (e1.trans e3) q3
theorem jq_loanO (ha : JV X e ue tv) (hr : JQ X es ur tw) (hs : starEach (e :: es) X.env = (false, eval e X.env) :: starEach es X.env := by rfl) : JQ X (e :: es) (tCons ue ur) (wLoanO tv tw) := ⟨pa_cons ha.p hr.p hs, simw_loanO ha.s hr.s⟩
theorem je_viewC {K' : PySem.W.Frag} {dsp : DSp} {f : Addr} {fd : FuncData} {ps : List Str} {n : Nat} {x : Str} {tvs : TDVs} (F : FnOk X.prog X.w X.K X.mg X.base (L2.CX X.prog X.w) n f fd ps (spOf K' dsp)) (hr : Room n X.A) (hm : X.mg x = some (.ref f)) (hk : PySem.W.keepIn X.K (.ref f) = true) (hb : Binds X.K fd ps []) (ha : JVs X (e :: es) us tvs) (hK : X.K = K' := by rfl) (hg : Gl X x := by rfl) (hdb : (x == ("__debug__" : Str)) = false := by decide)
    (he : starEach (e :: es) X.env = (false, eval e X.env) :: starEach es X.env := by rfl) (hpl : (backTo pos (starEach es X.env)).any (·.1) = false := by rfl) : JE X (.Call (.Name x p) (e :: es) [] pos) (tCallS (spOf K' dsp) eNo us) (dView dsp tvs) :=
  je_view (pq_call (.never X) F hr hm hk hb ha.p hg hdb he hpl) ha.s hK
def dInA (neg : Bool) (i : Nat) (t : TDE) : TDE := fun δ Q => t δ fun d δ' => ∃ xs, ((∃ p, δ'[i]? = some (.ow p (.lst xs))) ∨ δ'[i]? = some (.dt (.list xs)) ∨ δ'[i]? = some (.dt (.tuple xs))) ∧ d.depth ≤ 150 ∧ Q (.bool (neg ^^ xs.any fun z => PyData.eqv z d)) δ'
theorem sim_inA {neg : Bool} {i : Nat} (h : SimE X.z ue t) : SimE X.z (tOp (rInP X.K neg) ue (tVar i)) (dInA neg i t) := fun R q k => h R q fun v d δ1 H1 Hs1 R1 e1 r1 ⟨xs, hx, hd, q1⟩ => by
  rcases hx with ⟨p, hx⟩ | hx | hx
  · obtain ⟨vs, e2, hp, rx⟩ := own_at R1 hx
    exact ⟨_, e2, d, .list xs, xs, dp_mono R1.ex r1, .lst (.inl (.inl hp)) (dpAll_mono R1.ex rx), rfl, hd, k _ _ _ _ _ R1 e1 (.bl _) q1⟩
  · obtain ⟨v2, e2, r2⟩ := R1.get hx
    exact ⟨_, e2, d, .list xs, xs, dp_mono R1.ex r1, dp_mono R1.ex r2, rfl, hd, k _ _ _ _ _ R1 e1 (.bl _) q1⟩
  · obtain ⟨v2, e2, r2⟩ := R1.get hx
    exact ⟨_, e2, d, .tuple xs, xs, dp_mono R1.ex r1, dp_mono R1.ex r2, rfl, hd, k _ _ _ _ _ R1 e1 (.bl _) q1⟩
theorem jt_inA {x : Str} {p1 : Pos} {a : Expr} {ua : TE} {ta : TDE} (hu : X.A.units + 200 < cLine) (i : Nat) (ha : JE X a ua ta) (hN : X.N[i]? = some x := by rfl) (hv : Vis X.env.scope x := by first | exact Or.inl rfl | exact Or.inr (Or.inl rfl) | exact Or.inr (Or.inr rfl)) (hd : (x == ("__debug__" : Str)) = false := by decide)
    (hcd : (x == ("__classdict__" : Str)) = false := by decide) (hm : behindInMarks .In (.Name x p1) = false := by with_unfolding_all rfl) : JT X (.Compare a [.In] [.Name x p1] pos) (tTest (tOp (rInP X.K false) ua (tVar i))) (dTest (dInA false i ta)) := ⟨pt_cmpR (op_inP hu) ha.p (pe_var hN hv hd hcd) hm, sim_test (sim_inA ha.s)⟩
theorem jt_notInA {x : Str} {p1 : Pos} {a : Expr} {ua : TE} {ta : TDE} (hu : X.A.units + 200 < cLine) (i : Nat) (ha : JE X a ua ta) (hN : X.N[i]? = some x := by rfl) (hv : Vis X.env.scope x := by first | exact Or.inl rfl | exact Or.inr (Or.inl rfl) | exact Or.inr (Or.inr rfl)) (hd : (x == ("__debug__" : Str)) = false := by decide)
    (hcd : (x == ("__classdict__" : Str)) = false := by decide) (hm : behindInMarks .NotIn (.Name x p1) = false := by with_unfolding_all rfl) : JT X (.Compare a [.NotIn] [.Name x p1] pos) (tTest (tOp (rInP X.K true) ua (tVar i))) (dTest (dInA true i ta)) := ⟨pt_cmpR (op_notInP hu) ha.p (pe_var hN hv hd hcd) hm, sim_test (sim_inA ha.s)⟩
end
section
variable {X : Cy} {tg e : Expr} {ue : TE} {t : TDE}
def iSeqU (K : PySem.W.Frag) (tl : TE) : TI := fun σ H R => tl σ H fun x H1 => ∃ a, x = .ref a ∧ (((∃ xs, SqL K H1 a xs) ∧ R (Itl K a) H1) ∨ ((∃ xs, SqT K H1 a xs) ∧ R (Itt K a) H1))
theorem pi_seq {X : Cx} {ue : TE} (hl : PE X e ue) : PI X tg e (iSeqU X.K ue) := by
  refine ⟨fun pins s σ H R I h => ?_⟩
  refine thn (hl.run pins s σ H _ I h) fun v s1 ⟨x, H1, I1, r1, q1⟩ => ?_
  obtain ⟨a, e, q1⟩ := q1
  subst e
  cases r1
  rcases q1 with ⟨⟨xs, hq⟩, q⟩ | ⟨⟨xs, hq⟩, q⟩
  · obtain ⟨its, rv, p, hz⟩ := I1.list hq
    refine wpAny_pyIter_list p.isList ?_
    refine ⟨s1.heap.objs.size, [s1.heap.objs.size], _, _, H1, rfl, I1.kept (t' := s1.toks) fun b o e => Heap.get?_push_of_some _ e, turn_list a _, ⟨_, Heap.get?_push_size _ rfl, rfl, rfl⟩, fun b hb => ?_, q⟩
    have e : b = s1.heap.objs.size := by simpa using hb
    subst e
    exact I1.fpOk (Nat.le_refl _) (I1.hok.fresh (Nat.le_refl _))
  · obtain ⟨its, rv, p, hz⟩ := I1.tuple hq
    refine wpAny_pyIter_tuple p ?_
    refine ⟨s1.heap.objs.size, [s1.heap.objs.size], _, _, H1, rfl, I1.kept (t' := s1.toks) fun b o e => Heap.get?_push_of_some _ e, turn_tuple a _, ⟨_, Heap.get?_push_size _ rfl, rfl, rfl⟩, fun b hb => ?_, q⟩
    have e : b = s1.heap.objs.size := by simpa using hb
    subst e
    exact I1.fpOk (Nat.le_refl _) (I1.hok.fresh (Nat.le_refl _))
def iSeqD (t : TDE) : TDI := fun δ Q => t δ fun d δ' => ∃ xs, (d = .list xs ∨ d = .tuple xs) ∧ Q xs δ'
theorem ji_seq (h : JE X e ue t) : JI X tg e (iSeqU X.K ue) (iSeqD t) := ⟨pi_seq h.p, fun R q k => h.s R q fun v d δ1 H1 Hs1 R1 e1 r1 ⟨xs, e, q1⟩ => by
  rcases e with rfl | rfl
  · cases r1 with
    | @lst a vs ds hs ha => exact ⟨a, rfl, .inl ⟨⟨vs, R1.ex.sl hs⟩, k _ _ _ _ _ R1 e1 (it_list hs ha) q1⟩⟩
  · cases r1 with
    | @tup a vs ds hs ha => exact ⟨a, rfl, .inr ⟨⟨vs, R1.ex.st hs⟩, k _ _ _ _ _ R1 e1 (it_tup hs ha) q1⟩⟩⟩
theorem st_iSeq {δ : Dl} {Q : List D → Dl → Prop} (q : t δ fun d δ' => ∃ xs, (d = .list xs ∨ d = .tuple xs) ∧ Q xs δ') : iSeqD t δ Q := q
theorem sq_L {xs : List D} {Q : List D → Prop} (q : Q xs) : ∃ ys, ((PyData.list xs = .list ys) ∨ PyData.list xs = .tuple ys) ∧ Q ys := ⟨xs, .inl rfl, q⟩
theorem sq_T {xs : List D} {Q : List D → Prop} (q : Q xs) : ∃ ys, ((PyData.tuple xs = .list ys) ∨ PyData.tuple xs = .tuple ys) ∧ Q ys := ⟨xs, .inr rfl, q⟩
end
end EL
namespace EL
open PySem PySem.Spec PyProof.Rows L2
theorem RAll.of_dpm {K : PySem.W.Frag} {Hs : Hp} {vs : List V} {xs : List D} (h : DpAll K Hs vs xs) : RAll K Hs vs (xs.map .dt) := RAll.of_dp h
theorem Rep.toReg {K : PySem.W.Frag} {B H0 H Hs : Hp} {σ : L2.St} {δ : Dl} {i : Nat} {p : Addr} {xs : List D} (R : Rep K B H0 σ δ H Hs) (h : δ[i]? = some (.ow p (.lst xs))) : Rep K B H0 σ (δ.set i (.ow p (OD.rg [(p, .lst (xs.map .dt))]))) H Hs := by
  obtain ⟨vs, e1, e2, e3, e4, e5, r, R1⟩ := R.take h
  have hh : Hid K B (upd B p (.lst vs)) H0 Hs [(p, .lst (xs.map .dt))] := Hid.one e4 e5 ⟨vs, upd_same, RAll.of_dp r⟩ rfl
  have hi : i < (δ.set i .un).length := by rw [List.length_set]; exact lt_of_get h
  have R2 := R1.ownR (p := p) hh hi
  rw [set_self e1, List.set_set] at R2
  exact R2
def sReg (i : Nat) (s : TDS) : TDS := fun De δ => ∃ p xs, δ[i]? = some (.ow p (.lst xs)) ∧ s De (δ.set i (.ow p (OD.rg [(p, .lst (xs.map .dt))])))
theorem js_reg {X : Cy} {sts : List Stmt} {w : TS} {s : TDS} (i : Nat) (h : JSs X sts w s) : JSs X sts w (sReg i s) := ⟨h.p, fun R q k => by
  obtain ⟨p, xs, hs, q⟩ := q
  exact h.s (R.toReg hs) q k⟩
theorem st_reg {i : Nat} {s : TDS} {De : DEnds} {δ : Dl} {p : Addr} {xs : List D} (h : δ[i]? = some (.ow p (.lst xs))) (q : s De (δ.set i (.ow p (OD.rg [(p, .lst (xs.map .dt))])))) : sReg i s De δ := ⟨p, xs, h, q⟩
def sPerm (i : Nat) (s : TDS) : TDS := fun De δ => ∃ p L M, δ[i]? = some (.ow p (OD.rg L)) ∧ List.Perm L M ∧ s De (δ.set i (.ow p (OD.rg M)))
theorem js_perm {X : Cy} {sts : List Stmt} {w : TS} {s : TDS} (i : Nat) (h : JSs X sts w s) : JSs X sts w (sPerm i s) := ⟨h.p, fun R q k => by
  obtain ⟨p, L, M, hs, hp, q⟩ := q
  exact h.s (R.permR hs hp) q k⟩
def eNoneV (neg : Bool) (tv : TDV) : TDE := fun δ Q => tv δ fun r _ δ' => Q (.bool (neg ^^ isNoV r)) δ'
section
variable {X : Cy} {a : Expr} {pos : Pos} {tv : TDV} {ua : TE}
theorem je_isNV {jk p'} (ha : JV X a ua tv) : JE X (.Compare a [.Is] [.Constant .none jk p'] pos) (tIsN ua) (eNoneV false tv) := ⟨pe_cmp (pc_isN ha.p), fun R q k => ha.s R q fun v r L δ' H' Hs' B' R1 hh x rv q1 => by
  rw [isNoV_dec rv]
  exact k _ _ _ _ _ (R1.weaken hh.ex) x (.bl _) (by simpa using q1)⟩
theorem je_notNV {jk p'} (ha : JV X a ua tv) : JE X (.Compare a [.IsNot] [.Constant .none jk p'] pos) (tNotN ua) (eNoneV true tv) := ⟨pe_cmp (pc_notN ha.p), fun R q k => ha.s R q fun v r L δ' H' Hs' B' R1 hh x rv q1 => by
  rw [isNoV_dec rv]
  exact k _ _ _ _ _ (R1.weaken hh.ex) x (.bl _) (by simpa using q1)⟩
end
theorem st_eNone {neg : Bool} {tv : TDV} {δ : Dl} {Q : D → Dl → Prop} (q : tv δ fun r _ δ' => Q (.bool (neg ^^ isNoV r)) δ') : eNoneV neg tv δ Q := q
end EL
namespace EL
open PySem PySem.Spec PyProof.Rows L2
section
variable {δ : Dl} {i j n : Nat} {a p : Addr} {o o' : Ob} {od : OD} {d dj : D} {Q : D → Dl → Prop} {Qv : RV → Lf → Dl → Prop} {Qvs : List RV → Lf → Dl → Prop} {Qb : Bool → Dl → Prop} {Ql : List D → Dl → Prop} {Qw : List Ev → Dl → Prop} {Qp : List (Key × RV) → Lf → Dl → Prop}
  {t tj : TDE} {tv tb : TDV} {tvs : TDVs} {tw : TDW} {tp : TDPv} {s : TDS} {De : DEnds} {M : Lf} {P : Prop} {Pd : Dl → Prop} {xk : Exn → Dl → Prop} {dsp : DSp} {cn f m : Str} {kvs : List (Key × RV)} {k : Key} {r z : RV}
theorem has_at {L : Lf} (i n : Nat) (h : δ[i]? = some (.ow p (OD.rg L))) (h2 : L[n]? = some (a, o)) : Has δ a o := ⟨i, p, L, n, h, h2⟩
theorem put_at {L : Lf} (i n : Nat) (h : δ[i]? = some (.ow p (OD.rg L))) (h2 : L[n]? = some (a, o)) (q : Pd (δ.set i (.ow p (OD.rg (L.set n (a, o') ++ M))))) : Put δ a o o' M Pd := ⟨i, p, L, n, h, h2, q⟩
theorem put_at0 {L : Lf} (i n : Nat) (h : δ[i]? = some (.ow p (OD.rg L))) (h2 : L[n]? = some (a, o)) (q : Pd (δ.set i (.ow p (OD.rg (L.set n (a, o')))))) : Put δ a o o' [] Pd := ⟨i, p, L, n, h, h2, by rw [List.append_nil]; exact q⟩
theorem has_mem {L : Lf} (i : Nat) (h : δ[i]? = some (.ow p (OD.rg L))) (h2 : (a, o) ∈ L) : Has δ a o := by
  obtain ⟨n, hn, e⟩ := List.getElem_of_mem h2
  exact ⟨i, p, L, n, h, List.getElem?_eq_some_iff.mpr ⟨hn, e⟩⟩
theorem lt_ok (h : Nat.ble (i + 1) δ.length = true) (q : P) : i < δ.length ∧ P := ⟨Nat.le_of_ble_eq_true h, q⟩
theorem st_vD (q : t δ fun d δ' => Qv (.dt d) [] δ') : vD t δ Qv := q
theorem st_eV (q : tv δ fun r _ δ' => ∃ d, r = .dt d ∧ Q d δ') : eV tv δ Q := q
theorem ex_dt {Pq : D → Prop} (q : Pq d) : ∃ e, RV.dt d = .dt e ∧ Pq e := ⟨d, rfl, q⟩
theorem ex_rf {Pq : Addr → Prop} (q : Pq a) : ∃ e, RV.rf a = .rf e ∧ Pq e := ⟨a, rfl, q⟩
theorem st_vRef (h : δ[i]? = some (.ow p od)) (q : Qv (.rf p) [] δ) : vRef i δ Qv := ⟨p, od, h, q⟩
theorem st_vMv {L : Lf} (h : δ[i]? = some (.ow p (OD.rg L))) (q : Qv (.rf p) L (δ.set i .un)) : vMv i δ Qv := ⟨p, L, h, q⟩
theorem st_vMvL {xs : List D} (h : δ[i]? = some (.ow p (.lst xs))) (q : Qv (.rf p) [(p, .lst (xs.map .dt))] (δ.set i .un)) : vMvL i δ Qv := ⟨p, xs, h, q⟩
theorem st_vNameD (h : δ[i]? = some (.dt d)) (q : Qv (.dt d) [] δ) : vName i δ Qv := .inl ⟨d, h, q⟩
theorem st_vNameO (h : δ[i]? = some (.ow p od)) (q : Qv (.rf p) [] δ) : vName i δ Qv := .inr ⟨p, od, h, q⟩
theorem st_vNil (q : Qvs [] [] δ) : vNil δ Qvs := q
theorem st_vCons (q : tv δ fun r L δ1 => tvs δ1 fun rs M δ2 => Qvs (r :: rs) (L ++ M) δ2) : vCons tv tvs δ Qvs := q
theorem st_vLst (q : tvs δ fun rs L δ' => rs.length ≤ 10000 ∧ ∀ p, Qv (.rf p) (L ++ [(p, .lst rs)]) δ') : vLst tvs δ Qv := q
theorem andR_ok {rs : List RV} {Pp : Addr → Prop} (h : Nat.ble rs.length 10000 = true) (q : ∀ p, Pp p) : rs.length ≤ 10000 ∧ ∀ p, Pp p := ⟨Nat.le_of_ble_eq_true h, q⟩
theorem andK_ok {rs : List (Key × RV)} {Pp : Addr → Prop} (h : Nat.ble rs.length 15 = true) (q : ∀ p, Pp p) : rs.length ≤ 15 ∧ ∀ p, Pp p := ⟨Nat.le_of_ble_eq_true h, q⟩
theorem st_vDict (q : ∀ p, Qv (.rf p) [(p, .dk [])] δ) : vDict δ Qv := q
theorem st_vN {tl : TDL} (q : tl δ fun xs δ' => ∀ p, Qv (.rf p) [(p, .lst (xs.map .dt))] δ') : vN tl δ Qv := q
theorem st_vDisp (q : tp δ fun kvs L δ' => kvs.length ≤ 15 ∧ ∀ p, Qv (.rf p) (L ++ [(p, .dk (mergeR [] kvs))]) δ') : vDisp tp δ Qv := q
theorem st_vpNil (q : Qp [] [] δ) : vpNil δ Qp := q
theorem st_vpCons {x : Str} {u : TDPv} (q : tv δ fun r L δ1 => u δ1 fun kvs M δ2 => Qp ((.inr x, r) :: kvs) (L ++ M) δ2) : vpCons x tv u δ Qp := q
theorem st_vKey (q : tv δ fun r _ δ1 => tj δ1 fun dj δ2 => ∃ a kvs k z, r = .rf a ∧ Has δ2 a (.dk kvs) ∧ keyOf dj = some k ∧ getR kvs k = some z ∧ Qv z [] δ2) : vKey tv tj δ Qv := q
theorem ex_key {kq : RV → Prop} (h : Has δ a (.dk kvs)) (hk : keyOf dj = some k) (hg : getR kvs k = some z) (q : kq z) : ∃ b kvs k z, RV.rf a = .rf b ∧ Has δ b (.dk kvs) ∧ keyOf dj = some k ∧ getR kvs k = some z ∧ kq z := ⟨a, kvs, k, z, rfl, h, hk, hg, q⟩
theorem st_vIx (q : tv δ fun r _ δ1 => tj δ1 fun dj δ2 => (∃ d, r = .dt d ∧ ixD d dj fun z => Qv (.dt z) [] δ2) ∨ ∃ a rs n z, r = .rf a ∧ Has δ2 a (.lst rs) ∧ dj = .int n ∧ atI rs n = some z ∧ Qv z [] δ2) : vIx tv tj δ Qv := q
theorem ex_ixD {Pq : Prop} (q : ixD d dj fun z => Qv (.dt z) [] δ) : (∃ e, RV.dt d = .dt e ∧ ixD e dj fun z => Qv (.dt z) [] δ) ∨ Pq := .inl ⟨d, rfl, q⟩
theorem ex_ixR {Pq : Prop} {rs : List RV} {n : Int} {kq : RV → Prop} (h : Has δ a (.lst rs)) (e : atI rs n = some z) (q : kq z) : Pq ∨ ∃ b rs n' z, RV.rf a = .rf b ∧ Has δ b (.lst rs) ∧ PyData.int n = .int n' ∧ atI rs n' = some z ∧ kq z := .inr ⟨a, rs, n, z, rfl, h, rfl, e, q⟩
theorem st_vFld (q : tv δ fun r _ δ1 => ∃ a dx fs z, r = .rf a ∧ Has δ1 a (.ins cn dx fs) ∧ getR fs f = some z ∧ Qv z [] δ1) : vFld cn f tv δ Qv := q
theorem ex_fld {dx : Addr} {fs : List (Str × RV)} {kq : RV → Prop} (h : Has δ a (.ins cn dx fs)) (hg : getR fs f = some z) (q : kq z) : ∃ b dx fs z, RV.rf a = .rf b ∧ Has δ b (.ins cn dx fs) ∧ getR fs f = some z ∧ kq z := ⟨a, dx, fs, z, rfl, h, hg, q⟩
theorem st_asgV (q : tv δ fun r L δ' => i < δ'.length ∧ De.nx (δ'.set i (slotV r L))) : sAsgV tv i De δ := q
theorem st_lenV (q : tb δ fun rb _ δ1 => ∃ a rs, rb = .rf a ∧ Has δ1 a (.lst rs) ∧ Q (.int rs.length) δ1) : dLenV tb δ Q := q
theorem ex_len {rs : List RV} {kq : List RV → Prop} (h : Has δ a (.lst rs)) (q : kq rs) : ∃ b rs, RV.rf a = .rf b ∧ Has δ b (.lst rs) ∧ kq rs := ⟨a, rs, rfl, h, q⟩
theorem st_tupV (q : tb δ fun rb _ δ1 => ∃ (a : Addr) (xs : List D), rb = .rf a ∧ Has δ1 a (.lst (xs.map .dt)) ∧ Q (.tuple xs) δ1) : dTupV tb δ Q := q
theorem st_listV (q : tb δ fun rb _ δ1 => ∃ (a : Addr) (xs : List D), rb = .rf a ∧ Has δ1 a (.lst (xs.map .dt)) ∧ Ql xs δ1) : nListV tb δ Ql := q
theorem ex_lstD {xs : List D} {kq : List D → Prop} (h : Has δ a (.lst (xs.map .dt))) (q : kq xs) : ∃ b ys, RV.rf a = .rf b ∧ Has δ b (.lst (List.map RV.dt ys)) ∧ kq ys := ⟨a, xs, rfl, h, q⟩
theorem st_listD (q : tb δ fun rb _ δ1 => ∃ (a : Addr) (kvs : List (Key × RV)), rb = .rf a ∧ Has δ1 a (.dk kvs) ∧ Ql (kvs.map fun kv => keyD2 kv.1) δ1) : nListD tb δ Ql := q
theorem ex_dk {kq : List (Key × RV) → Prop} (h : Has δ a (.dk kvs)) (q : kq kvs) : ∃ b kvs, RV.rf a = .rf b ∧ Has δ b (.dk kvs) ∧ kq kvs := ⟨a, kvs, rfl, h, q⟩
theorem st_dIn {neg : Bool} (q : t δ fun d δ1 => tb δ1 fun rb _ δ2 => ∃ (a : Addr) (kvs : List (Key × RV)) (key : Key), rb = .rf a ∧ Has δ2 a (.dk kvs) ∧ keyOf d = some key ∧ Q (.bool (neg ^^ (getR kvs key).isSome)) δ2) : dDIn neg t tb δ Q := q
theorem ex_din {kq : List (Key × RV) → Key → Prop} (h : Has δ a (.dk kvs)) (hk : keyOf dj = some k) (q : kq kvs k) : ∃ b kvs key, RV.rf a = .rf b ∧ Has δ b (.dk kvs) ∧ keyOf dj = some key ∧ kq kvs key := ⟨a, kvs, k, rfl, h, hk, q⟩
theorem st_bNone {neg : Bool} (q : tv δ fun r _ δ' => Qb (neg ^^ isNoV r) δ') : bNoneV neg tv δ Qb := q
theorem st_putV (q : tv δ fun r M δ1 => tb δ1 fun rb _ δ2 => tj δ2 fun dj δ3 => ∃ a kvs key, rb = .rf a ∧ keyOf dj = some key ∧ kvs.length ≤ 100000 ∧ Put δ3 a (.dk kvs) (.dk (EL.putR kvs key r)) M De.nx) : sPutV tb tj tv De δ := q
theorem ex_put (hk : keyOf dj = some k) (hl : kvs.length ≤ 100000) (q : Put δ a (.dk kvs) (.dk (EL.putR kvs k r)) M Pd) : ∃ b kvs key, RV.rf a = .rf b ∧ keyOf dj = some key ∧ kvs.length ≤ 100000 ∧ Put δ b (.dk kvs) (.dk (EL.putR kvs key r)) M Pd := ⟨a, kvs, k, rfl, hk, hl, q⟩
theorem st_setV (q : tv δ fun r M δ1 => tb δ1 fun rb _ δ2 => tj δ2 fun dj δ3 => ∃ a rs n k, rb = .rf a ∧ dj = .int n ∧ ixN rs.length n = some k ∧ Put δ3 a (.lst rs) (.lst (rs.set k r)) M De.nx) : sSetV tb tj tv De δ := q
theorem ex_set {rs : List RV} {n : Int} {kk : Nat} (e : ixN rs.length n = some kk) (q : Put δ a (.lst rs) (.lst (rs.set kk r)) M Pd) : ∃ b rs n' k, RV.rf a = .rf b ∧ PyData.int n = .int n' ∧ ixN rs.length n' = some k ∧ Put δ b (.lst rs) (.lst (rs.set k r)) M Pd := ⟨a, rs, n, kk, rfl, rfl, e, q⟩
theorem st_appV (q : tb δ fun rb _ δ1 => ∃ a, rb = .rf a ∧ (∃ rs, Has δ1 a (.lst rs)) ∧ tv δ1 fun r M δ2 => ∃ rs, rs.length ≤ 100000 ∧ Put δ2 a (.lst rs) (.lst (rs ++ [r])) M De.nx) : sAppV tb tv De δ := q
theorem ex_has {rs : List RV} (h : Has δ a (.lst rs)) (q : P) : (∃ rs, Has δ a (.lst rs)) ∧ P := ⟨⟨rs, h⟩, q⟩
theorem ex_app {rs : List RV} (hl : rs.length ≤ 100000) (q : Put δ a (.lst rs) (.lst (rs ++ [r])) M Pd) : ∃ rs : List RV, rs.length ≤ 100000 ∧ Put δ a (.lst rs) (.lst (rs ++ [r])) M Pd := ⟨rs, hl, q⟩
theorem st_insV (q : tb δ fun rb _ δ1 => ∃ a, rb = .rf a ∧ (∃ rs, Has δ1 a (.lst rs)) ∧ tj δ1 fun dj δ2 => tv δ2 fun r M δ3 => ∃ rs n, dj = .int n ∧ rs.length ≤ 100000 ∧ 0 ≤ n ∧ n < 2 ^ 63 ∧ Put δ3 a (.lst rs) (.lst (rs.take n.toNat ++ [r] ++ rs.drop n.toNat)) M De.nx) : sInsV tb tj tv De δ := q
theorem ex_ins {rs : List RV} {n : Int} (hl : rs.length ≤ 100000) (h0 : 0 ≤ n) (h1 : n < 2 ^ 63) (q : Put δ a (.lst rs) (.lst (rs.take n.toNat ++ [r] ++ rs.drop n.toNat)) M Pd) : ∃ rs n', PyData.int n = .int n' ∧ rs.length ≤ 100000 ∧ 0 ≤ n' ∧ n' < 2 ^ 63 ∧ Put δ a (.lst rs) (.lst (rs.take n'.toNat ++ [r] ++ rs.drop n'.toNat)) M Pd := ⟨rs, n, rfl, hl, h0, h1, q⟩
theorem st_popAt (q : tb δ fun rb _ δ1 => ∃ a, rb = .rf a ∧ (∃ rs, Has δ1 a (.lst rs)) ∧ tj δ1 fun dj δ2 => ∃ (rs : List RV) (n : Int) (k : Nat) (z : RV), dj = .int n ∧ -(2 ^ 63) ≤ n ∧ n < 2 ^ 63 ∧ seqIndex? n rs.length = some k ∧ rs[k]? = some z ∧ Put δ2 a (.lst rs) (.lst (rs.eraseIdx k)) [] fun δ' => Qv z [] δ') : vPopAt tb tj δ Qv := q
theorem ex_pop {rs : List RV} {n : Int} {kk : Nat} {kq : RV → Dl → Prop} (h0 : -(2 ^ 63) ≤ n) (h1 : n < 2 ^ 63) (e : seqIndex? n rs.length = some kk) (hz : rs[kk]? = some z) (q : Put δ a (.lst rs) (.lst (rs.eraseIdx kk)) [] fun δ' => kq z δ') :
    ∃ (rs : List RV) (n' : Int) (k : Nat) (z : RV), PyData.int n = .int n' ∧ -(2 ^ 63) ≤ n' ∧ n' < 2 ^ 63 ∧ seqIndex? n' rs.length = some k ∧ rs[k]? = some z ∧ Put δ a (.lst rs) (.lst (rs.eraseIdx k)) [] fun δ' => kq z δ' := ⟨rs, n, kk, z, rfl, h0, h1, e, hz, q⟩
theorem st_fldV (q : tv δ fun r M δ1 => tb δ1 fun rb _ δ2 => ∃ a dx fs, rb = .rf a ∧ fs.length < 1000 ∧ Put δ2 a (.ins cn dx fs) (.ins cn dx (putFr f r fs)) M De.nx) : sFldV cn f tb tv De δ := q
theorem ex_fput {dx : Addr} {fs : List (Str × RV)} (hl : fs.length < 1000) (q : Put δ a (.ins cn dx fs) (.ins cn dx (putFr f r fs)) M Pd) : ∃ b dx fs, RV.rf a = .rf b ∧ fs.length < 1000 ∧ Put δ b (.ins cn dx fs) (.ins cn dx (putFr f r fs)) M Pd := ⟨a, dx, fs, rfl, hl, q⟩
theorem st_fldAug (q : tb δ fun rb _ δ1 => ∃ a dx fs z, rb = .rf a ∧ Has δ1 a (.ins cn dx fs) ∧ getR fs f = some (.dt (.int z)) ∧ t δ1 fun d δ2 => ∃ n dx' fs', d = .int n ∧ fs'.length < 1000 ∧ Put δ2 a (.ins cn dx' fs') (.ins cn dx' (putFr f (.dt (.int (z + n))) fs')) [] De.nx) : sFldAugV cn f tb t De δ := q
theorem st_dropV (q : tv δ fun _ _ δ' => De.nx δ') : sDropV tv De δ := q
theorem st_retV (q : tv δ fun r L δ' => De.rt (rsV r L) δ') : sRetV tv De δ := q
theorem st_wNil (q : Qw [] δ) : wNil δ Qw := q
theorem st_wCons (q : t δ fun d δ1 => tw δ1 fun es δ2 => Qw (.dt d :: es) δ2) : wCons t tw δ Qw := q
theorem st_wLend (h : δ[i]? = some (.ow p od)) (q : tw δ fun es δ2 => Qw (.sl i :: es) δ2) : wLend i tw δ Qw := ⟨⟨p, od, h⟩, q⟩
theorem st_wAnyO (h : δ[i]? = some (.ow p od)) (q : tw δ fun es δ2 => Qw (.sl i :: es) δ2) : wAny i tw δ Qw := .inl ⟨p, od, h, q⟩
theorem st_wAnyD (h : δ[i]? = some (.dt d)) (q : tw δ fun es δ2 => Qw (.dt d :: es) δ2) : wAny i tw δ Qw := .inr ⟨d, h, q⟩
theorem st_wVal (q : tv δ fun r L δ1 => tw δ1 fun es δ2 => Qw (evV r L :: es) δ2) : wVal tv tw δ Qw := q
theorem st_wLoan (q : tv δ fun r L δ1 => ∃ a k L1, r = .rf a ∧ L = [] ∧ Loan δ1 L1 k fun δ1' => tw δ1' fun es δ2 => Qw (.rg a L1 (some k) :: es) δ2) : wLoan tv tw δ Qw := q
theorem ex_loan {L1 L2 M : Lf} (k : Nat) (hk : δ[k]? = some (SD.ow p (OD.rg M))) (hp : M.Perm (L1 ++ L2)) {kq : Lf → Nat → Dl → Prop} (q : kq L1 k (δ.set k (.ow p (OD.rg L2)))) : ∃ b k L1, RV.rf a = .rf b ∧ ([] : Lf) = [] ∧ Loan δ L1 k fun δ1' => kq L1 k δ1' := ⟨a, k, L1, rfl, rfl, p, M, L2, hk, hp, q⟩
theorem st_wLoanO (q : tv δ fun r L δ1 => (∃ d, r = .dt d ∧ tw δ1 fun es δ2 => Qw (.dt d :: es) δ2) ∨ ∃ a k L1, r = .rf a ∧ L = [] ∧ Loan δ1 L1 k fun δ1' => tw δ1' fun es δ2 => Qw (.rg a L1 (some k) :: es) δ2) : wLoanO tv tw δ Qw := q
theorem st_recvO {dx : Addr} {fs : List (Str × RV)} (h : δ[i]? = some (.ow p od)) (h2 : Has δ p (.ins cn dx fs)) (h3 : getR fs m = none) (q : tw δ fun es δ2 => Qw (.sl i :: es) δ2) : wRecvO cn m i tw δ Qw := ⟨p, od, dx, fs, h, h2, h3, q⟩
theorem st_recvL (q : tv δ fun r L δ1 => ∃ a k L1 dx fs, r = .rf a ∧ L = [] ∧ Has δ1 a (.ins cn dx fs) ∧ getR fs m = none ∧ Loan δ1 L1 k fun δ1' => tw δ1' fun es δ2 => Qw (.rg a L1 (some k) :: es) δ2) : wRecvL cn m tv tw δ Qw := q
theorem st_wPm {ix : List Nat} (q : tw δ fun es δ' => es.length = n ∧ ((∀ e ∈ es, ∃ (i : Nat) (d : D), e = .sl i ∨ e = .dt d)) ∧ Qw (permL ix es) δ') : wPm n ix tw δ Qw := q
theorem q_d {es : List Ev} (h1 : (borsW es).Nodup) (h2 : ∀ i ∈ borsW es, i < δ.length) {kq : D → Dl → Prop} (q : ∀ Q2 : RS → List SD → Prop, (∀ d as', as'.length = es.length → BackW es as' δ (kq d) → Q2 (.dt d) as') → dsp (es.map (resW δ)) Q2) :
    CallOk es δ ∧ ∀ Q2 : RS → List SD → Prop, (∀ d as', as'.length = es.length → BackW es as' δ (kq d) → Q2 (.dt d) as') → (∀ x as', as'.length = es.length → BackW es as' δ (xk x) → Q2 (.exn x) as') → dsp (es.map (resW δ)) Q2 := ⟨⟨h1, h2⟩, fun Q2 h _ => q Q2 h⟩
theorem q_n {es : List Ev} (h1 : (borsW es).Nodup) (h2 : ∀ i ∈ borsW es, i < δ.length) {kq : List D → Dl → Prop} (q : ∀ Q2 : RS → List SD → Prop, (∀ xs as', as'.length = es.length → BackW es as' δ (kq xs) → Q2 (.new xs) as') → dsp (es.map (resW δ)) Q2) :
    CallOk es δ ∧ ∀ Q2 : RS → List SD → Prop, (∀ xs as', as'.length = es.length → BackW es as' δ (kq xs) → Q2 (.new xs) as') → (∀ x as', as'.length = es.length → BackW es as' δ (xk x) → Q2 (.exn x) as') → dsp (es.map (resW δ)) Q2 := ⟨⟨h1, h2⟩, fun Q2 h _ => q Q2 h⟩
theorem q_v {es : List Ev} (h1 : (borsW es).Nodup) (h2 : ∀ i ∈ borsW es, i < δ.length) {kq : RV → Lf → Dl → Prop} (q : ∀ Q2 : RS → List SD → Prop, (∀ a L as', as'.length = es.length → BackW es as' δ (kq (.rf a) L) → Q2 (.rg a L) as') → dsp (es.map (resW δ)) Q2) :
    CallOk es δ ∧ ∀ Q2 : RS → List SD → Prop, (∀ d as', as'.length = es.length → BackW es as' δ (kq (.dt d) []) → Q2 (.dt d) as') → (∀ a L as', as'.length = es.length → BackW es as' δ (kq (.rf a) L) → Q2 (.rg a L) as') → (∀ x as', as'.length = es.length → BackW es as' δ (xk x) → Q2 (.exn x) as') → dsp (es.map (resW δ)) Q2 := ⟨⟨h1, h2⟩, fun Q2 _ h _ => q Q2 h⟩
theorem q_mk {es : List Ev} (h1 : (borsW es).Nodup) (h2 : ∀ i ∈ borsW es, i < δ.length) {kq : RV → Lf → Dl → Prop} (q : ∀ (x dx : Addr) (Q2 : RS → List SD → Prop), (∀ L' as', as'.length = es.length → BackW es as' δ (kq (.rf x) L') → Q2 (.dt .none) (.ow x (OD.rg L') :: as')) → dsp (.ow x (OD.rg [(x, .ins cn dx [])]) :: es.map (resW δ)) Q2) :
    CallOk es δ ∧ ∀ (x dx : Addr) (Q2 : RS → List SD → Prop), (∀ L' as', as'.length = es.length → BackW es as' δ (kq (.rf x) L') → Q2 (.dt .none) (.ow x (OD.rg L') :: as')) →
  (∀ e s as', as'.length = es.length → BackW es as' δ (xk e) → Q2 (.exn e) (s :: as')) → dsp (.ow x (OD.rg [(x, .ins cn dx [])]) :: es.map (resW δ)) Q2 := ⟨⟨h1, h2⟩, fun x dx Q2 h _ => q x dx Q2 h⟩
theorem st_cQ (q : tw δ fun es δ' => CallOk es δ' ∧ ∀ Q2 : RS → List SD → Prop, (∀ d as', as'.length = es.length → BackW es as' δ' (Q d) → Q2 (.dt d) as') → (∀ x as', as'.length = es.length → BackW es as' δ' (xk x) → Q2 (.exn x) as') → dsp (es.map (resW δ')) Q2) : dCallQ xk dsp tw δ Q := q
theorem st_cN (q : tw δ fun es δ' => CallOk es δ' ∧ ∀ Q2 : RS → List SD → Prop, (∀ xs as', as'.length = es.length → BackW es as' δ' (Ql xs) → Q2 (.new xs) as') → (∀ x as', as'.length = es.length → BackW es as' δ' (xk x) → Q2 (.exn x) as') → dsp (es.map (resW δ')) Q2) : nCallQ xk dsp tw δ Ql := q
theorem st_cV (q : tw δ fun es δ' => CallOk es δ' ∧ ∀ Q2 : RS → List SD → Prop, (∀ d as', as'.length = es.length → BackW es as' δ' (Qv (.dt d) []) → Q2 (.dt d) as') → (∀ a L as', as'.length = es.length → BackW es as' δ' (Qv (.rf a) L) → Q2 (.rg a L) as') → (∀ x as', as'.length = es.length → BackW es as' δ' (xk x) → Q2 (.exn x) as') → dsp (es.map (resW δ')) Q2) : vCallQ xk dsp tw δ Qv := q
theorem st_mk (q : tw δ fun es δ' => CallOk es δ' ∧ ∀ (x dx : Addr) (Q2 : RS → List SD → Prop), (∀ L' as', as'.length = es.length → BackW es as' δ' (Qv (.rf x) L') → Q2 (.dt .none) (.ow x (OD.rg L') :: as')) →
  (∀ e s as', as'.length = es.length → BackW es as' δ' (xk e) → Q2 (.exn e) (s :: as')) → dsp (.ow x (OD.rg [(x, .ins cn dx [])]) :: es.map (resW δ')) Q2) : vMake cn xk dsp tw δ Qv := q
theorem st_view (q : tvs δ fun rs L δ' => ∃ ds, Views δ' L rs ds ∧ ∀ Q2 : RS → List SD → Prop, (∀ d as', as'.length = ds.length → scal d = true → Q d δ' → Q2 (.dt d) as') → dsp (ds.map .dt) Q2) : dView dsp tvs δ Q := q
theorem ex_fputB {dx : Addr} {fs : List (Str × RV)} (hl : Nat.ble (fs.length + 1) 1000 = true) (q : Put δ a (.ins cn dx fs) (.ins cn dx (putFr f r fs)) M Pd) : ∃ b dx fs, RV.rf a = .rf b ∧ fs.length < 1000 ∧ Put δ b (.ins cn dx fs) (.ins cn dx (putFr f r fs)) M Pd := ⟨a, dx, fs, rfl, Nat.le_of_ble_eq_true hl, q⟩
theorem ex_putB (hk : keyOf dj = some k) (hl : Nat.ble kvs.length 100000 = true) (q : Put δ a (.dk kvs) (.dk (EL.putR kvs k r)) M Pd) : ∃ b kvs key, RV.rf a = .rf b ∧ keyOf dj = some key ∧ kvs.length ≤ 100000 ∧ Put δ b (.dk kvs) (.dk (EL.putR kvs key r)) M Pd := ⟨a, kvs, k, rfl, hk, Nat.le_of_ble_eq_true hl, q⟩
theorem st_inA {neg : Bool} (q : t δ fun d δ' => ∃ xs, ((∃ p, δ'[i]? = some (.ow p (.lst xs))) ∨ δ'[i]? = some (.dt (.list xs)) ∨ δ'[i]? = some (.dt (.tuple xs))) ∧ d.depth ≤ 150 ∧ Q (.bool (neg ^^ xs.any fun z => PyData.eqv z d)) δ') : dInA neg i t δ Q := q
theorem st_neS {a b : Str} {Qd : D → Prop} (q : Qd (.bool (!decide (a = b)))) : neD (.str a) (.str b) Qd := ⟨by simp [PyData.depth], by
  have : PyData.eqv (.str a) (.str b) = decide (a = b) := by
    rw [PyData.eqv]
    by_cases h : a = b
    · subst h; simp
    · rw [decide_eq_false h]
      exact beq_eq_false_iff_ne.mpr h
  rw [this]
  exact q⟩
theorem forV_inv {a : Addr} {l : List RV} {δ : Dl} (I : Nat → Dl → Prop) (h0 : I 0 δ) (has : ∀ n δ', n ≤ l.length → I n δ' → ∃ rs : List RV, Has δ' a (.lst rs) ∧ rs.take (n + 1) = l.take (n + 1) ∧ rs.length = l.length) (step : ∀ (n : Nat) (x : RV) (δ' : Dl) (N : Dl → Prop), l[n]? = some x → I n δ' → (∀ δ'', I (n + 1) δ'' → N δ'') → i < δ'.length ∧ s { De with nx := N, ct := N, bk := De.nx } (δ'.set i (slotV x []))) (done : ∀ δ', I l.length δ' → De.nx δ') : sForVGo i a s De l 0 δ := by
  have key : ∀ (k : Nat) (m : List RV) (n : Nat) (δ' : Dl), m = l.drop n → m.length = k → n ≤ l.length → I n δ' → sForVGo i a s De m n δ' := by
    intro k
    induction k with
    | zero =>
      intro m n δ' hm hk hn hI
      have hm0 : m = [] := List.length_eq_zero_iff.mp hk
      subst hm0
      have hn2 : n = l.length := by
        have := congrArg List.length hm
        simp at this
        omega
      subst hn2
      obtain ⟨rs, h1, h2, h3⟩ := has _ _ (Nat.le_refl _) hI
      exact ⟨⟨rs, h1, by omega⟩, done _ hI⟩
    | succ k ih =>
      intro m n δ' hm hk hn hI
      cases m with
      | nil => simp at hk
      | cons x m =>
        have hlt : n < l.length := by
          have := congrArg List.length hm
          simp at this
          omega
        have hx : l[n]? = some x := by
          have := congrArg (fun z => z[0]?) hm
          simpa using this.symm
        obtain ⟨rs, h1, h2, h3⟩ := has _ _ hn hI
        have hm2 : m = l.drop (n + 1) := by
          have := congrArg List.tail hm
          simpa using this
        have hrx : rs[n]? = some x := by
          have e1 : (rs.take (n + 1))[n]? = (l.take (n + 1))[n]? := by rw [h2]
          rw [List.getElem?_take, List.getElem?_take, if_pos (by omega), if_pos (by omega)] at e1
          rw [e1, hx]
        obtain ⟨g1, g2⟩ := step n x δ' (sForVGo i a s De m (n + 1)) hx hI fun δ'' h => ih m (n + 1) δ'' hm2 (by simpa using hk) (by omega) h
        exact ⟨⟨rs, h1, hrx⟩, g1, g2⟩
  exact key l.length l 0 δ (by simp) rfl (Nat.zero_le _) h0
theorem st_forV {i : Nat} {tb : TDV} (q : tb δ fun rb _ δ1 => ∃ a l, rb = .rf a ∧ sForVGo i a s De l 0 δ1) : sForV i tb s De δ := q
end
end EL
namespace EL
open PySem PySem.Spec PyProof.Rows L2
section
variable {K : PySem.W.Frag} {B H0 H Hs : Hp} {σ : L2.St} {δ : Dl} {i : Nat} {p : Addr} {q : AP}
theorem Rep.toOneR (R : Rep K B H0 σ δ H Hs) (h : δ[i]? = some (.ow p (OD.one q))) : Rep K B H0 σ (δ.set i (.ow p (OD.rg [(p, .one q)]))) H Hs := by
  obtain ⟨o, e1, e2, e3, e4, e5, r, R1⟩ := R.takeA h
  have hh : Hid K B (upd B p o) H0 Hs [(p, .one q)] := Hid.one e4 e5 ⟨o, upd_same, r⟩ rfl
  have hi : i < (δ.set i .un).length := by rw [List.length_set]; exact lt_of_get h
  have R2 := R1.ownR (p := p) hh hi
  rw [set_self e1, List.set_set] at R2
  exact R2
theorem Rep.ofOneR (R : Rep K B H0 σ δ H Hs) (h : δ[i]? = some (.ow p (OD.rg [(p, .one q)]))) : Rep K B H0 σ (δ.set i (.ow p (OD.one q))) H Hs := by
  obtain ⟨B', R1, hh, e1⟩ := R.takeR h
  obtain ⟨u, hu, hq⟩ := hh.rg.at_ (p, .one q) (List.mem_singleton.mpr rfl)
  obtain ⟨n1, n2⟩ := hh.nw p (mem_addrsL.mpr ⟨(p, .one q), List.mem_singleton.mpr rfl, by simp [obA]⟩)
  have eB : B' = upd B p u := funext fun b => by
    by_cases hb : b = p
    · subst hb
      rw [upd_same]
      exact hu
    · rw [upd_ne hb]
      cases hB : B' b with
      | none => rw [hh.ex.none hB]
      | some o =>
        rcases hh.on b (by rw [hB]; exact fun z => nomatch z) with z | z
        · cases hB2 : B b with
          | none => exact absurd hB2 z
          | some o2 =>
            have := hh.ex b o2 hB2
            rw [hB] at this
            exact this
        · obtain ⟨x, hx, hbx⟩ := mem_addrsL.mp z
          rw [List.mem_singleton] at hx
          subst hx
          simp [obA] at hbx
          exact absurd hbx hb
  subst eB
  have R2 := R1.ownA (a := q) n1 n2 hq (i := i) (by rw [List.length_set]; exact lt_of_get h)
  rw [set_self e1, List.set_set] at R2
  exact R2
end
def sOne (i : Nat) (s : TDS) : TDS := fun De δ => (∃ p q, δ[i]? = some (.ow p (OD.one q)) ∧ s De δ) ∨ ∃ p q, δ[i]? = some (.ow p (OD.rg [(p, .one q)])) ∧ s De (δ.set i (.ow p (OD.one q)))
theorem js_one1 {X : Cy} {sts : List Stmt} {w : TS} {s : TDS} (i : Nat) (h : JSs X sts w s) : JSs X sts w (sOne i s) := ⟨h.p, fun R q k => by
  rcases q with ⟨p, q, hs, z⟩ | ⟨p, q, hs, z⟩
  · exact h.s R z k
  · exact h.s (R.ofOneR hs) z k⟩
theorem st_oneA {i : Nat} {s : TDS} {De : DEnds} {δ : Dl} {p : Addr} {q : AP} (h : δ[i]? = some (.ow p (OD.one q))) (z : s De δ) : sOne i s De δ := .inl ⟨p, q, h, z⟩
theorem st_oneB {i : Nat} {s : TDS} {De : DEnds} {δ : Dl} {p : Addr} {q : AP} (h : δ[i]? = some (.ow p (OD.rg [(p, .one q)]))) (z : s De (δ.set i (.ow p (OD.one q)))) : sOne i s De δ := .inr ⟨p, q, h, z⟩
section
variable {X : Cy} {pos : Pos} {P : Program} {w : World}
def vDictN (P : Program) (w : World) : TDV := fun δ Q => ∀ p, Q (.rf p) [(p, .one (apN P w p []))] δ
theorem jv_dictN (hP : X.prog = P := by rfl) (hw : X.w = w := by rfl) : JV X (.Dict [] [] pos) (tDNewN P w) (vDictN P w) := by
  subst hP hw
  exact ⟨pe_dnewN, fun R q k p ep hp =>
    k _ (.rf p) _ _ _ _ _ (R.hide hp) (Hid.one (o := .one (apN X.prog X.w p [])) (R.base.none hp) (R.frz.none (R.ex.none hp)) ⟨_, upd_same, [], ⟨ep, rfl⟩, .nil⟩ rfl) (Ex.refl _) rfl (q p)⟩
def vMvO (i : Nat) : TDV := fun δ Q => ∃ p q, δ[i]? = some (.ow p (OD.one q)) ∧ Q (.rf p) [(p, .one q)] (δ.set i .un)
theorem jv_mvO (i : Nat) {x : Str} (hN : X.N[i]? = some x := by rfl) (hv : Vis X.env.scope x := by first | exact Or.inl rfl | exact Or.inr (Or.inl rfl) | exact Or.inr (Or.inr rfl)) (hd : (x == ("__debug__" : Str)) = false := by decide)
    (hcd : (x == ("__classdict__" : Str)) = false := by decide) : JV X (.Name x pos) (tVar i) (vMvO i) :=
  ⟨pe_var hN hv hd hcd, fun R ⟨p, q, h, z⟩ k => by
    obtain ⟨o, e, hp, h1, h2, h3, ha, R1⟩ := R.takeA h
    exact ⟨.ref p, e, k _ (.rf p) _ _ _ _ _ R1 (Hid.one (o := .one q) h2 h3 ⟨o, upd_same, ha⟩ rfl) (Ex.refl _) rfl z⟩⟩
end
end EL
namespace EL
open PySem PySem.Spec PyProof.Rows L2
inductive PsV (K : PySem.W.Frag) (H : Hp) : List V → List (NestedKey × Addr × V) → Prop
  | nil : PsV K H [] []
  | cons {t b : Addr} {k : NestedKey} {v : V} {vs : List V} {ps : List (NestedKey × Addr × V)} : SqT K H t [.ref b, v] → KeyA K H k b → PsV K H vs ps → PsV K H (.ref t :: vs) ((k, b, v) :: ps)
inductive PsU : List (NestedKey × Addr × V) → NEs → Prop
  | nil : PsU [] []
  | cons {b : Addr} {k : NestedKey} {v : V} {u : Value} {ps : List (NestedKey × Addr × V)} {xs : NEs} : RelV v u → PsU ps xs → PsU ((k, b, v) :: ps) ((k, b, u) :: xs)
abbrev prU (xs : NEs) : List (Value × Value) := xs.map fun x => (Value.ref x.2.1, x.2.2)
section
variable {X : Cx} {pins : List (Addr × Obj)} {σ : L2.St} {H : Hp} {s : Shared}
theorem pairs_items (I : Inv X pins σ H s) : ∀ {vs : List V} {ps : List (NestedKey × Addr × V)} {us : List Value}, PsV X.K H vs ps → Vals vs us → ∃ (xs : NEs) (Ts : List Addr), PsU ps xs ∧ Ts.length = xs.length ∧ us = Ts.map .ref ∧
    (∀ j k v, (prU xs)[j]? = some (k, v) → us[j]? = some (.ref (Ts.getD j 0)) ∧ PairAt s.heap (Ts.getD j 0) k v) ∧ ∀ x ∈ xs, KeyA X.K H x.1 x.2.1
  | _, _, _, .nil, .nil => ⟨[], [], .nil, rfl, rfl, fun j k v h => by simp at h, fun x hx => by simp at hx⟩
  | _, _, _, .cons (t := t) (b := b) (k := k) (v := v) h1 h2 h3, .cons (b := u0) r1 r2 => by
    obtain ⟨xs, Ts, g1, g3, g4, g5, g6⟩ := pairs_items I h3 r2
    obtain ⟨its, rv, p, _⟩ := I.tuple h1
    obtain ⟨u1, u, rfl, q1, q2⟩ := rv.two
    obtain rfl : u1 = Value.ref b := q1
    obtain rfl : u0 = Value.ref t := r1
    refine ⟨(k, b, u) :: xs, t :: Ts, .cons q2 g1, by simp [g3], by rw [g4]; rfl, fun j k' v' h => ?_, fun x hx => ?_⟩
    · cases j with
      | zero =>
        simp [prU] at h
        obtain ⟨rfl, rfl⟩ := h
        exact ⟨rfl, .inl p⟩
      | succ j => exact g5 j k' v' (by simpa [prU] using h)
    · rcases List.mem_cons.mp hx with rfl | hx
      · exact h2
      · exact g6 x hx
end
def rDictOf (K : PySem.W.Frag) (P : Program) (w : World) : List V → Hp → VK → Prop := fun vs H Q => ∃ a ws ps, vs = [.ref a] ∧ SqL K H a ws ∧ PsV K H ws ps ∧ ws.length ≤ 100000 ∧ ∀ d xs ep, H d = none → PsU ps xs → Q (.ref d) (upd H d (DNo P w d (storedAllH [] xs) ep))
theorem PsU.len {ps : List (NestedKey × Addr × V)} {xs : NEs} (h : PsU ps xs) : ps.length = xs.length := by
  induction h with
  | nil => rfl
  | cons _ _ ih => exact congrArg (· + 1) ih
theorem PsV.len {K : PySem.W.Frag} {H : Hp} {vs : List V} {ps : List (NestedKey × Addr × V)} (h : PsV K H vs ps) : vs.length = ps.length := by
  induction h with
  | nil => rfl
  | cons _ _ _ ih => exact congrArg (· + 1) ih
theorem storedH_len (xs : NEs) (k : NestedKey) (a : Addr) (v : Value) : (storedH xs k a v).length ≤ xs.length + 1 := by
  unfold storedH
  split
  · rw [List.length_map]
    omega
  · rw [List.length_append, List.length_singleton]
    exact Nat.le_refl _
theorem storedAllH_len : ∀ (ps xs : NEs), (storedAllH xs ps).length ≤ xs.length + ps.length
  | [], xs => Nat.le_refl _
  | p :: ps, xs => by
    have := storedAllH_len ps (storedH xs p.1 p.2.1 p.2.2)
    have h2 := storedH_len xs p.1 p.2.1 p.2.2
    show (storedAllH (storedH xs p.1 p.2.1 p.2.2) ps).length ≤ _
    rw [List.length_cons]
    omega
section
variable {X : Cx}
theorem cr_dictOf (hc : X.calm = true) (hu : X.A.units + 200 < cLine) : CallR X (.type "dict") (rDictOf X.K X.prog X.w) := by
  intro pins s σ H vs us Q I r ⟨a, ws, ps, ev, hq, hps, hlen, q⟩
  subst ev
  obtain rfl := Vals.ref1 r
  obtain ⟨its, rv, pl, hz⟩ := I.list hq
  obtain ⟨xs, Ts, h1, h3, h4, h5, h6⟩ := pairs_items I hps rv
  have hxl : xs.length ≤ 100000 := by
    rw [← h1.len, ← hps.len]
    exact hlen
  have hil : its.length = xs.length := by
    rw [h4, List.length_map, h3]
  refine call_dict_pairsH (knd := nestedKind X.prog X.w) (ps := xs) (PairArg.list a its.toArray (fun j => Ts.getD j 0) (prU xs)) (I.ok.hd hc) ?_ ⟨pl, by simp [prU, hil], fun j k v e => ?_⟩ ⟨by simp [prU], fun i key v e => ?_⟩ (fun h' hk x hx => ?_) (by rw [List.length_map]; exact Nat.le_of_lt (lt_line hxl)) fun h' tk hd hk => ?_
  · show X.A.in1.in1.units + 8 < cLine
    simp only [Around.in1_units]
    omega
  · obtain ⟨e1, e2⟩ := h5 j k v e
    exact ⟨by simpa using e1, e2⟩
  · have e2 : (prU xs)[i]? = some (key, v) := e
    rw [List.getElem?_map] at e2
    cases e3 : xs[i]? with
    | none =>
      rw [e3] at e2
      cases e2
    | some x =>
      rw [e3] at e2
      cases e2
      exact ⟨x.1, x.2.1, rfl, rfl⟩
  · exact nestedKind_stays.all h' (fun b o _ e => hk b o (Nat.ne_of_lt (Heap.lt_size e)) (by simp) e) _ _ (keyA_is I (h6 x hx))
  · have hl2 := storedAllH_len xs []
    obtain ⟨ep, ok⟩ := dn_ok hd (beq_eq_false_iff_ne.mpr (Ne.symm (Nat.ne_of_lt I.big))) (Nat.le_trans hl2 (by rw [List.length_nil, Nat.zero_add]; exact Nat.le_of_lt (lt_line hxl)))
    exact ⟨.ref s.heap.objs.size, _, I.laid (a := s.heap.objs.size) (o := DNo X.prog X.w s.heap.objs.size (storedAllH [] xs) ep) (t' := tk) (fun b o e => hk b o (by simp) e) (Nat.le_refl _) (ok _), rfl, q _ xs ep (I.hok.fresh (Nat.le_refl _)) h1⟩
end
def mergeN (kvs : List (D × D)) : List (D × D) := kvs.foldl (fun acc kv => match nkOf kv.1 with | some k => putN acc kv.1 k kv.2 | none => acc) []
theorem ENs.merge {K : PySem.W.Frag} {Hs : Hp} : ∀ {xs : NEs} {kvs : List (D × D)} {ys : NEs} {acc : List (D × D)}, ENs K Hs ys acc → ENs K Hs xs kvs → ENs K Hs (storedAllH ys xs) (kvs.foldl (fun acc kv => match nkOf kv.1 with | some k => putN acc kv.1 k kv.2 | none => acc) acc)
  | _, _, _, _, h, .nil => h
  | _, _, ys, acc, h, .cons (k := k) (b := b) (u := u) (v := v) (kd := kd) (vd := vd) (xs := xs) (kvs := kvs) h1 h2 h3 h4 h5 t => by
    have h6 : ENs K Hs (storedH ys k b u) (putN acc kd k vd) := h.put h1 h2 h3 h4 h5
    have h7 := ENs.merge h6 t
    rw [List.foldl_cons]
    simp only [h1]
    exact h7
abbrev pairT (kv : D × D) : D := .tuple [kv.1, kv.2]
theorem pairs_of {K : PySem.W.Frag} {Hs H : Hp} (e : Ex Hs H) : ∀ {kvs : List (D × D)} {vs : List V}, DpAll K Hs vs (kvs.map pairT) → (∀ kv ∈ kvs, ∃ k, KeyD kv.1 k) → ∃ ps, PsV K H vs ps ∧ ∀ xs, PsU ps xs → ENs K Hs xs kvs
  | [], _, h, _ => by
    cases h
    exact ⟨[], .nil, fun xs h => by cases h; exact .nil⟩
  | (kd, d) :: kvs, _, h, hk => by
    cases h with
    | cons r t =>
      obtain ⟨ps, g1, g2⟩ := pairs_of e t fun kv hkv => hk kv (List.mem_cons_of_mem _ hkv)
      cases r with
      | @tup a vs _ hs ha =>
        cases ha with
        | cons r1 ha =>
          cases ha with
          | cons r2 ha =>
            cases ha
            obtain ⟨k, hk1⟩ := hk (kd, d) List.mem_cons_self
            obtain ⟨b, rfl, ka⟩ := keyD_a (dp_mono e r1) hk1
            exact ⟨_, .cons (e.st hs) ka g1, fun xs hx => by
              cases hx with
              | cons q1 q2 => exact .cons hk1.1 hk1.2.1 r1 q1 r2 (g2 _ q2)⟩
section
variable {X : Cy} {e : Expr} {pos p : Pos} {t : TDE} {ue : TE} {P : Program} {w : World}
def vDictOf (P : Program) (w : World) (t : TDE) : TDV := fun δ Q => t δ fun d δ' => ∃ kvs, d = .list (kvs.map pairT) ∧ (∀ kv ∈ kvs, ∃ k, KeyD kv.1 k) ∧ kvs.length ≤ 100000 ∧ ∀ p, Q (.rf p) [(p, .one (apN P w p (mergeN kvs)))] δ'
theorem jv_dictOf (hu : X.A.units + 200 < cLine) (hg : Gl X "dict") (hm : X.mg "dict" = none) (he : JE X e ue t) (hc : X.calm = true := by rfl) (hP : X.prog = P := by rfl) (hw : X.w = w := by rfl)
    (hs : starEach [e] X.env = (false, eval e X.env) :: starEach [] X.env := by rfl) (hpl : (backTo pos (starEach [] X.env)).any (·.1) = false := by rfl) : JV X (.Call (.Name "dict" p) [e] [] pos) (tCB (rDictOf X.K P w) (tCons ue tNil)) (vDictOf P w t) := by
  subst hP hw
  refine ⟨pe_callTy (cr_dictOf hc hu) hg hm rfl (pa_cons he.p pa_nil hs) (by decide) (by decide) hs hpl, fun R q k => he.s R q fun v d δ1 H1 Hs1 R1 x1 r1 ⟨kvs, ed, hk, hl, q1⟩ => ?_⟩
  subst ed
  cases r1 with
  | @lst a vs _ hs1 ha =>
    obtain ⟨ps, g1, g2⟩ := pairs_of R1.ex ha hk
    refine ⟨a, vs, ps, rfl, R1.ex.sl hs1, g1, by rw [dpAll_len ha, List.length_map]; exact hl, fun dd xs ep hd hx => ?_⟩
    exact k _ (.rf dd) _ _ _ _ _ (R1.hide hd) (Hid.one (o := .one (apN X.prog X.w dd (mergeN kvs))) (R1.base.none hd) (R1.frz.none (R1.ex.none hd)) ⟨_, upd_same, _, ⟨ep, rfl⟩, ENs.merge .nil (g2 xs hx)⟩ rfl) x1 rfl (q1 dd)
end
end EL
namespace EL
open PySem PySem.Spec PyProof.Rows L2
def OD.dnF (P : Program) (w : World) (p : Addr) (kvs : List (D × D)) : OD where
  rep := fun K Hs H a fp => (∀ b, ¬ fp b) ∧ ∃ xs ep, Hs p = some (DNo P w p xs ep) ∧ ENs K Hs xs kvs
  nt := fun ⟨h, _⟩ b xs hb => absurd hb (h b)
  mono := fun ⟨h, xs, ep, h1, h2⟩ e k => ⟨h, xs, ep, e _ _ h1, h2.mono e⟩
section
variable {K : PySem.W.Frag} {B H0 H Hs : Hp} {σ : L2.St} {δ : Dl} {i : Nat} {p : Addr} {kvs : List (D × D)} {P : Program} {w : World}
theorem own_nF (R : Rep K B H0 σ δ H Hs) (h : δ[i]? = some (.ow p (OD.dnF P w p kvs))) : ∃ xs, σ[i]? = some (some (.ref p)) ∧ RdN K P w H p xs ∧ ENs K Hs xs kvs ∧ ∃ ep, Hs p = some (DNo P w p xs ep) := by
  obtain ⟨fps, F⟩ := R.sl
  obtain ⟨x, e, r⟩ := F.sl i _ h
  cases x with
  | none => exact r.elim
  | some v =>
    obtain ⟨⟨rfl, _, xs, ep, h1, h2⟩, _⟩ := r
    exact ⟨xs, e, ⟨⟨ep, R.ex _ _ h1⟩, h2.keys R.ex⟩, h2, ep, h1⟩
theorem Rep.freezeN (R : Rep K B H0 σ δ H Hs) (h : δ[i]? = some (.ow p (OD.dn P w p kvs))) : ∃ Hs', Ex Hs Hs' ∧ Rep K B H0 σ (δ.set i (.ow p (OD.dnF P w p kvs))) H Hs' := by
  obtain ⟨o, e1, e2, e3, e4, e5, ⟨xs, ⟨ep, eo⟩, hk⟩, R1⟩ := R.takeA h
  subst eo
  have x := R1.freeze_ex e5 (fun ys z => by cases z)
  have R2 := R1.freeze e4
  obtain ⟨fps, F⟩ := R2.sl
  have R3 := R2.setO F (p := p) (o := OD.dnF P w p kvs) (i := i) (fp := fun _ => False) ⟨fun b hb => hb, xs, ep, upd_same, hk.mono x⟩ (fun b hb => hb.elim) (fun j b hj hb e => e.elim) (by rw [List.length_set]; exact lt_of_get h)
  rw [set_self e1, List.set_set] at R3
  exact ⟨_, x, R3⟩
end
def sFrzN (P : Program) (w : World) (i : Nat) (s : TDS) : TDS := fun De δ => ∃ p kvs, (δ[i]? = some (.ow p (OD.dn P w p kvs)) ∧ s De (δ.set i (.ow p (OD.dnF P w p kvs)))) ∨ (δ[i]? = some (.ow p (OD.dnF P w p kvs)) ∧ s De δ) ∨
  (δ[i]? = some (.ow p (OD.rg [(p, .one (apN P w p kvs))])) ∧ s De (δ.set i (.ow p (OD.dnF P w p kvs))))
theorem js_frzN {X : Cy} {sts : List Stmt} {u : TS} {s : TDS} {P : Program} {w : World} (i : Nat) (h : JSs X sts u s) : JSs X sts u (sFrzN P w i s) := ⟨h.p, fun R q k => by
  obtain ⟨p, kvs, ⟨e, q⟩ | ⟨e, q⟩ | ⟨e, q⟩⟩ := q
  · obtain ⟨Hs', x, R1⟩ := R.freezeN e
    exact h.s R1 q (k.mono x)
  · exact h.s R q k
  · obtain ⟨Hs', x, R1⟩ := (R.ofOneR e).freezeN (List.getElem?_set_self (lt_of_get e))
    rw [List.set_set] at R1
    exact h.s R1 q (k.mono x)⟩
section
variable {X : Cy} {e j x0 : Expr} {es : List Expr} {pos pos' : Pos} {t tj : TDE} {ue uj : TE} {P : Program} {w : World}
def dIxF (P : Program) (w : World) (i : Nat) (tj : TDE) : TDE := fun δ Q => (∃ p o, δ[i]? = some (.ow p o)) ∧ tj δ fun d δ' => ∃ p kvs k z, δ'[i]? = some (.ow p (OD.dnF P w p kvs)) ∧ KeyD d k ∧ getN kvs k = some z ∧ Q z δ'
theorem je_ixF {x : Str} {p1 : Pos} (hu : X.A.units + 200 < cLine) (i : Nat) (hj : JE X j uj tj) (hP : X.prog = P := by rfl) (hw : X.w = w := by rfl) (hN : X.N[i]? = some x := by rfl) (hv : Vis X.env.scope x := by first | exact Or.inl rfl | exact Or.inr (Or.inl rfl) | exact Or.inr (Or.inr rfl)) (hd : (x == ("__debug__" : Str)) = false := by decide)
    (hcd : (x == ("__classdict__" : Str)) = false := by decide) (hs : NoSl j := by first | exact nosl _ | exact fun _ _ => rfl) : JE X (.Subscript (.Name x p1) j pos) (tIxN X.K P w (tVar i) uj) (dIxF P w i tj) := by
  subst hP hw
  refine ⟨pe_ixN hu (pe_var hN hv hd hcd) hj.p hs, fun R ⟨⟨p, o, ex⟩, q⟩ k => ⟨_, R.ref ex, hj.s R q fun v d δ' H' Hs' R1 x1 r ⟨p', kvs, key, z, ey, hk, hz, q1⟩ => ?_⟩⟩
  obtain ⟨xs, e2, hr, he, _⟩ := own_nF R1 ey
  have e1 := R.ref ex
  rw [e1] at e2
  cases e2
  obtain ⟨b, rfl, ka⟩ := keyD_a (dp_mono R1.ex r) hk
  obtain ⟨c, u, v', h1, h2, h3⟩ := he.get.1 z hz
  exact ⟨b, p, xs, key, c, u, v', rfl, rfl, hr, ka, h1, h2, k _ _ _ _ _ R1 x1 h3 q1⟩
def dInF (P : Program) (w : World) (neg : Bool) (i : Nat) (tj : TDE) : TDE := fun δ Q => tj δ fun d δ' => ∃ p kvs k, δ'[i]? = some (.ow p (OD.dnF P w p kvs)) ∧ KeyD d k ∧ Q (.bool (neg ^^ (getN kvs k).isSome)) δ'
theorem sim_inF {neg : Bool} {i : Nat} (hj : SimE X.z uj tj) : SimE X.z (tOp (rInN X.K P w neg) uj (tVar i)) (dInF P w neg i tj) := fun R q k => hj R q fun v d δ' H' Hs' R1 x1 r ⟨p, kvs, key, ey, hk, q1⟩ => by
  obtain ⟨xs, e2, hr, hes, _⟩ := own_nF R1 ey
  obtain ⟨b, rfl, ka⟩ := keyD_a (dp_mono R1.ex r) hk
  refine ⟨_, e2, b, p, xs, key, rfl, rfl, hr, ka, ?_⟩
  rw [hes.isSome]
  exact k _ _ _ _ _ R1 x1 (.bl _) q1
theorem jt_inF {x : Str} {p1 : Pos} (hu : X.A.units + 200 < cLine) (i : Nat) (hj : JE X j uj tj) (hP : X.prog = P := by rfl) (hw : X.w = w := by rfl) (hN : X.N[i]? = some x := by rfl) (hv : Vis X.env.scope x := by first | exact Or.inl rfl | exact Or.inr (Or.inl rfl) | exact Or.inr (Or.inr rfl)) (hd : (x == ("__debug__" : Str)) = false := by decide)
    (hcd : (x == ("__classdict__" : Str)) = false := by decide) (hm : behindInMarks .In (.Name x p1) = false := by with_unfolding_all rfl) : JT X (.Compare j [.In] [.Name x p1] pos) (tTest (tOp (rInN X.K P w false) uj (tVar i))) (dTest (dInF P w false i tj)) := by
  subst hP hw
  exact ⟨pt_cmpR (op_inN hu) hj.p (pe_var hN hv hd hcd) hm, sim_test (sim_inF hj.s)⟩
end
end EL
namespace EL
open PySem PySem.Spec PyProof.Rows L2
def ItN (P : Program) (w : World) (d : Addr) (xs : NEs) (ep : Nat) : It :=
  ⟨fun i H => H d = some (DNo P w d xs ep) ∧ i < xs.length, fun i H v H' => H' = H ∧ ∃ x, xs[i]? = some x ∧ v = .ref x.2.1, fun i H => H d = some (DNo P w d xs ep) ∧ xs.length ≤ i⟩
theorem dn_raw {X : Cx} {pins : List (Addr × Obj)} {σ : L2.St} {H : Hp} {s : Shared} {d : Addr} {xs : NEs} {ep : Nat} (I : Inv X pins σ H s) (e : H d = some (DNo X.prog X.w d xs ep)) : ∃ es, s.heap.DictRaw d es ep ∧ es.toList = xs.map (entryOfKey (nestedKind X.prog X.w)) ∧ (d == sysModules) = false := by
  have z : ObjOk X.prog X.w H s.heap d (DNo X.prog X.w d xs ep) := I.hok d _ e
  obtain ⟨⟨o, es, h1, h2, h3, h4, h5, h6, h7⟩, _, _⟩ := z
  exact ⟨es, ⟨o, h1, h2, h3⟩, h4, h6⟩
theorem size_of {es : Array DictEntry} {xs : NEs} {f : NestedKey × Addr × Value → DictEntry} (h : es.toList = xs.map f) : es.size = xs.length := by
  rw [← Array.length_toList, h, List.length_map]
theorem turn_dn {P : Program} {w : World} {K : PySem.W.Frag} {tg : Expr} (d it : Addr) (xs : NEs) (ep : Nat) : Turn P w K tg (ItN P w d xs ep) [it] it (fun i h => h.IsKeyIter it d i xs.length ep) where
  mem := by simp
  obj := fun i h st b hb => by
    have e : b = it := by simpa using hb
    subst e
    obtain ⟨o, e, c, d⟩ := st
    exact ⟨o, e, fun v z => by rw [d] at z; cases z⟩
  keep := fun i h h' ⟨o, e, r⟩ k => ⟨o, k it (by simp) o e, r⟩
  item := by
    intro X hP hw hK hc i pins s σ H E I hf st ⟨hg, hi⟩
    subst hP hw hK
    obtain ⟨es, hraw, hes, hsm⟩ := dn_raw I hg
    have hsz := size_of hes
    obtain ⟨f0, f1, f2, f3, f4, f5⟩ := hf it (by simp)
    have st0 : s.heap.IsKeyIter it d i es.size ep := by rw [hsz]; exact st
    have hlt : i < es.size := by rw [hsz]; exact hi
    refine wpAny_pyNext_keys_item_raw st0 hraw hlt fun h' st' sb => ?_
    have I1 : Inv X pins σ H { s with heap := h' } := I.turned (t' := s.toks) (fun b o hb e => (sb.2 b hb).trans e) f0 f1 f3 f4 f5
    obtain ⟨o, e, c, dd⟩ := id st'
    have ex : xs[i]? = some xs[i] := List.getElem?_eq_getElem hi
    have ek : es[i].key = .ref xs[i].2.1 := by
      have h1 : es.toList[i]? = some es[i] := by simp
      rw [hes, List.getElem?_map, ex] at h1
      rw [← Option.some.inj h1]
      rfl
    rw [ek]
    exact ⟨_, rfl, go_of (s := { s with heap := h' }) e c dd (by decide) ⟨.ref xs[i].2.1, H, I1, rfl, ⟨rfl, _, ex, rfl⟩, by rw [hsz] at st'; exact st', fun b hb => (hf b hb).1⟩⟩
  done := by
    intro X hP hw hK hc i pins s σ H E I hf st ⟨hg, hi⟩
    subst hP hw hK
    obtain ⟨es, hraw, hes, hsm⟩ := dn_raw I hg
    have hsz := size_of hes
    obtain ⟨f0, f1, f2, f3, f4, f5⟩ := hf it (by simp)
    have st0 : s.heap.IsKeyIter it d i es.size ep := by rw [hsz]; exact st
    exact wpAny_pyNext_keys_end_raw (I.ok.hd hc) st0 hraw (by rw [hsz]; exact hi) fun h' eb => ⟨rfl, I.turned (t' := s.toks) (fun b o hb e => eb b o hb e) f0 f1 f3 f4 f5⟩
  self := fun _ _ _ _ _ st h => wpAny_pyIter_keyiter st h
def iDn (P : Program) (w : World) (tl : TE) : TI := fun σ H R => tl σ H fun x H1 => ∃ d xs ep, x = .ref d ∧ H1 d = some (DNo P w d xs ep) ∧ R (ItN P w d xs ep) H1
theorem pi_dn {X : Cx} {tg l : Expr} {tl : TE} (hl : PE X l tl) : PI X tg l (iDn X.prog X.w tl) := by
  refine ⟨fun pins s σ H R I h => ?_⟩
  refine thn (hl.run pins s σ H _ I h) fun v s1 ⟨x, H1, I1, r1, q1⟩ => ?_
  obtain ⟨d, xs, ep, e, hd, q⟩ := q1
  subst e
  obtain rfl : v = Value.ref d := r1
  obtain ⟨es, hraw, hes, hsm⟩ := dn_raw I1 hd
  have hsz := size_of hes
  refine wpAny_pyIter_dict_raw hsm hraw ?_
  rw [hsz]
  refine ⟨s1.heap.objs.size, [s1.heap.objs.size], _, _, H1, rfl, I1.kept (t' := s1.toks) fun b o e => Heap.get?_push_of_some _ e, turn_dn d _ xs ep, ⟨_, Heap.get?_push_size _ rfl, rfl, rfl⟩, fun b hb => ?_, q⟩
  have e : b = s1.heap.objs.size := by simpa using hb
  subst e
  exact I1.fpOk (Nat.le_refl _) (I1.hok.fresh (Nat.le_refl _))
def iDnF (P : Program) (w : World) (i : Nat) : TDI := fun δ Q => ∃ p kvs, δ[i]? = some (.ow p (OD.dnF P w p kvs)) ∧ Q (kvs.map (·.1)) δ
theorem ENs.key {K : PySem.W.Frag} {Hs : Hp} : ∀ {xs : NEs} {kvs : List (D × D)}, ENs K Hs xs kvs → ∀ (i : Nat) (d : D), (kvs.map (·.1))[i]? = some d → ∃ x, xs[i]? = some x ∧ Dp K Hs (.ref x.2.1) d
  | _, _, .nil, i, d, h => by simp at h
  | _, _, .cons (k := k) (b := b) (u := u) h1 h2 h3 h4 h5 t, 0, d, h => by
    simp at h
    subst h
    exact ⟨_, rfl, h3⟩
  | _, _, .cons h1 h2 h3 h4 h5 t, i + 1, d, h => by
    obtain ⟨x, e, r⟩ := ENs.key t i d (by simpa using h)
    exact ⟨x, by simpa using e, r⟩
theorem it_dn {K : PySem.W.Frag} {Hs : Hp} {P : Program} {w : World} {d : Addr} {xs : NEs} {ep : Nat} {kvs : List (D × D)} (h : Hs d = some (DNo P w d xs ep)) (he : ENs K Hs xs kvs) : ItOk K (ItN P w d xs ep) (kvs.map (·.1)) Hs := fun i H Hs1 e1 e2 =>
  ⟨fun hi => ⟨e2 _ _ (e1 _ _ h), by rw [he.len]; simpa using hi⟩, fun dd hd => by
    obtain ⟨x, hx, r⟩ := he.key i dd hd
    refine ⟨⟨e2 _ _ (e1 _ _ h), lt_of_get hx⟩, fun v H' ⟨e, y, hy, ev⟩ => ?_⟩
    subst e ev
    rw [hx] at hy
    cases hy
    exact ⟨Hs1, PExt.refl e2, dp_mono e1 r⟩⟩
theorem ji_dnF {X : Cy} {tg : Expr} {pos : Pos} {P : Program} {w : World} (i : Nat) {x : Str} (hP : X.prog = P := by rfl) (hw : X.w = w := by rfl) (hN : X.N[i]? = some x := by rfl) (hv : Vis X.env.scope x := by first | exact Or.inl rfl | exact Or.inr (Or.inl rfl) | exact Or.inr (Or.inr rfl)) (hd : (x == ("__debug__" : Str)) = false := by decide)
    (hcd : (x == ("__classdict__" : Str)) = false := by decide) : JI X tg (.Name x pos) (iDn P w (tVar i)) (iDnF P w i) := by
  subst hP hw
  exact ⟨pi_dn (pe_var hN hv hd hcd), fun R ⟨p, kvs, e, q⟩ k => by
    obtain ⟨xs, e1, hr, he, ep, hs⟩ := own_nF R e
    exact ⟨_, e1, p, xs, ep, rfl, R.ex _ _ hs, k _ _ _ _ _ R (Ex.refl _) (it_dn hs he) q⟩⟩
end EL
namespace EL
open PySem PySem.Spec PyProof.Rows L2
section
variable {X : Cy} {c a b : Expr} {pos : Pos} {vt : TT} {tc : TDB} {ta tb : TDL} {ua ub : TE}
def nIf (t : TDB) (u w : TDL) : TDL := fun δ Q => t δ fun c δ1 => if c = true then u δ1 Q else w δ1 Q
theorem jn_ifExp (hc : JT X c vt tc) (ha : JN X a ua ta) (hb : JN X b ub tb) : JN X (.IfExp c a b pos) (tIf vt ua ub) (nIf tc ta tb) := by
  refine ⟨pe_ifExp hc.p ha.p hb.p, fun R h k => hc.s R h fun c δ1 H1 Hs1 R1 e1 q => ?_⟩
  cases c with
  | true =>
    rw [if_pos rfl] at q ⊢
    exact ha.s R1 q fun p vs xs δ2 H2 Hs2 R2 hB h0 e2 r2 q2 => k _ _ _ _ _ _ R2 hB h0 (e1.trans e2) r2 q2
  | false =>
    rw [if_neg Bool.false_ne_true] at q ⊢
    exact hb.s R1 q fun p vs xs δ2 H2 Hs2 R2 hB h0 e2 r2 q2 => k _ _ _ _ _ _ R2 hB h0 (e1.trans e2) r2 q2
end
end EL
namespace EL
open PySem PySem.Spec PyProof.Rows L2
section
variable {prog : Program} {w : World} {A : Around} {E : Value → Shared → Prop} {s : Shared}
theorem nolen_lri : typeLookup (.type "list_reverseiterator") "__len__" = pure none := by rw [typeLookup_type, builtinLookup_eq_fast]; kernel_rfl
theorem hint_lri : typeLookup (.type "list_reverseiterator") "__length_hint__" = pure (some (.builtin "list_reverseiterator.__length_hint__")) := by rw [typeLookup_type, builtinLookup_eq_fast]; kernel_rfl
theorem hint_rev {I : Addr} {Q : Bool → Shared → Prop} (hT : s.TypeIs (.ref I) "list_reverseiterator") (q : Q false s) : wpAny (model prog w) A (Builtin.List.listLengthHint (.ref I)) Q E s := by
  unfold Builtin.List.listLengthHint
  refine wpAny_bind (wpAny_specialOf hT nolen_lri ?_)
  show wpAny _ A (specialOf (Value.ref I) (Str.ofString "__length_hint__") >>= _) _ _ _
  refine wpAny_bind (wpAny_specialOf hT hint_lri ?_)
  (generalize hid : ("list_reverseiterator.__length_hint__" : String) = id0; (fail_if_success (clear hid id0)); wp_delta; rw [show splitId id0 = some ("list_reverseiterator", "__length_hint__") from by subst hid; decide +kernel]; subst hid)
  refine wpAny_bind (wpAny_isInstance (b := true) hT (by rw [isSubtype_type]; kernel_rfl) ?_)
  exact wpAny_pure q
theorem extend_rev {R : Result → Shared → Prop} {I l : Addr} {items : Array Value} (hh : A.handled = none) (hne : l ≠ I) (S : Addr) (res : Value) (c₀ : Nat) (hit : s.heap.IsRevIter I l ((items.size : Int) - 1)) (hl : s.heap.IsList l items) (hSI : S ≠ I) (hSl : S ≠ l)
    (hS : s.heap.get? S = some { cls := .type "list", data := .seq #[] c₀ })
    (hR : ∀ h' tk acc' c', (∀ b o, b ≠ S → b ≠ I → s.heap.get? b = some o → h'.get? b = some o) → h'.get? S = some { cls := .type "list", dict := none, data := .seq acc' c', slots := #[] } → ItemsOf (fun i v => items[items.size - 1 - i]? = some v) acc' items.size → R (.ok (.ret res)) { s with heap := h', toks := tk }) (hn : items.size ≤ sizeLine) :
    wpAny (model prog w) A.in1 (Builtin.List.listExtendWith (.ref S) (.ref I) res)
      (fun fin s' => match fin with | .done f => R (.ok f) s' | .again c' => c'.quiet = true ∧ codeAny (model prog w) A c' R s') (fun e s' => R (.error e) s') s := by
  have hT : s.TypeIs (.ref I) "list_reverseiterator" := hit.typeIs
  have hSf : S ∉ [I, l] := by simp only [List.mem_cons, List.not_mem_nil, or_false, not_or]; exact ⟨hSI, hSl⟩
  have W := Walks.listRev (prog := prog) (w := w) (A := A.in1) hh I l hne items
  unfold Builtin.List.listExtendWith
  refine wpAny_bind (wpAny_typeOf hT ?_)
  have h1 : Builtin.List.listSameRef (.ref S) (.ref I) = false := by simp [Builtin.List.listSameRef, hSI]
  have h2 : (Value.type "list_reverseiterator" == Value.type "list") = false := by decide
  have h3 : (Value.type "list_reverseiterator" == Value.type "tuple") = false := by decide
  simp only [h1, h2, h3, Bool.or_false, Bool.false_eq_true, if_false]
  refine wpAny_bind (wpAny_pyIter_revIter hit ?_)
  refine wpAny_bind (wpAny_holding (hint_rev hT ?_))
  have h4 : ∀ x : Bool, x = false → ∀ (a b : Sem Fin), (if x = true then a else b) = b := fun x hx a b => by rw [hx]; rfl
  refine wpAny_ite_split (fun z => absurd z (by decide)) (fun _ => ?_)
  refine wpAny_pure ⟨plainId_quiet PySem.F.plain_extend_loop _, codeAny_extend_loopS W.toS hn S hSf res items.size 0 _ #[] c₀ rfl (Nat.zero_le _) ⟨Nat.zero_le _, by simpa using hit, hl⟩ hS (ItemsOf.nil _) fun s' acc' c' hm hS' hacc => ?_⟩
  rw [Moved.eq_with hm]
  exact hR s'.heap s'.toks acc' c' (fun b o hb hI e => hm.heap b o (fun z => by
    rcases List.mem_cons.mp z with z | z
    · exact hb z
    · exact hI (List.mem_singleton.mp z)) e) hS' hacc
theorem call_list_rev {Q : Value → Shared → Prop} {I l : Addr} {items : Array Value} (hh : A.handled = none) (hne : l ≠ I) (hit : s.heap.IsRevIter I l ((items.size : Int) - 1)) (hl : s.heap.IsList l items) (hn : items.size ≤ sizeLine)
    (hQ : ∀ h' tk acc' c', (∀ b o, b ≠ I → s.heap.get? b = some o → h'.get? b = some o) → h'.get? s.heap.objs.size = some { cls := .type "list", dict := none, data := .seq acc' c', slots := #[] } → ItemsOf (fun i v => items[items.size - 1 - i]? = some v) acc' items.size → Q (.ref s.heap.objs.size) { s with heap := h', toks := tk }) :
    wpAny (model prog w) A (call (.type "list") [.ref I]) Q E s := by
  refine callType_codes (Q₁ := fun obj s₁ => obj = .ref s.heap.objs.size ∧ s₁ = { s with heap := s.heap.push { cls := .type "list", data := .seq #[] } }) PySem.F.called_list (PySem.F.typeCall_list_1 _) PySem.F.entry_list_init
    (code_list_new _ ⟨rfl, rfl⟩) fun obj s₁ h₁ => ?_
  obtain ⟨rfl, rfl⟩ := h₁
  have hS : (s.heap.push { cls := .type "list", data := .seq #[] }).get? s.heap.objs.size = some { cls := .type "list", data := .seq #[] } := Heap.get?_push_size _ rfl
  have l1 : I < s.heap.objs.size := let ⟨_, e, _⟩ := hit; Heap.lt_size e
  have l2 : l < s.heap.objs.size := let ⟨_, e, _⟩ := hl; Heap.lt_size e
  have hSI : s.heap.objs.size ≠ I := Nat.ne_of_gt l1
  have hSl : s.heap.objs.size ≠ l := Nat.ne_of_gt l2
  refine ⟨⟨_, hS, rfl⟩, PySem.F.args_list_init_2 _ _, ?_⟩
  show wpAny _ _ (do let old ← Builtin.List.listItems (.ref s.heap.objs.size); Builtin.List.listUpdate (.ref s.heap.objs.size) (fun _ => #[]); letGo old.toList.reverse; Builtin.List.listExtendWith (.ref s.heap.objs.size) (.ref I) .none) _ _ _
  refine wpAny_bind ?_
  unfold Builtin.List.listItems
  refine wpAny_bind (wpAny_seqItems hS rfl (wpAny_pure ?_))
  show wpAny _ _ (updateSeq s.heap.objs.size (fun _ => #[]) >>= fun _ => letGo (#[] : Array Value).toList.reverse >>= fun _ => Builtin.List.listExtendWith (.ref s.heap.objs.size) (.ref I) .none) _ _ _
  refine wpAny_bind (wpAny_updateSeq hS rfl ?_)
  have hS₂ := Heap.get?_update_self (Obj.mapSeq (fun _ => (#[] : Array Value))) hS rfl
  have oth : ∀ b o, b ≠ s.heap.objs.size → (s.heap.push { cls := .type "list", data := .seq #[] }).get? b = some o → ((s.heap.push { cls := .type "list", data := .seq #[] }).update s.heap.objs.size (Obj.mapSeq (fun _ => (#[] : Array Value)))).get? b = some o :=
    fun b o hb e => (Heap.get?_update_other _ _ (Ne.symm hb)).trans e
  refine wpAny_bind (wpAny_letGo ?_)
  refine extend_rev (A := A.in1) hh hne s.heap.objs.size .none _ (hit.at fun o e => oth _ o hSI.symm (Heap.get?_push_of_some _ e)) (hl.at fun o e => oth _ o hSl.symm (Heap.get?_push_of_some _ e)) hSI hSl hS₂ (fun h' tk acc' c' hk hS' hacc => ?_) hn
  exact ⟨rfl, hQ h' tk acc' c' (fun b o hI e => hk b o (Nat.ne_of_lt (Heap.lt_size e)) hI (oth b o (Nat.ne_of_lt (Heap.lt_size e)) (Heap.get?_push_of_some _ e))) hS' hacc⟩
end
def tRevC (K : PySem.W.Frag) (te : TE) : TE := fun σ H Q => te σ H fun x H1 => ∃ p ys, x = .ref p ∧ SqL K H1 p ys ∧ ∀ l, H1 l = none → Q (.ref l) (upd H1 l (.lst ys.reverse))
section
variable {X : Cx} {e : Expr} {te : TE} {p1 p2 pos pos2 : Pos}
theorem pe_listRev (hc : X.calm = true) (hg : Gl X "list") (hm : X.mg "list" = none) (hg2 : Gl X "reversed") (hm2 : X.mg "reversed" = none) (he : PE X e te)
    (hs : starEach [.Call (.Name "reversed" p2) [e] [] pos2] X.env = (false, eval (.Call (.Name "reversed" p2) [e] [] pos2) X.env) :: starEach [] X.env := by rfl) (hpl : (backTo pos (starEach [] X.env)).any (·.1) = false := by rfl)
    (hs2 : starEach [e] X.env = (false, eval e X.env) :: starEach [] X.env := by rfl) (hpl2 : (backTo pos2 (starEach [] X.env)).any (·.1) = false := by rfl) (ht : backTo pos (starEach [.Call (.Name "reversed" p2) [e] [] pos2] X.env) = [(false, eval (.Call (.Name "reversed" p2) [e] [] pos2) X.env)] := by rfl) (ht2 : backTo pos2 (starEach [e] X.env) = [(false, eval e X.env)] := by rfl) :
    PE X (.Call (.Name "list" p1) [.Call (.Name "reversed" p2) [e] [] pos2] [] pos) (tRevC X.K te) := by
  refine ⟨fun pins s σ H Q I h => ?_⟩
  refine wpAny_Call_Name_kw (ld_blt (u := .type "list") I hg hm (by decide +kernel) ?_ (by decide) (by decide))
  refine PyProof.Rows.callWith_type1 ?_ hs hpl
  rw [ht]
  refine Calls.spliced_cons ?_
  refine wpAny_Call_Name_kw (ld_blt (u := .type "reversed") I hg2 hm2 (by decide +kernel) ?_ (by decide) (by decide))
  refine PyProof.Rows.callWith_type1 ?_ hs2 hpl2
  rw [ht2]
  refine Calls.spliced_cons (thn (he.run pins s σ H _ I h) fun v s1 ⟨x, H1, I1, r1, p, ys, ex, hq, q⟩ => Calls.spliced_nil ?_)
  subst ex
  obtain rfl : v = Value.ref p := r1
  obtain ⟨its, rv, pl, hz⟩ := I1.list hq
  refine call_reversed_list pl.isList ?_
  refine Calls.spliced_nil ?_
  have hlt : p < s1.heap.objs.size := let ⟨_, e, _⟩ := pl.isList; Heap.lt_size e
  have hlen := rv.length
  have I2 : Inv X pins σ H1 { s1 with heap := s1.heap.push (revObj p ((its.toArray.size : Int) - 1)) } := I1.kept (t' := s1.toks) fun b o e => Heap.get?_push_of_some _ e
  have e0 : (s1.heap.push (revObj p ((its.toArray.size : Int) - 1))).get? s1.heap.objs.size = some (revObj p ((its.toArray.size : Int) - 1)) := Heap.get?_push_size _ rfl
  have f0 : FpOk X pins H1 s1.heap.objs.size := I1.fpOk (Nat.le_refl _) (I1.hok.fresh (Nat.le_refl _))
  refine call_list_rev (items := its.toArray) (I := s1.heap.objs.size) (l := p) (I1.ok.hd hc) (Nat.ne_of_lt hlt) ⟨_, e0, rfl, rfl⟩ (pl.isList.at fun o e => Heap.get?_push_of_some _ e) (by rw [List.size_toArray]; omega) (fun h' tk acc' c' hk hS' hacc => ?_)
  have eacc : acc'.toList = its.reverse := by
    refine List.ext_getElem? fun j => ?_
    by_cases hj : j < its.length
    · have h1 : j < acc'.size := by rw [hacc.1, List.size_toArray]; exact hj
      have h2 := hacc.2 j acc'[j] (Array.getElem?_eq_getElem h1)
      rw [Array.getElem?_toList, Array.getElem?_eq_getElem h1, List.getElem?_reverse hj, ← h2]
      simp
    · have h1 : acc'.size = its.length := by rw [hacc.1, List.size_toArray]
      rw [List.getElem?_eq_none (by rw [Array.length_toList]; omega), List.getElem?_eq_none (by rw [List.length_reverse]; omega)]
  have hn : H1 (s1.heap.push (revObj p ((its.toArray.size : Int) - 1))).objs.size = none := I2.hok.fresh (Nat.le_refl _)
  refine ⟨.ref (s1.heap.push (revObj p ((its.toArray.size : Int) - 1))).objs.size, _, I2.turnedNew (ch := [s1.heap.objs.size]) (T := (s1.heap.push (revObj p ((its.toArray.size : Int) - 1))).objs.size) (ob := .lst ys.reverse) (fun b o hb e => hk b o (fun z => hb (by simp [z])) e) (fun b hb => ?_) (Nat.le_refl _) ⟨by rw [List.length_reverse]; exact hz, acc'.toList, c', ?_, by rw [Array.toArray_toList]; exact hS'⟩, rfl, q _ hn⟩
  · have : b = s1.heap.objs.size := by simpa using hb
    subst this
    exact f0
  · rw [eacc]
    exact rv.reverse
end
section
variable {X : Cy} {e j : Expr} {p1 p2 p3 pos pos2 : Pos} {t tj : TDE} {ue uj : TE}
theorem jn_listRev (hc : X.calm = true) (hg : Gl X "list") (hm : X.mg "list" = none) (hg2 : Gl X "reversed") (hm2 : X.mg "reversed" = none) (he : JE X e ue t)
    (hs : starEach [.Call (.Name "reversed" p2) [e] [] pos2] X.env = (false, eval (.Call (.Name "reversed" p2) [e] [] pos2) X.env) :: starEach [] X.env := by rfl) (hpl : (backTo pos (starEach [] X.env)).any (·.1) = false := by rfl)
    (hs2 : starEach [e] X.env = (false, eval e X.env) :: starEach [] X.env := by rfl) (hpl2 : (backTo pos2 (starEach [] X.env)).any (·.1) = false := by rfl) (ht : backTo pos (starEach [.Call (.Name "reversed" p2) [e] [] pos2] X.env) = [(false, eval (.Call (.Name "reversed" p2) [e] [] pos2) X.env)] := by rfl) (ht2 : backTo pos2 (starEach [e] X.env) = [(false, eval e X.env)] := by rfl) :
    JN X (.Call (.Name "list" p1) [.Call (.Name "reversed" p2) [e] [] pos2] [] pos) (tRevC X.K ue) (dRev t) := by
  obtain ⟨p, s⟩ := he
  refine ⟨pe_listRev hc hg hm hg2 hm2 p hs hpl hs2 hpl2 ht ht2, fun R h k => s R h fun v d δ1 H1 Hs1 R1 e1 r1 ⟨xs, e, q⟩ => ?_⟩
  subst e
  cases r1 with
  | @lst a vs ds h1 a1 => exact ⟨a, vs, rfl, R1.ex.sl h1, fun p hp => k _ _ _ _ _ _ (R1.hide hp) (R1.base.none hp) (R1.frz.none (R1.ex.none hp)) e1 (dpAll_rev a1) q⟩
inductive EnK (K : PySem.W.Frag) (w : World) : List DictEntry → List (Str × D) → Prop
  | nil : EnK K w [] []
  | cons {n : DictEntry} {x : Str} {t : Tok} {v : V} {d : D} {es : List DictEntry} {kvs : List (Str × D)} : n.key = .str x t → n.hash = hashStr w x → RelV v n.val → (∀ H, Dp K H v d) → EnK K w es kvs → EnK K w (n :: es) ((x, d) :: kvs)
def lookK (kvs : List (Str × D)) (x : Str) : Option D := (kvs.find? fun kv => decide (kv.1 = x)).map (·.2)
structure DictK (K : PySem.W.Frag) (w : World) (mg : Str → Option Value) (x : Str) (kvs : List (Str × D)) : Prop where
  p : ∃ g o es n, mg x = some (.ref g) ∧ K.lookup g = some o ∧ o.ExactDict ∧ o.data = .dict es n ∧ EnK K w es.toList kvs ∧ (g == sysModules) = false
theorem EnK.keys {P : Program} {K : PySem.W.Frag} {w : World} : ∀ {es : List DictEntry} {kvs : List (Str × D)}, EnK K w es kvs → ∀ e ∈ es, ∃ k, (PySem.strKind P w).is k e.key = true ∧ e.hash = (PySem.strKind P w).hash k
  | _, _, .nil, e, he => by simp at he
  | _, _, .cons (x := x) h1 h2 h3 h4 t, e, he => by
    rcases List.mem_cons.mp he with rfl | he
    · exact ⟨x, by rw [h1]; exact by simp [PySem.strKind, Value.isStrOf], h2⟩
    · exact t.keys e he
theorem EnK.find {P : Program} {K : PySem.W.Frag} {w : World} {y : Str} : ∀ {es : List DictEntry} {kvs : List (Str × D)}, EnK K w es kvs →
    (∀ d, lookK kvs y = some d → ∃ u v, (es.find? fun e => (PySem.strKind P w).is y e.key).map (·.val) = some u ∧ RelV v u ∧ ∀ H, Dp K H v d) ∧ (lookK kvs y = none → (es.find? fun e => (PySem.strKind P w).is y e.key).map (·.val) = none)
  | _, _, .nil => ⟨fun d h => by simp [lookK] at h, fun _ => rfl⟩
  | _, _, .cons (n := n) (x := x) (t := t) (v := v) (d := d) (es := es) (kvs := kvs) h1 h2 h3 h4 tl => by
    obtain ⟨i1, i2⟩ := tl.find (P := P) (y := y)
    have his : (PySem.strKind P w).is y n.key = decide (x = y) := by
      rw [h1]
      by_cases hxy : x = y
      · subst hxy
        simp [PySem.strKind, Value.isStrOf]
      · rw [decide_eq_false hxy]
        simp only [PySem.strKind, Value.isStrOf]
        first | exact decide_eq_false (fun z => hxy z.symm) | exact decide_eq_false hxy | exact beq_eq_false_iff_ne.mpr (fun z => hxy z.symm) | exact beq_eq_false_iff_ne.mpr (fun z => hxy z)
    by_cases hxy : x = y
    · subst hxy
      have g : lookK ((x, d) :: kvs) x = some d := by simp [lookK, List.find?_cons]
      rw [g]
      refine ⟨fun z hz => ?_, fun z => nomatch z⟩
      cases hz
      exact ⟨n.val, v, by rw [List.find?_cons, his, decide_eq_true rfl]; rfl, h3, h4⟩
    · have g : lookK ((x, d) :: kvs) y = lookK kvs y := by simp [lookK, List.find?_cons, hxy]
      rw [g, List.find?_cons, his, decide_eq_false hxy]
      exact ⟨i1, i2⟩
theorem DictK.map {X : Cx} {pins : List (Addr × Obj)} {σ : L2.St} {H : Hp} {s : Shared} {x : Str} {kvs : List (Str × D)} (h : DictK X.K X.w X.mg x kvs) (I : Inv X pins σ H s) : ∃ g f, X.mg x = some (.ref g) ∧ (g == sysModules) = false ∧ s.heap.MapOf (PySem.strKind X.prog X.w) g f ∧
    ∀ y, (∀ d, lookK kvs y = some d → ∃ u v, f y = some u ∧ RelV v u ∧ ∀ H, Dp X.K H v d) ∧ (lookK kvs y = none → f y = none) := by
  obtain ⟨g, o, es, n, h1, h2, h3, h4, h5, h6⟩ := h.p
  refine ⟨g, fun y => findBy (PySem.strKind X.prog X.w).is es y, h1, h6, ⟨o, es, n, I.kIn g o h2, h3, h4, fun e he => h5.keys e (by simpa using he), fun _ => rfl⟩, fun y => ?_⟩
  have := h5.find (P := X.prog) (y := y)
  rw [Array.find?_toList] at this
  exact this
def tGetK (K : PySem.W.Frag) (kvs : List (Str × D)) (tj te : TE) : TE := fun σ H Q => tj σ H fun y H1 => te σ H1 fun z H2 => ∃ x, y = .str x ∧ (∀ d v, lookK kvs x = some d → (∀ H, Dp K H v d) → Q v H2) ∧ (lookK kvs x = none → Q z H2)
def dGetK (kvs : List (Str × D)) (tj te : TDE) : TDE := fun δ Q => tj δ fun y δ1 => te δ1 fun z δ2 => ∃ x, y = .str x ∧ Q ((lookK kvs x).getD z) δ2
theorem pe_getK {x : Str} {kvs : List (Str × D)} (hd : DictK X.K X.w X.mg x kvs) (hg : Gl X x) (hj : PE X j uj) (he : PE X e ue) (hdb : (x == ("__debug__" : Str)) = false := by decide) (m : M2 X (.Name x p1) "get" p2 j e p3) :
    PE X (.Call (.Attribute (.Name x p1) "get" p2) [j, e] [] p3) (tGetK X.K kvs uj ue) := by
  refine ⟨fun pins s σ H Q I h => ?_⟩
  obtain ⟨g, f, h1, h2, h3, h4⟩ := hd.map I
  refine wpAny_Call_method m.base m.few m.line PySem.F.plainAttrs_dict PySem.F.slot_dict_get PySem.F.type_dict_get (ld_glob I hg h1 ?_ hdb)
  refine ⟨h3.typeIs, h3.noDict, ?_⟩
  rw [m.trees]
  refine Calls.callWith_builtin rfl (Calls.evalArgs_plain (Calls.spliced_cons (thn (hj.run pins s σ H _ I h) fun iv s2 ⟨y, H2, I2, ry, q2⟩ =>
    Calls.spliced_cons (thn (he.run pins s2 σ H2 _ I2 q2) fun fv s3 ⟨z, H3, I3, rz, k, ey, q3, q4⟩ => Calls.spliced_nil ?_))))
  subst ey
  obtain ⟨tk, rfl⟩ := ry
  obtain ⟨g', f', h1', _, h3', h4'⟩ := hd.map I3
  rw [h1] at h1'
  cases h1'
  refine call_meetsIn PySem.F.slot_dict_get h3'.typeIs PySem.F.entry_dict_get (PySem.F.args_dict_get_3 _ _ _) (meets_dict_get_default (PySem.strKind X.prog X.w) g (k := k) (by simp [PySem.strKind, Value.isStrOf]) h2 fv) ⟨_, h3', ?_⟩
  cases hl : lookK kvs k with
  | none =>
    rw [(h4' k).2 hl]
    exact ⟨z, H3, I3.tok _, rz, q4 hl⟩
  | some d =>
    obtain ⟨u, v, hf, rv, hD⟩ := (h4' k).1 d hl
    rw [hf]
    exact ⟨v, H3, I3.tok _, rv, q3 d v hl hD⟩
theorem je_getK {x : Str} {kvs : List (Str × D)} (hd : DictK X.K X.w X.mg x kvs) (hj : JE X j uj tj) (he : JE X e ue t) (hg : Gl X x := by rfl) (hdb : (x == ("__debug__" : Str)) = false := by decide) (m : M2 X (.Name x p1) "get" p2 j e p3 := by exact ⟨rfl, rfl, rfl, rfl⟩) :
    JE X (.Call (.Attribute (.Name x p1) "get" p2) [j, e] [] p3) (tGetK X.K kvs uj ue) (dGetK kvs tj t) :=
  ⟨pe_getK hd hg hj.p he.p hdb m, fun R h k => hj.s R h fun v d δ1 H1 Hs1 R1 x1 r1 q1 => he.s R1 q1 fun y z δ2 H2 Hs2 R2 x2 r2 ⟨x, ed, q⟩ => by
    subst ed
    cases r1
    refine ⟨x, rfl, fun d v hl hD => ?_, fun hl => ?_⟩
    · rw [hl] at q
      exact k _ _ _ _ _ R2 (x1.trans x2) (hD _) q
    · rw [hl] at q
      exact k _ _ _ _ _ R2 (x1.trans x2) r2 q⟩
theorem enk_tup {K : PySem.W.Frag} {w : World} {n : DictEntry} {x : Str} {t : Tok} {a : Addr} {o : Obj} {is : List Int} {its : Array Value} {c : Nat} {es : List DictEntry} {kvs : List (Str × D)} (h1 : n.key = .str x t) (h2 : n.hash = hashStr w x) (h3 : n.val = .ref a) (hl : K.lookup a = some o) (hc : o.cls = .type "tuple") (hd : o.data = .seq its c) (hz : its.size ≤ sizeLine) (hv : Vals (is.map V.int) its.toList) (r : EnK K w es kvs) : EnK K w (n :: es) ((x, .tuple (is.map .int)) :: kvs) :=
  .cons (v := .ref a) h1 h2 (by rw [h3]; rfl) (fun H => .tup (.inr ⟨o, its, c, hl, hc, hd, hz, hv⟩) (by
    have : ∀ l : List Int, DpAll K H (l.map V.int) (l.map PyData.int) := by
      intro l
      induction l with
      | nil => exact .nil
      | cons x l ih => exact .cons (.int x) ih
    exact this is)) r
end
end EL
namespace EL
open PySem PySem.Spec PyProof.Rows L2
section
variable {δ : Dl} {i j : Nat} {p : Addr} {d z : D} {Q : D → Dl → Prop} {Qv : RV → Lf → Dl → Prop} {Qb : Bool → Dl → Prop} {Ql : List D → Dl → Prop} {t tj : TDE} {c : TDB} {u v : TDL} {s : TDS} {De : DEnds} {P : Program} {w : World} {kvs : List (D × D)} {k : NestedKey}
theorem ex_str {b : Str} {Qs : Str → Prop} (q : Qs b) : ∃ c, PyData.str b = .str c ∧ Qs c := ⟨b, rfl, q⟩
theorem st_getK {kv : List (Str × D)} (q : tj δ fun y δ1 => t δ1 fun z δ2 => ∃ x, y = .str x ∧ Q ((lookK kv x).getD z) δ2) : dGetK kv tj t δ Q := q
theorem st_nIf (q : c δ fun b δ1 => if b = true then u δ1 Ql else v δ1 Ql) : nIf c u v δ Ql := q
theorem st_pop {xs : List D} (h : δ[i]? = some (.ow p (.lst (xs ++ [d])))) (q : Q d (δ.set i (.ow p (.lst xs)))) : dPop i δ Q := ⟨p, xs, d, h, q⟩
theorem st_inF {neg : Bool} (q : tj δ fun d δ' => ∃ p kvs k, δ'[i]? = some (.ow p (OD.dnF P w p kvs)) ∧ KeyD d k ∧ Q (.bool (neg ^^ (getN kvs k).isSome)) δ') : dInF P w neg i tj δ Q := q
theorem ex_inF {kq : Bool → Prop} (h : δ[i]? = some (.ow p (OD.dnF P w p kvs))) (hk : KeyD d k) (q : kq (getN kvs k).isSome) : ∃ p kvs k, δ[i]? = some (.ow p (OD.dnF P w p kvs)) ∧ KeyD d k ∧ kq (getN kvs k).isSome := ⟨p, kvs, k, h, hk, q⟩
theorem st_ixF (h : δ[i]? = some (.ow p (OD.dnF P w p kvs))) (q : tj δ fun d δ' => ∃ p kvs k z, δ'[i]? = some (.ow p (OD.dnF P w p kvs)) ∧ KeyD d k ∧ getN kvs k = some z ∧ Q z δ') : dIxF P w i tj δ Q := ⟨⟨p, _, h⟩, q⟩
theorem ex_ixF {kq : D → Prop} (h : δ[i]? = some (.ow p (OD.dnF P w p kvs))) (hk : KeyD d k) (hz : getN kvs k = some z) (q : kq z) : ∃ p kvs k z, δ[i]? = some (.ow p (OD.dnF P w p kvs)) ∧ KeyD d k ∧ getN kvs k = some z ∧ kq z := ⟨p, kvs, k, z, h, hk, hz, q⟩
theorem st_dictN (h : Nat.ble (i + 1) δ.length = true) (q : ∀ p, De.nx (δ.set i (.ow p (OD.dn P w p [])))) : sDictN P w i De δ := ⟨Nat.le_of_ble_eq_true h, q⟩
theorem st_setN (q : t δ fun d δ1 => (∃ p o, δ1[i]? = some (.ow p o)) ∧ tj δ1 fun dj δ2 => ∃ p kvs k, δ2[i]? = some (.ow p (OD.dn P w p kvs)) ∧ KeyD dj k ∧ kvs.length ≤ 100000 ∧ De.nx (δ2.set i (.ow p (OD.dn P w p (putN kvs dj k d))))) : sSetN P w i tj t De δ := q
theorem ex_ow {o : OD} {Pq : Prop} (h : δ[i]? = some (.ow p o)) (q : Pq) : (∃ p o, δ[i]? = some (.ow p o)) ∧ Pq := ⟨⟨p, o, h⟩, q⟩
theorem ex_setN {dj : D} {kq : Dl → Prop} (h : δ[i]? = some (.ow p (OD.dn P w p kvs))) (hk : KeyD dj k) (hl : kvs.length ≤ 100000) (q : kq (δ.set i (.ow p (OD.dn P w p (putN kvs dj k d))))) : ∃ p kvs k, δ[i]? = some (.ow p (OD.dn P w p kvs)) ∧ KeyD dj k ∧ kvs.length ≤ 100000 ∧ kq (δ.set i (.ow p (OD.dn P w p (putN kvs dj k d)))) := ⟨p, kvs, k, h, hk, hl, q⟩
theorem st_iDnF (h : δ[i]? = some (.ow p (OD.dnF P w p kvs))) (q : Ql (kvs.map (·.1)) δ) : iDnF P w i δ Ql := ⟨p, kvs, h, q⟩
theorem st_vDictN (q : ∀ p, Qv (.rf p) [(p, .one (apN P w p []))] δ) : vDictN P w δ Qv := q
theorem st_vDictOf (q : t δ fun d δ' => ∃ kvs, d = .list (kvs.map pairT) ∧ (∀ kv ∈ kvs, ∃ k, KeyD kv.1 k) ∧ kvs.length ≤ 100000 ∧ ∀ p, Qv (.rf p) [(p, .one (apN P w p (mergeN kvs)))] δ') : vDictOf P w t δ Qv := q
theorem st_vMvO {q' : AP} (h : δ[i]? = some (.ow p (OD.one q'))) (q : Qv (.rf p) [(p, .one q')] (δ.set i .un)) : vMvO i δ Qv := ⟨p, q', h, q⟩
theorem st_frzO (h : δ[i]? = some (.ow p (OD.dn P w p kvs))) (q : s De (δ.set i (.ow p (OD.dnF P w p kvs)))) : sFrzN P w i s De δ := ⟨p, kvs, .inl ⟨h, q⟩⟩
theorem st_frzF (h : δ[i]? = some (.ow p (OD.dnF P w p kvs))) (q : s De δ) : sFrzN P w i s De δ := ⟨p, kvs, .inr (.inl ⟨h, q⟩)⟩
theorem st_frzR (h : δ[i]? = some (.ow p (OD.rg [(p, .one (apN P w p kvs))]))) (q : s De (δ.set i (.ow p (OD.dnF P w p kvs)))) : sFrzN P w i s De δ := ⟨p, kvs, .inr (.inr ⟨h, q⟩)⟩
theorem st_inV {neg : Bool} {tb : TDV} (q : t δ fun d δ' => tb δ' fun rb _ δ2 => ∃ (a : Addr) (xs : List D), rb = .rf a ∧ Has δ2 a (.lst (xs.map .dt)) ∧ d.depth ≤ 150 ∧ Q (.bool (neg ^^ xs.any fun z => PyData.eqv z d)) δ2) : dInV neg t tb δ Q := q
theorem ex_inV {a : Addr} {xs : List D} {kq : List D → Prop} {e : D} (h : Has δ a (.lst (xs.map .dt))) (hd : e.depth ≤ 150) (q : kq xs) : ∃ b ys, RV.rf a = .rf b ∧ Has δ b (.lst (List.map RV.dt ys)) ∧ e.depth ≤ 150 ∧ kq ys := ⟨a, xs, rfl, h, hd, q⟩
theorem ex_inO {xs : List D} {kq : List D → Prop} {e : D} (h : δ[i]? = some (.ow p (.lst xs))) (hd : e.depth ≤ 150) (q : kq xs) : ∃ p xs, δ[i]? = some (.ow p (.lst xs)) ∧ e.depth ≤ 150 ∧ kq xs := ⟨p, xs, h, hd, q⟩
theorem ex_app1 {xs : List D} {kq : Addr → List D → Prop} (h : δ[i]? = some (.ow p (.lst xs))) (hl : xs.length ≤ 100000) (q : kq p xs) : ∃ p xs, δ[i]? = some (.ow p (.lst xs)) ∧ xs.length ≤ 100000 ∧ kq p xs := ⟨p, xs, h, hl, q⟩
end
section
variable {X : Cy} {elt tg iter tg1 iter1 : Expr} {scope : Scope} {own : List (Str × Nat)} {vs1 : List Nat} {p2 spos py : Pos} {wi : TI} {ti ti1 : TDI} {g g1 : TG} {dg dg1 : TDG} {te : TDE} {uf : Shared → Hp → Addr → List (Str × Addr) → List Addr → TE} {wf : Shared → Hp → Addr → List (Str × Addr) → List Addr → TI} {y : Str} {n : Nat}
theorem js_setLc2 (hc : X.calm = true) (hN : X.N.Nodup) (hi : JI X tg iter wi ti) (ok : BlkOk X.N X.env.scope scope own)
    (hg : ∀ (s : Shared) (H : Hp) (C : Addr) (cl : List (Str × Addr)) (fp : List Addr), PG (Bk X s H scope C cl fp) tg g) (hgw : SimGw X.z g dg (own.map (·.2)))
    (hi1 : ∀ (s : Shared) (H : Hp) (C : Addr) (cl : List (Str × Addr)) (fp : List Addr), JI (Bk X s H scope C cl fp) tg1 iter1 (wf s H C cl fp) ti1)
    (hg1 : ∀ (s : Shared) (H : Hp) (C : Addr) (cl : List (Str × Addr)) (fp : List Addr), PG (Bk X s H scope C cl fp) tg1 g1) (hgw1 : SimGw X.z g1 dg1 vs1)
    (he : ∀ (s : Shared) (H : Hp) (C : Addr) (cl : List (Str × Addr)) (fp : List Addr), JE (Bk X s H scope C cl fp) elt (uf s H C cl fp) te)
    (hvs : ∀ i ∈ vs1, i ∈ own.map (·.2) := by decide)
    (hw : ∀ (s : Shared) (H : Hp) (C : Addr) (cl : List (Str × Addr)) (fp : List Addr), wf s H C cl fp = wf X.s_0 X.H_0 0 [] [] := by intros; rfl)
    (hu : ∀ (s : Shared) (H : Hp) (C : Addr) (cl : List (Str × Addr)) (fp : List Addr), uf s H C cl fp = uf X.s_0 X.H_0 0 [] [] := by intros; rfl)
    (hy : X.N[n]? = some y := by rfl) (hyl : X.env.scope.names.lookup y = some .local := by rfl)
    (hsw : swapsWith (.ListComp elt [⟨tg, iter, [], 0⟩, ⟨tg1, iter1, [], 0⟩] scope p2) (some (.Name y py)) spos.line X.env = pure true := by exact sw_true rfl rfl rfl (by decide +kernel))
    (hs : ∀ x, foldedSetIterable iter X.env x = pure x := by intro _; rfl) (hs1 : ∀ env x, foldedSetIterable iter1 env x = pure x := by intro _ _; rfl) :
    JS X (.Assign [.Name y py] (.ListComp elt [⟨tg, iter, [], 0⟩, ⟨tg1, iter1, [], 0⟩] scope p2) spos) (tAsg (tLc2 wi g tYes (wf X.s_0 X.H_0 0 [] []) g1 tYes (uf X.s_0 X.H_0 0 [] []) (own.map (·.2)) vs1) (gName n)) (sAsg (dN (dLc2 ti dg dYes ti1 dg1 dYes te (own.map (·.2)) vs1)) (dgName n)) := by
  have h := jn_lc2 (pos := p2) hc hN hi ok hg hgw hi1 hg1 hgw1 he hvs hw hu hs hs1
  refine ⟨ps_setLc2 (own := own) hc hN hy hyl hsw hi.p ok hvs hg (fun _ _ _ _ _ => pts_nil) (fun s H C cl fp => hw s H C cl fp ▸ (hi1 s H C cl fp).p) hg1 (fun _ _ _ _ _ => pts_nil) (fun s H C cl fp => hu s H C cl fp ▸ (he s H C cl fp).p) hs hs1, fun R q k => ?_⟩
  exact (je_new h).s R q fun _ _ _ _ _ R1 x r q1 => k.nx _ _ _ _ (R1.set r n) x q1
theorem js_ownLc2 (hc : X.calm = true) (hN : X.N.Nodup) (hi : JI X tg iter wi ti) (ok : BlkOk X.N X.env.scope scope own)
    (hg : ∀ (s : Shared) (H : Hp) (C : Addr) (cl : List (Str × Addr)) (fp : List Addr), PG (Bk X s H scope C cl fp) tg g) (hgw : SimGw X.z g dg (own.map (·.2)))
    (hi1 : ∀ (s : Shared) (H : Hp) (C : Addr) (cl : List (Str × Addr)) (fp : List Addr), JI (Bk X s H scope C cl fp) tg1 iter1 (wf s H C cl fp) ti1)
    (hg1 : ∀ (s : Shared) (H : Hp) (C : Addr) (cl : List (Str × Addr)) (fp : List Addr), PG (Bk X s H scope C cl fp) tg1 g1) (hgw1 : SimGw X.z g1 dg1 vs1)
    (he : ∀ (s : Shared) (H : Hp) (C : Addr) (cl : List (Str × Addr)) (fp : List Addr), JE (Bk X s H scope C cl fp) elt (uf s H C cl fp) te)
    (hvs : ∀ i ∈ vs1, i ∈ own.map (·.2) := by decide)
    (hw : ∀ (s : Shared) (H : Hp) (C : Addr) (cl : List (Str × Addr)) (fp : List Addr), wf s H C cl fp = wf X.s_0 X.H_0 0 [] [] := by intros; rfl)
    (hu : ∀ (s : Shared) (H : Hp) (C : Addr) (cl : List (Str × Addr)) (fp : List Addr), uf s H C cl fp = uf X.s_0 X.H_0 0 [] [] := by intros; rfl)
    (hy : X.N[n]? = some y := by rfl) (hyl : X.env.scope.names.lookup y = some .local := by rfl)
    (hsw : swapsWith (.ListComp elt [⟨tg, iter, [], 0⟩, ⟨tg1, iter1, [], 0⟩] scope p2) (some (.Name y py)) spos.line X.env = pure true := by exact sw_true rfl rfl rfl (by decide +kernel))
    (hs : ∀ x, foldedSetIterable iter X.env x = pure x := by intro _; rfl) (hs1 : ∀ env x, foldedSetIterable iter1 env x = pure x := by intro _ _; rfl) :
    JS X (.Assign [.Name y py] (.ListComp elt [⟨tg, iter, [], 0⟩, ⟨tg1, iter1, [], 0⟩] scope p2) spos) (tAsg (tLc2 wi g tYes (wf X.s_0 X.H_0 0 [] []) g1 tYes (uf X.s_0 X.H_0 0 [] []) (own.map (·.2)) vs1) (gName n)) (sOwn (dLc2 ti dg dYes ti1 dg1 dYes te (own.map (·.2)) vs1) n) := by
  have h := jn_lc2 (pos := p2) hc hN hi ok hg hgw hi1 hg1 hgw1 he hvs hw hu hs hs1
  refine ⟨ps_setLc2 (own := own) hc hN hy hyl hsw hi.p ok hvs hg (fun _ _ _ _ _ => pts_nil) (fun s H C cl fp => hw s H C cl fp ▸ (hi1 s H C cl fp).p) hg1 (fun _ _ _ _ _ => pts_nil) (fun s H C cl fp => hu s H C cl fp ▸ (he s H C cl fp).p) hs hs1, fun R q k => ?_⟩
  exact h.s R q fun p vs xs δ' H' Hs' R1 hB h0 x r ⟨hl, q1⟩ => k.nx _ _ _ _ (R1.own hB h0 r hl) x (q1 p)
variable {x : Str} {i : Nat} {c : Expr} {tt : TDB} {p1 : Pos} {vf : Shared → Hp → Addr → List (Str × Addr) → List Addr → TT}
theorem js_setLcIf (hc : X.calm = true) (hN : X.N.Nodup) (hi : JI X (.Name x p1) iter wi ti) (ok : BlkOk X.N X.env.scope scope [(x, i)])
    (hg : ∀ (s : Shared) (H : Hp) (C : Addr) (cl : List (Str × Addr)) (fp : List Addr), PG (Bk X s H scope C cl fp) (.Name x p1) (gName i))
    (ht : ∀ (s : Shared) (H : Hp) (C : Addr) (cl : List (Str × Addr)) (fp : List Addr), JT (Bk X s H scope C cl fp) c (vf s H C cl fp) tt)
    (he : ∀ (s : Shared) (H : Hp) (C : Addr) (cl : List (Str × Addr)) (fp : List Addr), JE (Bk X s H scope C cl fp) elt (uf s H C cl fp) te)
    (hu : ∀ (s : Shared) (H : Hp) (C : Addr) (cl : List (Str × Addr)) (fp : List Addr), uf s H C cl fp = uf X.s_0 X.H_0 0 [] [] := by intros; rfl) (hv : ∀ (s : Shared) (H : Hp) (C : Addr) (cl : List (Str × Addr)) (fp : List Addr), vf s H C cl fp = vf X.s_0 X.H_0 0 [] [] := by intros; rfl)
    (hy : X.N[n]? = some y := by rfl) (hyl : X.env.scope.names.lookup y = some .local := by rfl)
    (hsw : swapsWith (.ListComp elt [⟨.Name x p1, iter, [c], 0⟩] scope p2) (some (.Name y py)) spos.line X.env = pure true := by exact sw_true rfl rfl rfl (by decide +kernel)) (hs : ∀ x, foldedSetIterable iter X.env x = pure x := by intro _; rfl) :
    JS X (.Assign [.Name y py] (.ListComp elt [⟨.Name x p1, iter, [c], 0⟩] scope p2) spos) (tAsg (tLc wi (gName i) (vf X.s_0 X.H_0 0 [] []) (uf X.s_0 X.H_0 0 [] []) [i]) (gName n)) (sAsg (dN (dLc ti (dgName i) tt te [i])) (dgName n)) := by
  have h := jn_lcIf (pos := p2) hc hN hi ok hg ht he hu hv hs
  refine ⟨ps_setLc (own := [(x, i)]) hc hN hy hyl hsw hi.p ok hg (fun s H C cl fp => pts_one (hv s H C cl fp ▸ (ht s H C cl fp).p)) (fun s H C cl fp => hu s H C cl fp ▸ (he s H C cl fp).p) hs, fun R q k => ?_⟩
  exact (je_new h).s R q fun _ _ _ _ _ R1 x r q1 => k.nx _ _ _ _ (R1.set r n) x q1
theorem js_ownLcIf (hc : X.calm = true) (hN : X.N.Nodup) (hi : JI X (.Name x p1) iter wi ti) (ok : BlkOk X.N X.env.scope scope [(x, i)])
    (hg : ∀ (s : Shared) (H : Hp) (C : Addr) (cl : List (Str × Addr)) (fp : List Addr), PG (Bk X s H scope C cl fp) (.Name x p1) (gName i))
    (ht : ∀ (s : Shared) (H : Hp) (C : Addr) (cl : List (Str × Addr)) (fp : List Addr), JT (Bk X s H scope C cl fp) c (vf s H C cl fp) tt)
    (he : ∀ (s : Shared) (H : Hp) (C : Addr) (cl : List (Str × Addr)) (fp : List Addr), JE (Bk X s H scope C cl fp) elt (uf s H C cl fp) te)
    (hu : ∀ (s : Shared) (H : Hp) (C : Addr) (cl : List (Str × Addr)) (fp : List Addr), uf s H C cl fp = uf X.s_0 X.H_0 0 [] [] := by intros; rfl) (hv : ∀ (s : Shared) (H : Hp) (C : Addr) (cl : List (Str × Addr)) (fp : List Addr), vf s H C cl fp = vf X.s_0 X.H_0 0 [] [] := by intros; rfl)
    (hy : X.N[n]? = some y := by rfl) (hyl : X.env.scope.names.lookup y = some .local := by rfl)
    (hsw : swapsWith (.ListComp elt [⟨.Name x p1, iter, [c], 0⟩] scope p2) (some (.Name y py)) spos.line X.env = pure true := by exact sw_true rfl rfl rfl (by decide +kernel)) (hs : ∀ x, foldedSetIterable iter X.env x = pure x := by intro _; rfl) :
    JS X (.Assign [.Name y py] (.ListComp elt [⟨.Name x p1, iter, [c], 0⟩] scope p2) spos) (tAsg (tLc wi (gName i) (vf X.s_0 X.H_0 0 [] []) (uf X.s_0 X.H_0 0 [] []) [i]) (gName n)) (sOwn (dLc ti (dgName i) tt te [i]) n) := by
  have h := jn_lcIf (pos := p2) hc hN hi ok hg ht he hu hv hs
  refine ⟨ps_setLc (own := [(x, i)]) hc hN hy hyl hsw hi.p ok hg (fun s H C cl fp => pts_one (hv s H C cl fp ▸ (ht s H C cl fp).p)) (fun s H C cl fp => hu s H C cl fp ▸ (he s H C cl fp).p) hs, fun R q k => ?_⟩
  exact h.s R q fun p vs xs δ' H' Hs' R1 hB h0 x r ⟨hl, q1⟩ => k.nx _ _ _ _ (R1.own hB h0 r hl) x (q1 p)
end
end EL
namespace EL
open PySem PySem.Spec PyProof.Rows L2 HT
section
variable {prog : Program} {w : World} {A : Around} {E : Value → Shared → Prop} {s : Shared}
theorem rev_pick (xs : Array Value) (n : Nat) (hn : n = xs.size) : ((List.range n).filterMap fun (k : Nat) => xs[(((n : Int) - 1) + (k : Int) * (-1)).toNat]?) = xs.toList.reverse := by
  have e : ∀ l : List Nat, (∀ k ∈ l, k < n) → (l.filterMap fun (k : Nat) => xs[(((n : Int) - 1) + (k : Int) * (-1)).toNat]?) = l.map fun k => xs.getD (n - 1 - k) .none := by
    intro l
    induction l with
    | nil => intro _; rfl
    | cons k l ih =>
      intro h
      have hk := h k List.mem_cons_self
      have h1 : (((n : Int) - 1) + (k : Int) * (-1)).toNat = n - 1 - k := by omega
      have h2 : n - 1 - k < xs.size := by omega
      rw [List.map_cons, ← ih fun y hy => h y (List.mem_cons_of_mem k hy)]
      rw [List.filterMap_cons, h1, Array.getElem?_eq_getElem h2]
      simp [Array.getD, h2]
  rw [e _ fun k hk => List.mem_range.mp hk]
  refine List.ext_getElem? fun j => ?_
  by_cases hj : j < n
  · rw [List.getElem?_map, List.getElem?_range hj, List.getElem?_reverse (by rw [Array.length_toList]; omega)]
    have h2 : n - 1 - j < xs.size := by omega
    subst hn
    simp [Array.getD, h2]
  · rw [List.getElem?_eq_none (by simp; omega), List.getElem?_eq_none (by simp; omega)]
theorem getItem_tuple_rev {t sl : Addr} {items : Array Value} {vs : Value} {Q : Value → Shared → Prop} (ht : IsTup s.heap t items) (hs : s.heap.IsSliceOf sl .none .none vs) (ps : IsPart vs (some (-1)))
    (h : Q (.ref s.heap.objs.size) { s with heap := s.heap.push { cls := .type "tuple", data := .seq items.toList.reverse.toArray } })
    (hsz : items.size ≤ sizeLine) : wpAny (model prog w) A (getItem (.ref t) (.ref sl)) Q E s := by
  have htake : sizeOk (.seq items.toList.reverse.toArray) := by
    show items.toList.reverse.toArray.size ≤ sizeLine
    rw [List.size_toArray, List.length_reverse, Array.length_toList]
    exact hsz
  obtain ⟨os, hos, hcs, hds⟩ := id hs
  have hTs : s.TypeIs (.ref sl) "slice" := ⟨os, hos, hcs⟩
  unfold getItem
  try with_reducible refine wpAny_holding ?_
  first | refine wpAny_bind (wpAny_pure ?_) | skip
  refine wpAny_bind (wpAny_sequenceKey ht.typeIs (by decide) ?_)
  refine wpAny_bind (wpAny_callSpecial?_slot (name := Str.ofString "__getitem__") ht.typeIs PyProof.Rows.slot_tuple_getitem
    (wpAny_call_entry PyProof.Rows.slot_tuple_getitem ht.typeIs entry_tuple_getitem ?_ (args_tuple_getitem _ _)))
  show wpAny _ _ (Builtin.Tuple.tupleItemsOf (.ref t) >>= _) _ _ s
  refine wpAny_bind (tupleItemsOf_ ht ?_)
  refine wpAny_bind (wpAny_typeOf hTs ?_)
  rw [if_pos (by decide)]
  have ap : ∀ {A' : Around} {E' : Value → Shared → Prop} {Q' : Int × Int × Nat → Shared → Prop}, Q' ((items.size : Int) - 1, -1, items.size) s → wpAny (model prog w) A' (Builtin.Slice.sliceApplied (.ref sl) (pure (items.size : Int))) Q' E' s := fun {A' E' Q'} hq => by
    unfold Builtin.Slice.sliceApplied Builtin.Slice.sliceFields
    refine wpAny_bind (wpAny_bind (wpAny_field hos hds (x := .none) rfl (wpAny_bind (wpAny_field hos hds (x := .none) rfl (wpAny_bind (wpAny_field hos hds (x := vs) rfl (wpAny_pure ?_)))))))
    refine wpAny_bind (slicePart_ ps ?_)
    show wpAny _ _ (if ((-1 : Int) == 0) = true then _ else _) _ _ s
    rw [if_neg (by decide)]
    refine wpAny_bind (slicePart_none (wpAny_bind (slicePart_none (wpAny_bind (wpAny_pure ?_)))))
    have e : Builtin.Slice.slicePlaces ((items.size : Int) - 1) (-1) (-1) = items.size := by
      unfold Builtin.Slice.slicePlaces
      rw [if_neg (by decide)]
      have e2 : (-(-1) : Int) = 1 := rfl
      rw [e2, Int.ediv_one]
      split <;> omega
    show wpAny _ _ (pure ((items.size : Int) - 1, (-1 : Int), Builtin.Slice.slicePlaces ((items.size : Int) - 1) (-1) (-1))) _ _ s
    rw [e]
    exact wpAny_pure hq
  refine wpAny_bind (ap ?_)
  have hno : ¬ (((((items.size : Int) - 1) == 0 && (-1 : Int) == 1 && items.size == items.size)) = true) := by
    intro q
    rw [Bool.and_eq_true, Bool.and_eq_true] at q
    exact absurd q.1.2 (by decide)
  show wpAny _ _ (if ((((items.size : Int) - 1) == 0 && (-1 : Int) == 1 && items.size == items.size)) = true then _ else _) _ _ s
  rw [if_neg hno, rev_pick items _ rfl]
  first
    | exact wpAny_bind (m := Builtin.Tuple.tupleExact _) (wpAny_newObj_type (wpAny_pure ⟨_, rfl, wpAny_pure h⟩) htake)
    | exact wpAny_bind (m := Builtin.Tuple.tupleExact _) (wpAny_newObj_type (wpAny_bind (wpAny_pure (wpAny_pure ⟨_, rfl, wpAny_pure h⟩))) htake)
    | exact wpAny_bind (wpAny_bind (m := Builtin.Tuple.tupleExact _) (wpAny_newObj_type (wpAny_pure (wpAny_pure ⟨_, rfl, wpAny_pure h⟩)) htake))
    | exact wpAny_bind (wpAny_bind (m := Builtin.Tuple.tupleExact _) (wpAny_newObj_type (wpAny_pure ⟨_, rfl, wpAny_pure h⟩) htake))
end
def tRevTu (K : PySem.W.Frag) (te : TE) : TE := fun σ H Q => te σ H fun x H1 => ∃ a xs, x = .ref a ∧ SqT K H1 a xs ∧ ∀ p, H1 p = none → Q (.ref p) (upd H1 p (.tup xs.reverse))
theorem pe_revTu {X : Cx} {e : Expr} {te : TE} {k : Nat} {p1 p2 p3 pos : Pos} (he : PE X e te) : PE X (.Subscript e (.Slice none none (some (.UnaryOp .USub (.Constant (.int 1) k p1) p2)) p3) pos) (tRevTu X.K te) := by
  refine ⟨fun pins s σ H Q I h => ?_⟩
  refine Subscript_ (thn (he.run pins s σ H _ I h) fun v s1 ⟨x, H1, I1, r1, q1⟩ => ?_)
  obtain ⟨a, xs, ex, hx, q⟩ := q1
  subst ex
  cases r1
  have hst : PO X (some (.UnaryOp .USub (.Constant (.int 1) k p1) p2)) (tPart (tUn (rU fun i => .int (-i)) (tC (.int 1)))) := po_some (pe_un un_neg pe_int)
  refine wpAny_Slice (thn (po_none.run pins s1 σ H1 (fun o H2 => o = none ∧ H2 = H1) I1 ⟨rfl, rfl⟩) fun vl s2 ⟨l, H2, I2, pl, el, e2⟩ => ?_)
  subst el e2
  refine thn (po_none.run pins s2 σ H2 (fun o H3 => o = none ∧ H3 = H2) I2 ⟨rfl, rfl⟩) fun vu s3 ⟨u, H3, I3, pu, eu, e3⟩ => ?_
  subst eu e3
  refine thn (hst.run pins s3 σ H3 (fun o H4 => o = some (-1) ∧ H4 = H3) I3 ⟨1, rfl, -1, rfl, rfl, rfl⟩) fun vs s4 ⟨o, H4, I4, ps, eo, e4⟩ => ?_
  subst eo e4
  cases pl
  cases pu
  have I5 : Inv X pins σ H4 { s4 with heap := s4.heap.push { cls := .type "slice", data := .fields #[.none, .none, vs] } } := I4.kept (t' := s4.toks) fun b ob q => Heap.get?_push_of_some _ q
  obtain ⟨its, r, ht, hz⟩ := I5.tuple hx
  have hlen := r.length
  show wpAny (model X.prog X.w) X.A (subscriptTail e (.Slice none none (some (.UnaryOp .USub (.Constant (.int 1) k p1) p2)) p3) (.ref a) (.ref s4.heap.objs.size)) (EP X pins σ Q) X.xe { s4 with heap := s4.heap.push { cls := .type "slice", data := .fields #[.none, .none, vs] } }
  refine tail_any (ops := [.ref a, .ref s4.heap.objs.size]) ht.typeIs (PyProof.Rows.slot_tuple_getitem.lookup) ?_ (by with_unfolding_all rfl)
  refine getItem_tuple_rev ht (Heap.IsSliceOf.new _ .none .none vs) ps ?_ (by rw [List.size_toArray]; omega)
  refine ⟨.ref _, _, I5.laid (t' := s4.toks) (o := .tup xs.reverse) (fun b ob q => Heap.get?_push_of_some _ q) (Nat.le_refl _) ?_, rfl, q _ (I5.hok.fresh (Nat.le_refl _))⟩
  exact ⟨by rw [List.length_reverse]; exact hz, _, r.reverse, IsTup.new _ _⟩
def dRevT (t : TDE) : TDE := fun δ Q => t δ fun d δ1 => ∃ xs, d = .tuple xs ∧ Q (.tuple xs.reverse) δ1
theorem je_revT {X : Cy} {e : Expr} {ue : TE} {t : TDE} {k : Nat} {p1 p2 p3 pos : Pos} (he : JE X e ue t) : JE X (.Subscript e (.Slice none none (some (.UnaryOp .USub (.Constant (.int 1) k p1) p2)) p3) pos) (tRevTu X.K ue) (dRevT t) := by
  obtain ⟨p, s⟩ := he
  refine ⟨pe_revTu p, fun R h k => s R h fun v d δ1 H1 Hs1 R1 e1 r1 ⟨xs, e, q⟩ => ?_⟩
  subst e
  cases r1 with
  | @tup a vs ds h1 a1 =>
    refine ⟨a, vs, rfl, R1.ex.st h1, fun p hp => ?_⟩
    have x := PExt.new R1.ex (.tup vs.reverse) hp
    exact k _ _ _ _ _ (R1.ext x) (e1.trans x.s) (.tup (.inl (.inl upd_same)) (dpAll_mono x.s (dpAll_rev a1))) q
theorem st_revT {δ : Dl} {Q : D → Dl → Prop} {t : TDE} (q : t δ fun d δ1 => ∃ xs, d = .tuple xs ∧ Q (.tuple xs.reverse) δ1) : dRevT t δ Q := q
end EL
namespace EL
open PySem PySem.Spec PyProof.Rows L2
def wPm2 (u : TDW) : TDW := fun δ Q => u δ fun es δ' => ∃ e1 e2, es = [e1, e2] ∧ (∃ (i : Nat) (d : D), e2 = .sl i ∨ e2 = .dt d) ∧ Q [e2, e1] δ'
theorem evs_swap {K : PySem.W.Frag} {H0 Hs B B' : Hp} {σ : L2.St} {vs : List V} {e1 e2 : Ev} (h : Evs K H0 Hs σ B B' vs [e1, e2]) (h2 : ∃ (i : Nat) (d : D), e2 = .sl i ∨ e2 = .dt d) : vs.length = 2 ∧ Evs K H0 Hs σ B B' (permL [1, 0] vs) [e2, e1] := by
  obtain ⟨i, d, rfl | rfl⟩ := h2
  · cases h with
    | sl h1 t =>
      cases t with
      | sl h2 t => cases t; exact ⟨rfl, .sl h2 (.sl h1 .nil)⟩
    | dt h1 t =>
      cases t with
      | sl h2 t => cases t; exact ⟨rfl, .sl h2 (.dt h1 .nil)⟩
    | rg h1 t =>
      cases t with
      | sl h2 t => cases t; exact ⟨rfl, .sl h2 (.rg h1 .nil)⟩
  · cases h with
    | sl h1 t =>
      cases t with
      | dt h2 t => cases t; exact ⟨rfl, .dt h2 (.sl h1 .nil)⟩
    | dt h1 t =>
      cases t with
      | dt h2 t => cases t; exact ⟨rfl, .dt h2 (.dt h1 .nil)⟩
    | rg h1 t =>
      cases t with
      | dt h2 t => cases t; exact ⟨rfl, .dt h2 (.rg h1 .nil)⟩
section
variable {X : Cy} {us : TA} {tw : TDW}
theorem simw_kw2 (h : SimW X.z us tw) : SimW X.z (tKw 2 [1, 0] us) (wPm2 tw) := fun R q k => h R q fun vs es δ' H' Hs' B' R' r x ⟨e1, e2, he, hp, q⟩ => by
  subst he
  obtain ⟨h1, h2⟩ := evs_swap r hp
  exact ⟨h1, k _ _ _ _ _ _ R' h2 x q⟩
variable {pos p : Pos} {dsp : DSp} {K' : PySem.W.Frag} {x : Str} {f : Addr} {fd : FuncData} {ps : List Str} {k1 k2 : Str} {n : Nat} {kws : List Keyword}
theorem jm_callK2 (F : FnOk X.prog X.w X.K X.mg X.base (L2.CX X.prog X.w) n f fd ps (spOf K' dsp)) (hr : Room n X.A) (hm : X.mg x = some (.ref f)) (hk : PySem.W.keepIn X.K (.ref f) = true) (hb : KBinds X.K fd ps [k1, k2] (gK 2 [1, 0]) (gK 2 [1, 0])) (ha : JKq X kws us tw) (hg : Gl X x := by rfl)
    (hall : (backToKw pos (keywordEach kws X.env)).all (·.1.isSome) = true := by rfl) (hks : (backToKw pos (keywordEach kws X.env)).filterMap (·.1) = [k1, k2] := by rfl) (hdb : (x == ("__debug__" : Str)) = false := by decide)
    (hpl : ((backTo pos (starEach [] X.env)).any (·.1) || (backToKw pos (keywordEach kws X.env)).any (·.1.isNone)) = false := by rfl) : JM X (.Call (.Name x p) [] kws pos) K' dsp (tKw 2 [1, 0] us) (wPm2 tw) :=
  ⟨pe_callKS (ks := [k1, k2]) F hr hm hk hb (Mode.never X).pas ha.p hg hall hks hdb hpl, simw_kw2 ha.s⟩
end
theorem st_wPm2 {δ : Dl} {u : TDW} {Qw : List Ev → Dl → Prop} (q : u δ fun es δ' => ∃ e1 e2, es = [e1, e2] ∧ (∃ (i : Nat) (d : D), e2 = .sl i ∨ e2 = .dt d) ∧ Qw [e2, e1] δ') : wPm2 u δ Qw := q
end EL
namespace K20
open PySem PySem.Spec PyProof.Rows L2 EL
local macro_rules | `(tactic| walk_at "1") => `(tactic| first
  | ((with_reducible refine' st_var ?k1 ?_); (case k1 => exact rfl))
  | with_reducible refine' st_seq ?_
  | with_reducible refine' st_c ?_
  | with_reducible refine' st_asg ?_
  | with_reducible refine' st_name ?_
  | with_reducible refine' st_cons ?_
  | with_reducible refine' st_nil ?_
  | with_reducible refine' st_op ?_
  | with_reducible refine' st_test ?_
  | with_reducible refine' ex_bool ?_
  | with_reducible refine' ex_int ?_
  | with_reducible refine' st_ret ?_
  | with_reducible refine' st_retN ?_
  | with_reducible refine' st_next ?_
  | with_reducible refine' st_brk ?_
  | with_reducible refine' st_cont ?_
  | with_reducible refine' st_drop ?_
  | with_reducible refine' st_tup ?_
  | with_reducible refine' st_new ?_
  | with_reducible refine' st_lst ?_
  | with_reducible refine' st_call ?_
  | with_reducible refine' st_callN ?_
  | with_reducible refine' st_isN ?_
  | with_reducible refine' st_notN ?_
  | with_reducible refine' st_and ?_
  | with_reducible refine' st_or ?_
  | with_reducible refine' st_not ?_
  | with_reducible refine' st_andV ?_
  | with_reducible refine' st_orV ?_
  | with_reducible refine' st_notV ?_
  | with_reducible refine' st_ifE ?_
  | with_reducible refine' st_chain ?_
  | with_reducible refine' st_tru ?_
  | with_reducible refine' st_add ?_
  | with_reducible refine' st_sub ?_
  | with_reducible refine' st_eqI ?_
  | with_reducible refine' st_neI ?_
  | with_reducible refine' st_eqS ?_
  | with_reducible refine' st_eqB ?_
  | with_reducible refine' st_neB ?_
  | with_reducible refine' st_ltI ?_
  | with_reducible refine' st_gtI ?_
  | with_reducible refine' st_leI ?_
  | with_reducible refine' st_geI ?_
  | with_reducible refine' st_lenL ?_
  | with_reducible refine' st_lenT ?_
  | with_reducible refine' st_int ?_
  | with_reducible refine' st_intB ?_
  | with_reducible refine' st_isi ?_
  | with_reducible refine' st_isi2 ?_
  | with_reducible refine' st_sl ?_
  | with_reducible refine' st_slN ?_
  | with_reducible refine' st_nopart ?_
  | with_reducible refine' st_part ?_
  | with_reducible refine' st_rev ?_
  | with_reducible refine' ex_list ?_
  | with_reducible refine' ex_tuple ?_
  | with_reducible refine' st_slL ?_
  | with_reducible refine' st_slT ?_
  | with_reducible refine' st_listL ?_
  | with_reducible refine' st_listT ?_
  | with_reducible refine' st_tupleL ?_
  | with_reducible refine' st_int2 ?_
  | with_reducible refine' st_own ?_
  | with_reducible refine' st_for ?_
  | with_reducible refine' st_iLst ?_
  | with_reducible refine' st_iTup ?_
  | with_reducible refine' st_iRg1 ?_
  | with_reducible refine' st_iRg2 ?_
  | with_reducible refine' st_yes ?_
  | with_reducible refine' st_gCons ?_
  | with_reducible refine' st_gNil ?_
  | with_reducible refine' st_cNil ?_
  | with_reducible refine' st_cCons ?_
  | with_reducible refine' st_callF ?_
  | with_reducible refine' st_callNw ?_
  | with_reducible refine' st_retNew ?_
  | with_reducible refine' st_neg ?_
  | with_reducible refine' st_inO ?_
  | with_reducible refine' st_addN ?_
  | with_reducible refine' st_abs ?_
  | with_reducible refine' st_iZip ?_
  | ((with_reducible refine' and_ok ?k1 ?_); (case k1 => exact rfl))
  | ((with_reducible refine' st_lenO ?k1 ?_); (case k1 => exact rfl))
  | ((with_reducible refine' st_aug ?k1 ?_); (case k1 => exact rfl))
  | ((with_reducible refine' st_app ?k1 ?_); (case k1 => exact rfl))
  | ((with_reducible refine' st_frz ?k1 ?_); (case k1 => exact rfl))
  | ((with_reducible refine' st_sfrz ?k1 ?_); (case k1 => exact rfl))
  | ((with_reducible refine' st_gTup ?k1 ?_); (case k1 => exact rfl))
  | ((with_reducible refine' st_cLend ?k1 ?_); (case k1 => exact rfl))
  | ((with_reducible refine' st_retOwn ?k1 ?_); (case k1 => exact rfl))
  | ((with_reducible refine' st_ixO ?k1 ?_); (case k1 => exact rfl))
  | ((with_reducible refine' st_truO ?k1 ?_); (case k1 => exact rfl))
  | ((with_reducible refine' st_slO ?k1 ?_); (case k1 => exact rfl))
  | ((with_reducible refine' st_revO ?k1 ?_); (case k1 => exact rfl))
  | ((with_reducible refine' own_ok ?k1 (fun p => ?_)); (case k1 => exact rfl))
  | ((with_reducible refine' st_mulR ?k1 ?_); (case k1 => decide))
  | ((with_reducible refine' st_mulL ?k1 ?_); (case k1 => decide))
  | ((with_reducible refine' st_mod ?k1 ?_); (case k1 => decide))
  | ((with_reducible refine' st_fdiv ?k1 ?_); (case k1 => decide))
  | ((with_reducible refine' st_pow ?k1 ?_); (case k1 => decide)))
local macro_rules | `(tactic| walk_at "w") => `(tactic| repeat (first | walk_at "1" | with_reducible refine' st_if ?_ | dsimp only [List.set]))
local macro_rules | `(tactic| walk_at "v") => `(tactic| repeat (first | walk_at "1" | dsimp only [List.set]))
local macro_rules | `(tactic| walk_at "s") => `(tactic| (dsimp only [List.set, back, wipeD, mixD]))
local macro_rules | `(tactic| walk_at "o") => `(tactic| simp only [List.set, outs, oneOut, ↓reduceIte])
local macro_rules | `(tactic| walk_at "2") => `(tactic| first
  | with_reducible refine' st_isB ?_
  | with_reducible refine' st_notB ?_
  | with_reducible refine' st_dputT ?_
  | with_reducible refine' st_dputK ?_
  | with_reducible refine' st_cPerm ?_
  | with_reducible refine' st_dispK ?_
  | with_reducible refine' st_dpNil ?_
  | with_reducible refine' st_dpCons ?_
  | with_reducible refine' st_ownC ?_
  | with_reducible refine' st_ix0 ?_
  | with_reducible refine' st_ix1 ?_
  | with_reducible refine' st_ix2 ?_
  | with_reducible refine' st_ix3 ?_
  | with_reducible refine' st_ixl0 ?_
  | with_reducible refine' st_ixl1 ?_
  | ((with_reducible refine' ex_one ?k1 ?_); (case k1 => exact rfl))
  | ((with_reducible refine' st_look ?k1 ?_); (case k1 => exact rfl))
  | ((with_reducible refine' st_truA ?k1 ?_); (case k1 => exact rfl))
  | ((with_reducible refine' st_truAd ?k1 ?_); (case k1 => exact rfl))
  | ((with_reducible refine' st_cAny ?k1 ?_); (case k1 => exact rfl))
  | ((with_reducible refine' st_cAnyD ?k1 ?_); (case k1 => exact rfl))
  | ((with_reducible refine' st_retObj ?k1 ?_); (case k1 => exact rfl))
  | ((with_reducible refine' st_dictT ?k1 (fun p => ?_)); (case k1 => exact rfl))
  | ((with_reducible refine' st_dictK ?k1 (fun p => ?_)); (case k1 => exact rfl))
  | ((with_reducible refine' st_ixT ?k1 ?_); (case k1 => exact rfl))
  | ((with_reducible refine' st_ixL ?k1 ?_); (case k1 => exact rfl))
  | with_reducible refine' ite_T ?_
  | with_reducible refine' ite_F ?_
  | ((with_reducible refine' ite_kT ?k1 ?_); (case k1 => first | exact rfl | decide +kernel))
  | ((with_reducible refine' ite_kF ?k1 ?_); (case k1 => first | exact rfl | decide +kernel)))
local macro_rules | `(tactic| walk_at "x") => `(tactic| repeat (first | walk_at "1" | walk_at "2" | with_reducible refine' st_if ?_ | dsimp only [List.set]))
local macro_rules | `(tactic| walk_at "has") => `(tactic| first
  | exact has_at 0 0 rfl rfl
  | exact has_at 0 1 rfl rfl
  | exact has_at 0 2 rfl rfl
  | exact has_at 0 3 rfl rfl
  | exact has_at 1 0 rfl rfl
  | exact has_at 1 1 rfl rfl
  | exact has_at 1 2 rfl rfl
  | exact has_at 1 3 rfl rfl
  | exact has_at 2 0 rfl rfl
  | exact has_at 2 1 rfl rfl
  | exact has_at 2 2 rfl rfl
  | exact has_at 2 3 rfl rfl
  | exact has_at 3 0 rfl rfl
  | exact has_at 3 1 rfl rfl
  | exact has_at 3 2 rfl rfl
  | exact has_at 3 3 rfl rfl
  | exact has_at 4 0 rfl rfl
  | exact has_at 4 1 rfl rfl
  | exact has_at 4 2 rfl rfl
  | exact has_at 4 3 rfl rfl
  | exact has_at 5 0 rfl rfl
  | exact has_at 5 1 rfl rfl
  | exact has_at 5 2 rfl rfl
  | exact has_at 5 3 rfl rfl)
local macro_rules | `(tactic| walk_at "put") => `(tactic| first
  | ((refine' put_at0 0 0 ?k1 ?k2 ?_); (case k1 => exact rfl); (case k2 => exact rfl))
  | ((refine' put_at0 0 1 ?k1 ?k2 ?_); (case k1 => exact rfl); (case k2 => exact rfl))
  | ((refine' put_at0 0 2 ?k1 ?k2 ?_); (case k1 => exact rfl); (case k2 => exact rfl))
  | ((refine' put_at0 0 3 ?k1 ?k2 ?_); (case k1 => exact rfl); (case k2 => exact rfl))
  | ((refine' put_at0 1 0 ?k1 ?k2 ?_); (case k1 => exact rfl); (case k2 => exact rfl))
  | ((refine' put_at0 1 1 ?k1 ?k2 ?_); (case k1 => exact rfl); (case k2 => exact rfl))
  | ((refine' put_at0 1 2 ?k1 ?k2 ?_); (case k1 => exact rfl); (case k2 => exact rfl))
  | ((refine' put_at0 1 3 ?k1 ?k2 ?_); (case k1 => exact rfl); (case k2 => exact rfl))
  | ((refine' put_at0 2 0 ?k1 ?k2 ?_); (case k1 => exact rfl); (case k2 => exact rfl))
  | ((refine' put_at0 2 1 ?k1 ?k2 ?_); (case k1 => exact rfl); (case k2 => exact rfl))
  | ((refine' put_at0 2 2 ?k1 ?k2 ?_); (case k1 => exact rfl); (case k2 => exact rfl))
  | ((refine' put_at0 2 3 ?k1 ?k2 ?_); (case k1 => exact rfl); (case k2 => exact rfl))
  | ((refine' put_at0 3 0 ?k1 ?k2 ?_); (case k1 => exact rfl); (case k2 => exact rfl))
  | ((refine' put_at0 3 1 ?k1 ?k2 ?_); (case k1 => exact rfl); (case k2 => exact rfl))
  | ((refine' put_at0 3 2 ?k1 ?k2 ?_); (case k1 => exact rfl); (case k2 => exact rfl))
  | ((refine' put_at0 3 3 ?k1 ?k2 ?_); (case k1 => exact rfl); (case k2 => exact rfl))
  | ((refine' put_at0 4 0 ?k1 ?k2 ?_); (case k1 => exact rfl); (case k2 => exact rfl))
  | ((refine' put_at0 4 1 ?k1 ?k2 ?_); (case k1 => exact rfl); (case k2 => exact rfl))
  | ((refine' put_at0 4 2 ?k1 ?k2 ?_); (case k1 => exact rfl); (case k2 => exact rfl))
  | ((refine' put_at0 4 3 ?k1 ?k2 ?_); (case k1 => exact rfl); (case k2 => exact rfl))
  | ((refine' put_at0 5 0 ?k1 ?k2 ?_); (case k1 => exact rfl); (case k2 => exact rfl))
  | ((refine' put_at0 5 1 ?k1 ?k2 ?_); (case k1 => exact rfl); (case k2 => exact rfl))
  | ((refine' put_at0 5 2 ?k1 ?k2 ?_); (case k1 => exact rfl); (case k2 => exact rfl))
  | ((refine' put_at0 5 3 ?k1 ?k2 ?_); (case k1 => exact rfl); (case k2 => exact rfl))
  | ((refine' put_at 0 0 ?k1 ?k2 ?_); (case k1 => exact rfl); (case k2 => exact rfl))
  | ((refine' put_at 0 1 ?k1 ?k2 ?_); (case k1 => exact rfl); (case k2 => exact rfl))
  | ((refine' put_at 0 2 ?k1 ?k2 ?_); (case k1 => exact rfl); (case k2 => exact rfl))
  | ((refine' put_at 0 3 ?k1 ?k2 ?_); (case k1 => exact rfl); (case k2 => exact rfl))
  | ((refine' put_at 1 0 ?k1 ?k2 ?_); (case k1 => exact rfl); (case k2 => exact rfl))
  | ((refine' put_at 1 1 ?k1 ?k2 ?_); (case k1 => exact rfl); (case k2 => exact rfl))
  | ((refine' put_at 1 2 ?k1 ?k2 ?_); (case k1 => exact rfl); (case k2 => exact rfl))
  | ((refine' put_at 1 3 ?k1 ?k2 ?_); (case k1 => exact rfl); (case k2 => exact rfl))
  | ((refine' put_at 2 0 ?k1 ?k2 ?_); (case k1 => exact rfl); (case k2 => exact rfl))
  | ((refine' put_at 2 1 ?k1 ?k2 ?_); (case k1 => exact rfl); (case k2 => exact rfl))
  | ((refine' put_at 2 2 ?k1 ?k2 ?_); (case k1 => exact rfl); (case k2 => exact rfl))
  | ((refine' put_at 2 3 ?k1 ?k2 ?_); (case k1 => exact rfl); (case k2 => exact rfl))
  | ((refine' put_at 3 0 ?k1 ?k2 ?_); (case k1 => exact rfl); (case k2 => exact rfl))
  | ((refine' put_at 3 1 ?k1 ?k2 ?_); (case k1 => exact rfl); (case k2 => exact rfl))
  | ((refine' put_at 3 2 ?k1 ?k2 ?_); (case k1 => exact rfl); (case k2 => exact rfl))
  | ((refine' put_at 3 3 ?k1 ?k2 ?_); (case k1 => exact rfl); (case k2 => exact rfl))
  | ((refine' put_at 4 0 ?k1 ?k2 ?_); (case k1 => exact rfl); (case k2 => exact rfl))
  | ((refine' put_at 4 1 ?k1 ?k2 ?_); (case k1 => exact rfl); (case k2 => exact rfl))
  | ((refine' put_at 4 2 ?k1 ?k2 ?_); (case k1 => exact rfl); (case k2 => exact rfl))
  | ((refine' put_at 4 3 ?k1 ?k2 ?_); (case k1 => exact rfl); (case k2 => exact rfl))
  | ((refine' put_at 5 0 ?k1 ?k2 ?_); (case k1 => exact rfl); (case k2 => exact rfl))
  | ((refine' put_at 5 1 ?k1 ?k2 ?_); (case k1 => exact rfl); (case k2 => exact rfl))
  | ((refine' put_at 5 2 ?k1 ?k2 ?_); (case k1 => exact rfl); (case k2 => exact rfl))
  | ((refine' put_at 5 3 ?k1 ?k2 ?_); (case k1 => exact rfl); (case k2 => exact rfl)))
local macro_rules | `(tactic| walk_at "fput") => `(tactic| first
  | ((refine' ex_fputB ?k0 (put_at0 0 0 ?k1 ?k2 ?_)); (case k1 => exact rfl); (case k2 => exact rfl); (case k0 => exact rfl))
  | ((refine' ex_fputB ?k0 (put_at0 0 1 ?k1 ?k2 ?_)); (case k1 => exact rfl); (case k2 => exact rfl); (case k0 => exact rfl))
  | ((refine' ex_fputB ?k0 (put_at0 0 2 ?k1 ?k2 ?_)); (case k1 => exact rfl); (case k2 => exact rfl); (case k0 => exact rfl))
  | ((refine' ex_fputB ?k0 (put_at0 1 0 ?k1 ?k2 ?_)); (case k1 => exact rfl); (case k2 => exact rfl); (case k0 => exact rfl))
  | ((refine' ex_fputB ?k0 (put_at0 1 1 ?k1 ?k2 ?_)); (case k1 => exact rfl); (case k2 => exact rfl); (case k0 => exact rfl))
  | ((refine' ex_fputB ?k0 (put_at0 1 2 ?k1 ?k2 ?_)); (case k1 => exact rfl); (case k2 => exact rfl); (case k0 => exact rfl))
  | ((refine' ex_fputB ?k0 (put_at0 2 0 ?k1 ?k2 ?_)); (case k1 => exact rfl); (case k2 => exact rfl); (case k0 => exact rfl))
  | ((refine' ex_fputB ?k0 (put_at0 2 1 ?k1 ?k2 ?_)); (case k1 => exact rfl); (case k2 => exact rfl); (case k0 => exact rfl))
  | ((refine' ex_fputB ?k0 (put_at0 2 2 ?k1 ?k2 ?_)); (case k1 => exact rfl); (case k2 => exact rfl); (case k0 => exact rfl))
  | ((refine' ex_fputB ?k0 (put_at0 3 0 ?k1 ?k2 ?_)); (case k1 => exact rfl); (case k2 => exact rfl); (case k0 => exact rfl))
  | ((refine' ex_fputB ?k0 (put_at0 3 1 ?k1 ?k2 ?_)); (case k1 => exact rfl); (case k2 => exact rfl); (case k0 => exact rfl))
  | ((refine' ex_fputB ?k0 (put_at0 3 2 ?k1 ?k2 ?_)); (case k1 => exact rfl); (case k2 => exact rfl); (case k0 => exact rfl))
  | ((refine' ex_fputB ?k0 (put_at 0 0 ?k1 ?k2 ?_)); (case k1 => exact rfl); (case k2 => exact rfl); (case k0 => exact rfl))
  | ((refine' ex_fputB ?k0 (put_at 0 1 ?k1 ?k2 ?_)); (case k1 => exact rfl); (case k2 => exact rfl); (case k0 => exact rfl))
  | ((refine' ex_fputB ?k0 (put_at 0 2 ?k1 ?k2 ?_)); (case k1 => exact rfl); (case k2 => exact rfl); (case k0 => exact rfl))
  | ((refine' ex_fputB ?k0 (put_at 1 0 ?k1 ?k2 ?_)); (case k1 => exact rfl); (case k2 => exact rfl); (case k0 => exact rfl))
  | ((refine' ex_fputB ?k0 (put_at 1 1 ?k1 ?k2 ?_)); (case k1 => exact rfl); (case k2 => exact rfl); (case k0 => exact rfl))
  | ((refine' ex_fputB ?k0 (put_at 1 2 ?k1 ?k2 ?_)); (case k1 => exact rfl); (case k2 => exact rfl); (case k0 => exact rfl))
  | ((refine' ex_fputB ?k0 (put_at 2 0 ?k1 ?k2 ?_)); (case k1 => exact rfl); (case k2 => exact rfl); (case k0 => exact rfl))
  | ((refine' ex_fputB ?k0 (put_at 2 1 ?k1 ?k2 ?_)); (case k1 => exact rfl); (case k2 => exact rfl); (case k0 => exact rfl))
  | ((refine' ex_fputB ?k0 (put_at 2 2 ?k1 ?k2 ?_)); (case k1 => exact rfl); (case k2 => exact rfl); (case k0 => exact rfl))
  | ((refine' ex_fputB ?k0 (put_at 3 0 ?k1 ?k2 ?_)); (case k1 => exact rfl); (case k2 => exact rfl); (case k0 => exact rfl))
  | ((refine' ex_fputB ?k0 (put_at 3 1 ?k1 ?k2 ?_)); (case k1 => exact rfl); (case k2 => exact rfl); (case k0 => exact rfl))
  | ((refine' ex_fputB ?k0 (put_at 3 2 ?k1 ?k2 ?_)); (case k1 => exact rfl); (case k2 => exact rfl); (case k0 => exact rfl)))
local macro_rules | `(tactic| walk_at "dput") => `(tactic| first
  | ((refine' ex_putB ?k3 ?k0 (put_at0 0 0 ?k1 ?k2 ?_)); (case k1 => exact rfl); (case k2 => exact rfl); (case k0 => exact rfl); (case k3 => exact rfl))
  | ((refine' ex_putB ?k3 ?k0 (put_at0 0 1 ?k1 ?k2 ?_)); (case k1 => exact rfl); (case k2 => exact rfl); (case k0 => exact rfl); (case k3 => exact rfl))
  | ((refine' ex_putB ?k3 ?k0 (put_at0 0 2 ?k1 ?k2 ?_)); (case k1 => exact rfl); (case k2 => exact rfl); (case k0 => exact rfl); (case k3 => exact rfl))
  | ((refine' ex_putB ?k3 ?k0 (put_at0 0 3 ?k1 ?k2 ?_)); (case k1 => exact rfl); (case k2 => exact rfl); (case k0 => exact rfl); (case k3 => exact rfl))
  | ((refine' ex_putB ?k3 ?k0 (put_at0 1 0 ?k1 ?k2 ?_)); (case k1 => exact rfl); (case k2 => exact rfl); (case k0 => exact rfl); (case k3 => exact rfl))
  | ((refine' ex_putB ?k3 ?k0 (put_at0 1 1 ?k1 ?k2 ?_)); (case k1 => exact rfl); (case k2 => exact rfl); (case k0 => exact rfl); (case k3 => exact rfl))
  | ((refine' ex_putB ?k3 ?k0 (put_at0 1 2 ?k1 ?k2 ?_)); (case k1 => exact rfl); (case k2 => exact rfl); (case k0 => exact rfl); (case k3 => exact rfl))
  | ((refine' ex_putB ?k3 ?k0 (put_at0 1 3 ?k1 ?k2 ?_)); (case k1 => exact rfl); (case k2 => exact rfl); (case k0 => exact rfl); (case k3 => exact rfl))
  | ((refine' ex_putB ?k3 ?k0 (put_at0 2 0 ?k1 ?k2 ?_)); (case k1 => exact rfl); (case k2 => exact rfl); (case k0 => exact rfl); (case k3 => exact rfl))
  | ((refine' ex_putB ?k3 ?k0 (put_at0 2 1 ?k1 ?k2 ?_)); (case k1 => exact rfl); (case k2 => exact rfl); (case k0 => exact rfl); (case k3 => exact rfl))
  | ((refine' ex_putB ?k3 ?k0 (put_at0 2 2 ?k1 ?k2 ?_)); (case k1 => exact rfl); (case k2 => exact rfl); (case k0 => exact rfl); (case k3 => exact rfl))
  | ((refine' ex_putB ?k3 ?k0 (put_at0 2 3 ?k1 ?k2 ?_)); (case k1 => exact rfl); (case k2 => exact rfl); (case k0 => exact rfl); (case k3 => exact rfl))
  | ((refine' ex_putB ?k3 ?k0 (put_at0 3 0 ?k1 ?k2 ?_)); (case k1 => exact rfl); (case k2 => exact rfl); (case k0 => exact rfl); (case k3 => exact rfl))
  | ((refine' ex_putB ?k3 ?k0 (put_at0 3 1 ?k1 ?k2 ?_)); (case k1 => exact rfl); (case k2 => exact rfl); (case k0 => exact rfl); (case k3 => exact rfl))
  | ((refine' ex_putB ?k3 ?k0 (put_at0 3 2 ?k1 ?k2 ?_)); (case k1 => exact rfl); (case k2 => exact rfl); (case k0 => exact rfl); (case k3 => exact rfl))
  | ((refine' ex_putB ?k3 ?k0 (put_at0 3 3 ?k1 ?k2 ?_)); (case k1 => exact rfl); (case k2 => exact rfl); (case k0 => exact rfl); (case k3 => exact rfl))
  | ((refine' ex_putB ?k3 ?k0 (put_at 0 0 ?k1 ?k2 ?_)); (case k1 => exact rfl); (case k2 => exact rfl); (case k0 => exact rfl); (case k3 => exact rfl))
  | ((refine' ex_putB ?k3 ?k0 (put_at 0 1 ?k1 ?k2 ?_)); (case k1 => exact rfl); (case k2 => exact rfl); (case k0 => exact rfl); (case k3 => exact rfl))
  | ((refine' ex_putB ?k3 ?k0 (put_at 0 2 ?k1 ?k2 ?_)); (case k1 => exact rfl); (case k2 => exact rfl); (case k0 => exact rfl); (case k3 => exact rfl))
  | ((refine' ex_putB ?k3 ?k0 (put_at 0 3 ?k1 ?k2 ?_)); (case k1 => exact rfl); (case k2 => exact rfl); (case k0 => exact rfl); (case k3 => exact rfl))
  | ((refine' ex_putB ?k3 ?k0 (put_at 1 0 ?k1 ?k2 ?_)); (case k1 => exact rfl); (case k2 => exact rfl); (case k0 => exact rfl); (case k3 => exact rfl))
  | ((refine' ex_putB ?k3 ?k0 (put_at 1 1 ?k1 ?k2 ?_)); (case k1 => exact rfl); (case k2 => exact rfl); (case k0 => exact rfl); (case k3 => exact rfl))
  | ((refine' ex_putB ?k3 ?k0 (put_at 1 2 ?k1 ?k2 ?_)); (case k1 => exact rfl); (case k2 => exact rfl); (case k0 => exact rfl); (case k3 => exact rfl))
  | ((refine' ex_putB ?k3 ?k0 (put_at 1 3 ?k1 ?k2 ?_)); (case k1 => exact rfl); (case k2 => exact rfl); (case k0 => exact rfl); (case k3 => exact rfl))
  | ((refine' ex_putB ?k3 ?k0 (put_at 2 0 ?k1 ?k2 ?_)); (case k1 => exact rfl); (case k2 => exact rfl); (case k0 => exact rfl); (case k3 => exact rfl))
  | ((refine' ex_putB ?k3 ?k0 (put_at 2 1 ?k1 ?k2 ?_)); (case k1 => exact rfl); (case k2 => exact rfl); (case k0 => exact rfl); (case k3 => exact rfl))
  | ((refine' ex_putB ?k3 ?k0 (put_at 2 2 ?k1 ?k2 ?_)); (case k1 => exact rfl); (case k2 => exact rfl); (case k0 => exact rfl); (case k3 => exact rfl))
  | ((refine' ex_putB ?k3 ?k0 (put_at 2 3 ?k1 ?k2 ?_)); (case k1 => exact rfl); (case k2 => exact rfl); (case k0 => exact rfl); (case k3 => exact rfl))
  | ((refine' ex_putB ?k3 ?k0 (put_at 3 0 ?k1 ?k2 ?_)); (case k1 => exact rfl); (case k2 => exact rfl); (case k0 => exact rfl); (case k3 => exact rfl))
  | ((refine' ex_putB ?k3 ?k0 (put_at 3 1 ?k1 ?k2 ?_)); (case k1 => exact rfl); (case k2 => exact rfl); (case k0 => exact rfl); (case k3 => exact rfl))
  | ((refine' ex_putB ?k3 ?k0 (put_at 3 2 ?k1 ?k2 ?_)); (case k1 => exact rfl); (case k2 => exact rfl); (case k0 => exact rfl); (case k3 => exact rfl))
  | ((refine' ex_putB ?k3 ?k0 (put_at 3 3 ?k1 ?k2 ?_)); (case k1 => exact rfl); (case k2 => exact rfl); (case k0 => exact rfl); (case k3 => exact rfl)))
local macro_rules | `(tactic| walk_at "3") => `(tactic| first
  | with_reducible refine' st_vD ?_
  | with_reducible refine' st_eV ?_
  | with_reducible refine' ex_dt ?_
  | with_reducible refine' ex_rf ?_
  | with_reducible refine' st_vKey ?_
  | with_reducible refine' st_vIx ?_
  | with_reducible refine' ex_ixD ?_
  | with_reducible refine' st_vFld ?_
  | with_reducible refine' st_asgV ?_
  | with_reducible refine' st_lenV ?_
  | with_reducible refine' st_tupV ?_
  | with_reducible refine' st_listV ?_
  | with_reducible refine' st_listD ?_
  | with_reducible refine' st_dIn ?_
  | with_reducible refine' st_bNone ?_
  | with_reducible refine' st_putV ?_
  | with_reducible refine' st_setV ?_
  | with_reducible refine' st_appV ?_
  | with_reducible refine' st_insV ?_
  | with_reducible refine' st_popAt ?_
  | with_reducible refine' st_fldV ?_
  | with_reducible refine' st_fldAug ?_
  | with_reducible refine' st_dropV ?_
  | with_reducible refine' st_retV ?_
  | with_reducible refine' st_vNil ?_
  | with_reducible refine' st_vCons ?_
  | with_reducible refine' st_vLst ?_
  | with_reducible refine' st_vDict ?_
  | with_reducible refine' st_vN ?_
  | with_reducible refine' st_vDisp ?_
  | with_reducible refine' st_vpNil ?_
  | with_reducible refine' st_vpCons ?_
  | with_reducible refine' st_wNil ?_
  | with_reducible refine' st_wCons ?_
  | with_reducible refine' st_wVal ?_
  | with_reducible refine' st_wLoan ?_
  | with_reducible refine' st_wLoanO ?_
  | with_reducible refine' st_recvL ?_
  | with_reducible refine' st_wPm ?_
  | with_reducible refine' st_cQ ?_
  | with_reducible refine' st_cN ?_
  | with_reducible refine' st_cV ?_
  | with_reducible refine' st_mk ?_
  | with_reducible refine' st_view ?_
  | with_reducible refine' st_forV ?_
  | with_reducible refine' st_iSeq ?_
  | with_reducible refine' sq_L ?_
  | with_reducible refine' sq_T ?_
  | with_reducible refine' st_iEn ?_
  | with_reducible refine' en_L ?_
  | with_reducible refine' en_T ?_
  | with_reducible refine' st_neS ?_
  | with_reducible refine' st_inA ?_
  | with_reducible refine' st_eNone ?_
  | ((with_reducible refine' st_vRef ?k1 ?_); (case k1 => exact rfl))
  | ((with_reducible refine' st_vMv ?k1 ?_); (case k1 => exact rfl))
  | ((with_reducible refine' st_vMvL ?k1 ?_); (case k1 => exact rfl))
  | ((with_reducible refine' st_vNameD ?k1 ?_); (case k1 => exact rfl))
  | ((with_reducible refine' st_vNameO ?k1 ?_); (case k1 => exact rfl))
  | ((with_reducible refine' st_wLend ?k1 ?_); (case k1 => exact rfl))
  | ((with_reducible refine' st_wAnyO ?k1 ?_); (case k1 => exact rfl))
  | ((with_reducible refine' st_wAnyD ?k1 ?_); (case k1 => exact rfl))
  | ((with_reducible refine' lt_ok ?k1 ?_); (case k1 => exact rfl))
  | ((with_reducible refine' st_reg ?k1 ?_); (case k1 => exact rfl))
  | ((with_reducible refine' andR_ok ?k1 (fun p => ?_)); (case k1 => exact rfl))
  | ((with_reducible refine' andK_ok ?k1 (fun p => ?_)); (case k1 => exact rfl))
  | ((with_reducible refine' ex_key ?k1 ?k2 ?k3 ?_); (case k1 => walk_at "has"); (case k2 => exact rfl); (case k3 => exact rfl))
  | ((with_reducible refine' ex_fld ?k1 ?k2 ?_); (case k1 => walk_at "has"); (case k2 => exact rfl))
  | ((with_reducible refine' ex_len ?k1 ?_); (case k1 => walk_at "has"))
  | ((with_reducible refine' ex_has ?k1 ?_); (case k1 => walk_at "has")))
local macro_rules | `(tactic| walk_at "y") => `(tactic| repeat (first | walk_at "1" | walk_at "2" | walk_at "3" | with_reducible refine' st_if ?_ | dsimp only [List.set, slotV, rsV, evV]))
local macro_rules | `(tactic| walk_at "u") => `(tactic| repeat (first | walk_at "1" | walk_at "2" | walk_at "3" | dsimp only [List.set, slotV, rsV, evV]))
local macro_rules | `(tactic| walk_at "b") => `(tactic| (simp only [BackW, backS, BackJ, List.set]))
local macro_rules | `(tactic| walk_at "4") => `(tactic| first
  | with_reducible refine' st_getK ?_
  | with_reducible refine' ex_str ?_
  | with_reducible refine' st_wPm2 ?_
  | with_reducible refine' st_revT ?_
  | with_reducible refine' st_nIf ?_
  | with_reducible refine' st_lc2 ?_
  | with_reducible refine' st_inF ?_
  | with_reducible refine' st_setN ?_
  | with_reducible refine' st_vDictN (fun p => ?_)
  | with_reducible refine' st_vDictOf ?_
  | with_reducible refine' st_inV ?_
  | ((with_reducible refine' st_dictN ?k1 (fun p => ?_)); (case k1 => exact rfl))
  | ((with_reducible refine' ex_ow ?k1 ?_); (case k1 => exact rfl))
  | ((with_reducible refine' st_iDnF ?k1 ?_); (case k1 => exact rfl))
  | ((with_reducible refine' st_vMvO ?k1 ?_); (case k1 => exact rfl))
  | ((with_reducible refine' st_frzO ?k1 ?_); (case k1 => exact rfl))
  | ((with_reducible refine' st_frzF ?k1 ?_); (case k1 => exact rfl))
  | ((with_reducible refine' st_frzR ?k1 ?_); (case k1 => exact rfl))
  | ((with_reducible refine' st_ixF ?k1 ?_); (case k1 => exact rfl)))
local macro_rules | `(tactic| walk_at "y") => `(tactic| repeat (first | walk_at "1" | walk_at "2" | walk_at "3" | walk_at "4" | with_reducible refine' st_if ?_ | dsimp only [List.set, slotV, rsV, evV]))
local macro_rules | `(tactic| walk_at "u") => `(tactic| repeat (first | walk_at "1" | walk_at "2" | walk_at "3" | walk_at "4" | dsimp only [List.set, slotV, rsV, evV]))

def topS (i : Nat) : Stmt := PySem.Challenge.pw_leastplans_k20_trees_gone_through.main.body.getD i (.Pass ⟨0, 0, 0, 0⟩)
abbrev s_part_places : Stmt := topS 2
theorem sc_part_places : FnScope ["thing"] ["thing"] (defScope s_part_places) := ⟨rfl, rfl, rfl, by decide +kernel, rfl, by decide +kernel, by decide +kernel⟩
abbrev s_members : Stmt := topS 3
theorem sc_members : FnScope ["cond", "found", "waiting", "one"] ["cond"] (defScope s_members) := ⟨rfl, rfl, rfl, by decide +kernel, rfl, by decide +kernel, by decide +kernel⟩
abbrev s_joined : Stmt := topS 4
theorem sc_joined : FnScope ["conds", "found", "cond"] ["conds"] (defScope s_joined) := ⟨rfl, rfl, rfl, by decide +kernel, rfl, by decide +kernel, by decide +kernel⟩
abbrev s_height : Stmt := topS 5
theorem sc_height : FnScope ["thing", "many", "level", "one", "place"] ["thing"] (defScope s_height) := ⟨rfl, rfl, rfl, by decide +kernel, rfl, by decide +kernel, by decide +kernel⟩
abbrev s_columns_in : Stmt := topS 7
theorem sc_columns_in : FnScope ["thing", "found", "leaf", "column"] ["thing"] (defScope s_columns_in) := ⟨rfl, rfl, rfl, by decide +kernel, rfl, by decide +kernel, by decide +kernel⟩
abbrev s_aggs_in : Stmt := topS 8
theorem sc_aggs_in : FnScope ["thing", "found", "leaf"] ["thing"] (defScope s_aggs_in) := ⟨rfl, rfl, rfl, by decide +kernel, rfl, by decide +kernel, by decide +kernel⟩
abbrev s_replaced : Stmt := topS 9
theorem sc_replaced : FnScope ["thing", "table", "made", "column", "place"] ["thing", "table"] (defScope s_replaced) := ⟨rfl, rfl, rfl, by decide +kernel, rfl, by decide +kernel, by decide +kernel⟩
abbrev s_tree_leaves : Stmt := topS 10
theorem sc_tree_leaves : FnScope ["thing", "found", "waiting", "one", "places", "place"] ["thing"] (defScope s_tree_leaves) := ⟨rfl, rfl, rfl, by decide +kernel, rfl, by decide +kernel, by decide +kernel⟩
abbrev s_agg_column : Stmt := topS 11
theorem sc_agg_column : FnScope ["agg"] ["agg"] (defScope s_agg_column) := ⟨rfl, rfl, rfl, by decide +kernel, rfl, by decide +kernel, by decide +kernel⟩
abbrev s_law_numbers : Stmt := topS 13
theorem sc_law_numbers : FnScope ["_law_script", "_law_row", "_law_seed", "_law_k", "_law_left", "_law_great", "_law_one", "_law_turn"] ["_law_script"] (defScope s_law_numbers) := ⟨rfl, rfl, rfl, by decide +kernel, rfl, by decide +kernel, by decide +kernel⟩
abbrev s_law_take : Stmt := topS 14
theorem sc_law_take : FnScope ["_law_box", "_law_many"] ["_law_box", "_law_many"] (defScope s_law_take) := ⟨rfl, rfl, rfl, by decide +kernel, rfl, by decide +kernel, by decide +kernel⟩
abbrev s_law_begun : Stmt := topS 15
theorem sc_law_begun : FnScope ["_law_box", "_law_plain", "_law_signs"] ["_law_box", "_law_plain", "_law_signs"] (defScope s_law_begun) := ⟨rfl, rfl, rfl, by decide +kernel, rfl, by decide +kernel, by decide +kernel⟩
abbrev s_law_col : Stmt := topS 16
theorem sc_law_col : FnScope ["_law_box", "_law_pick"] ["_law_box"] (defScope s_law_col) := ⟨rfl, rfl, rfl, by decide +kernel, rfl, by decide +kernel, by decide +kernel⟩
abbrev s_law_agg : Stmt := topS 17
theorem sc_law_agg : FnScope ["_law_box", "_law_pick", "_law_agg_here"] ["_law_box"] (defScope s_law_agg) := ⟨rfl, rfl, rfl, by decide +kernel, rfl, by decide +kernel, by decide +kernel⟩
abbrev s_law_expr : Stmt := topS 18
theorem sc_law_expr : FnScope ["_law_box", "_law_deep", "_law_pick", "_law_left"] ["_law_box", "_law_deep"] (defScope s_law_expr) := ⟨rfl, rfl, rfl, by decide +kernel, rfl, by decide +kernel, by decide +kernel⟩
abbrev s_law_question : Stmt := topS 19
theorem sc_law_question : FnScope ["_law_box", "_law_expr_here", "_law_where", "_law_source"] ["_law_box"] (defScope s_law_question) := ⟨rfl, rfl, rfl, by decide +kernel, rfl, by decide +kernel, by decide +kernel⟩
abbrev s_law_cond : Stmt := topS 20
theorem sc_law_cond : FnScope ["_law_box", "_law_deep", "_law_pick", "_law_word", "_law_left", "_law_on", "_law_where", "_law_source", "_law_op"] ["_law_box", "_law_deep"] (defScope s_law_cond) := ⟨rfl, rfl, rfl, by decide +kernel, rfl, by decide +kernel, by decide +kernel⟩
abbrev s_law_parts : Stmt := topS 21
theorem sc_law_parts : FnScope ["_law_node", "_law_part"] ["_law_node"] (defScope s_law_parts) := ⟨rfl, rfl, rfl, by decide +kernel, rfl, by decide +kernel, by decide +kernel⟩
abbrev s_law_found : Stmt := topS 22
theorem sc_law_found : FnScope ["_law_node", "_law_word", "_law_found_here", "_law_stack", "_law_turn", "_law_part"] ["_law_node", "_law_word"] (defScope s_law_found) := ⟨rfl, rfl, rfl, by decide +kernel, rfl, by decide +kernel, by decide +kernel⟩
abbrev s_law_levels : Stmt := topS 23
theorem sc_law_levels : FnScope ["_law_node", "_law_row", "_law_many", "_law_turn", "_law_below", "_law_part"] ["_law_node"] (defScope s_law_levels) := ⟨rfl, rfl, rfl, by decide +kernel, rfl, by decide +kernel, by decide +kernel⟩
abbrev s_law_split : Stmt := topS 24
theorem sc_law_split : FnScope ["_law_test", "_law_rows", "_law_stack", "_law_turn", "_law_part"] ["_law_test"] (defScope s_law_split) := ⟨rfl, rfl, rfl, by decide +kernel, rfl, by decide +kernel, by decide +kernel⟩
abbrev s_law_put : Stmt := topS 25
theorem sc_law_put : FnScope ["_law_node", "_law_swaps", "_law_row", "_law_part"] ["_law_node", "_law_swaps"] (defScope s_law_put) := ⟨rfl, rfl, rfl, by decide +kernel, rfl, by decide +kernel, by decide +kernel⟩
abbrev s_law_table : Stmt := topS 26
theorem sc_law_table : FnScope ["_law_box", "_law_node", "_law_swaps", "_law_key", "_law_pick"] ["_law_box", "_law_node"] (defScope s_law_table) := ⟨rfl, rfl, rfl, by decide +kernel, rfl, by decide +kernel, by decide +kernel⟩
abbrev s_law_same : Stmt := topS 27
theorem sc_law_same : FnScope ["_law_one", "_law_due", "_law_k"] ["_law_one", "_law_due"] (defScope s_law_same) := ⟨rfl, rfl, rfl, by decide +kernel, rfl, by decide +kernel, by decide +kernel⟩
abbrev s_law_is_right : Stmt := topS 28
theorem sc_law_is_right : FnScope ["_law_box", "_law_node", "_law_swaps", "_law_kept", "_law_due", "_law_key"] ["_law_box", "_law_node"] (defScope s_law_is_right) := ⟨rfl, rfl, rfl, by decide +kernel, rfl, by decide +kernel, by decide +kernel⟩
abbrev s_law_conds_right : Stmt := topS 29
theorem sc_law_conds_right : FnScope ["_law_box", "_law_tests", "_law_tree", "_law_test", "_law_rows", "_law_again"] ["_law_box", "_law_tests"] (defScope s_law_conds_right) := ⟨rfl, rfl, rfl, by decide +kernel, rfl, by decide +kernel, by decide +kernel⟩
abbrev s_law : Stmt := topS 30
theorem sc_law : FnScope ["_law_script", "_law_box", "_law_first", "_law_deep", "_law_most", "_law_many", "_law_k"] ["_law_script"] (defScope s_law) := ⟨rfl, rfl, rfl, by decide +kernel, rfl, by decide +kernel, by decide +kernel⟩
structure Fs (K : PySem.W.Frag) (mg : Str → Option Value) where
  a_part_places : Addr
  d_part_places : FuncData
  F_part_places : Fun K "_part_places" "_part_places" s_part_places a_part_places d_part_places
  b_part_places : Binds K d_part_places ["thing"] []
  m_part_places : mg "_part_places" = some (.ref a_part_places)
  a_members : Addr
  d_members : FuncData
  F_members : Fun K "members" "members" s_members a_members d_members
  b_members : Binds K d_members ["cond"] []
  m_members : mg "members" = some (.ref a_members)
  a_joined : Addr
  d_joined : FuncData
  F_joined : Fun K "joined" "joined" s_joined a_joined d_joined
  b_joined : Binds K d_joined ["conds"] []
  m_joined : mg "joined" = some (.ref a_joined)
  a_height : Addr
  d_height : FuncData
  F_height : Fun K "height" "height" s_height a_height d_height
  b_height : Binds K d_height ["thing"] []
  m_height : mg "height" = some (.ref a_height)
  a_columns_in : Addr
  d_columns_in : FuncData
  F_columns_in : Fun K "columns_in" "columns_in" s_columns_in a_columns_in d_columns_in
  b_columns_in : Binds K d_columns_in ["thing"] []
  m_columns_in : mg "columns_in" = some (.ref a_columns_in)
  a_aggs_in : Addr
  d_aggs_in : FuncData
  F_aggs_in : Fun K "aggs_in" "aggs_in" s_aggs_in a_aggs_in d_aggs_in
  b_aggs_in : Binds K d_aggs_in ["thing"] []
  m_aggs_in : mg "aggs_in" = some (.ref a_aggs_in)
  a_replaced : Addr
  d_replaced : FuncData
  F_replaced : Fun K "replaced" "replaced" s_replaced a_replaced d_replaced
  b_replaced : Binds K d_replaced ["thing", "table"] []
  m_replaced : mg "replaced" = some (.ref a_replaced)
  a_tree_leaves : Addr
  d_tree_leaves : FuncData
  F_tree_leaves : Fun K "_tree_leaves" "_tree_leaves" s_tree_leaves a_tree_leaves d_tree_leaves
  b_tree_leaves : Binds K d_tree_leaves ["thing"] []
  m_tree_leaves : mg "_tree_leaves" = some (.ref a_tree_leaves)
  a_agg_column : Addr
  d_agg_column : FuncData
  F_agg_column : Fun K "_agg_column" "_agg_column" s_agg_column a_agg_column d_agg_column
  b_agg_column : Binds K d_agg_column ["agg"] []
  m_agg_column : mg "_agg_column" = some (.ref a_agg_column)
  a_law_numbers : Addr
  d_law_numbers : FuncData
  F_law_numbers : Fun K "_law_numbers" "_law_numbers" s_law_numbers a_law_numbers d_law_numbers
  b_law_numbers : Binds K d_law_numbers ["_law_script"] []
  m_law_numbers : mg "_law_numbers" = some (.ref a_law_numbers)
  a_law_take : Addr
  d_law_take : FuncData
  F_law_take : Fun K "_law_take" "_law_take" s_law_take a_law_take d_law_take
  b_law_take : Binds K d_law_take ["_law_box", "_law_many"] []
  m_law_take : mg "_law_take" = some (.ref a_law_take)
  a_law_begun : Addr
  d_law_begun : FuncData
  F_law_begun : Fun K "_law_begun" "_law_begun" s_law_begun a_law_begun d_law_begun
  b_law_begun : Binds K d_law_begun ["_law_box", "_law_plain", "_law_signs"] []
  m_law_begun : mg "_law_begun" = some (.ref a_law_begun)
  a_law_col : Addr
  d_law_col : FuncData
  F_law_col : Fun K "_law_col" "_law_col" s_law_col a_law_col d_law_col
  b_law_col : Binds K d_law_col ["_law_box"] []
  m_law_col : mg "_law_col" = some (.ref a_law_col)
  a_law_agg : Addr
  d_law_agg : FuncData
  F_law_agg : Fun K "_law_agg" "_law_agg" s_law_agg a_law_agg d_law_agg
  b_law_agg : Binds K d_law_agg ["_law_box"] []
  m_law_agg : mg "_law_agg" = some (.ref a_law_agg)
  a_law_expr : Addr
  d_law_expr : FuncData
  F_law_expr : Fun K "_law_expr" "_law_expr" s_law_expr a_law_expr d_law_expr
  b_law_expr : Binds K d_law_expr ["_law_box", "_law_deep"] []
  m_law_expr : mg "_law_expr" = some (.ref a_law_expr)
  a_law_question : Addr
  d_law_question : FuncData
  F_law_question : Fun K "_law_question" "_law_question" s_law_question a_law_question d_law_question
  b_law_question : Binds K d_law_question ["_law_box"] []
  m_law_question : mg "_law_question" = some (.ref a_law_question)
  a_law_cond : Addr
  d_law_cond : FuncData
  F_law_cond : Fun K "_law_cond" "_law_cond" s_law_cond a_law_cond d_law_cond
  b_law_cond : Binds K d_law_cond ["_law_box", "_law_deep"] []
  m_law_cond : mg "_law_cond" = some (.ref a_law_cond)
  a_law_parts : Addr
  d_law_parts : FuncData
  F_law_parts : Fun K "_law_parts" "_law_parts" s_law_parts a_law_parts d_law_parts
  b_law_parts : Binds K d_law_parts ["_law_node"] []
  m_law_parts : mg "_law_parts" = some (.ref a_law_parts)
  a_law_found : Addr
  d_law_found : FuncData
  F_law_found : Fun K "_law_found" "_law_found" s_law_found a_law_found d_law_found
  b_law_found : Binds K d_law_found ["_law_node", "_law_word"] []
  m_law_found : mg "_law_found" = some (.ref a_law_found)
  a_law_levels : Addr
  d_law_levels : FuncData
  F_law_levels : Fun K "_law_levels" "_law_levels" s_law_levels a_law_levels d_law_levels
  b_law_levels : Binds K d_law_levels ["_law_node"] []
  m_law_levels : mg "_law_levels" = some (.ref a_law_levels)
  a_law_split : Addr
  d_law_split : FuncData
  F_law_split : Fun K "_law_split" "_law_split" s_law_split a_law_split d_law_split
  b_law_split : Binds K d_law_split ["_law_test"] []
  m_law_split : mg "_law_split" = some (.ref a_law_split)
  a_law_put : Addr
  d_law_put : FuncData
  F_law_put : Fun K "_law_put" "_law_put" s_law_put a_law_put d_law_put
  b_law_put : Binds K d_law_put ["_law_node", "_law_swaps"] []
  m_law_put : mg "_law_put" = some (.ref a_law_put)
  a_law_table : Addr
  d_law_table : FuncData
  F_law_table : Fun K "_law_table" "_law_table" s_law_table a_law_table d_law_table
  b_law_table : Binds K d_law_table ["_law_box", "_law_node"] []
  m_law_table : mg "_law_table" = some (.ref a_law_table)
  a_law_same : Addr
  d_law_same : FuncData
  F_law_same : Fun K "_law_same" "_law_same" s_law_same a_law_same d_law_same
  b_law_same : Binds K d_law_same ["_law_one", "_law_due"] []
  m_law_same : mg "_law_same" = some (.ref a_law_same)
  a_law_is_right : Addr
  d_law_is_right : FuncData
  F_law_is_right : Fun K "_law_is_right" "_law_is_right" s_law_is_right a_law_is_right d_law_is_right
  b_law_is_right : Binds K d_law_is_right ["_law_box", "_law_node"] []
  m_law_is_right : mg "_law_is_right" = some (.ref a_law_is_right)
  a_law_conds_right : Addr
  d_law_conds_right : FuncData
  F_law_conds_right : Fun K "_law_conds_right" "_law_conds_right" s_law_conds_right a_law_conds_right d_law_conds_right
  b_law_conds_right : Binds K d_law_conds_right ["_law_box", "_law_tests"] []
  m_law_conds_right : mg "_law_conds_right" = some (.ref a_law_conds_right)
  a_law : Addr
  d_law : FuncData
  F_law : Fun K "law" "law" s_law a_law d_law
  b_law : Binds K d_law ["_law_script"] []
  m_law : mg "law" = some (.ref a_law)
def kv_TREE_PARTS : List (Str × D) := [("add", .tuple ([1, 2].map .int)), ("sub", .tuple ([1, 2].map .int)), ("mul", .tuple ([1, 2].map .int)), ("neg", .tuple ([1].map .int)), ("cmp", .tuple ([2, 3].map .int)), ("null", .tuple ([1].map .int)), ("in", .tuple ([1].map .int)), ("not", .tuple ([1].map .int)), ("maybe", .tuple ([1].map .int)), ("and", .tuple ([1, 2].map .int)), ("or", .tuple ([1, 2].map .int))]
structure Bt (w : World) (K : PySem.W.Frag) (mg : Str → Option Value) : Prop where
  k_TREE_PARTS : DictK K w mg "TREE_PARTS" kv_TREE_PARTS
  b_abs : mg "abs" = none
  b_all : mg "all" = none
  b_bool : mg "bool" = none
  b_dict : mg "dict" = none
  b_int : mg "int" = none
  b_isinstance : mg "isinstance" = none
  b_len : mg "len" = none
  b_list : mg "list" = none
  b_max : mg "max" = none
  b_min : mg "min" = none
  b_range : mg "range" = none
  b_reversed : mg "reversed" = none
  b_str : mg "str" = none
  b_tuple : mg "tuple" = none
inductive Un where
  | neg | null | not | maybe
def Un.w : Un → Str
  | .neg => "neg"
  | .null => "null"
  | .not => "not"
  | .maybe => "maybe"
inductive Bi where
  | add | sub | mul | and | or
def Bi.w : Bi → Str
  | .add => "add"
  | .sub => "sub"
  | .mul => "mul"
  | .and => "and"
  | .or => "or"
inductive Tr where
  | col (ds : List D)
  | num (i : Int)
  | text (s : Str)
  | agg0
  | aggi (i : Int)
  | agg1 (f : Str) (ds : List D)
  | un (w : Un) (a : Tr)
  | bi (w : Bi) (a b : Tr)
  | cmp (op : Str) (a b : Tr)
  | inq (a : Tr) (q : D)
  | ex (s w : D)
def colE (ds : List D) : D := .tuple (.str "col" :: ds)
def Tr.enc : Tr → D
  | .col ds => colE ds
  | .num i => .tuple [.str "num", .int i]
  | .text s => .tuple [.str "text", .str s]
  | .agg0 => .tuple [.str "agg", .str "count", .none]
  | .aggi i => .tuple [.str "agg", .int i]
  | .agg1 f ds => .tuple [.str "agg", .str f, colE ds]
  | .un w a => .tuple [.str w.w, a.enc]
  | .bi w a b => .tuple [.str w.w, a.enc, b.enc]
  | .cmp op a b => .tuple [.str "cmp", .str op, a.enc, b.enc]
  | .inq a q => .tuple [.str "in", a.enc, q]
  | .ex s w => .tuple [.str "exists", s, w]
def encO : Option Tr → D
  | none => .none
  | some t => t.enc
def Tr.word : Tr → Str
  | .col _ => "col"
  | .num _ => "num"
  | .text _ => "text"
  | .agg0 => "agg"
  | .aggi _ => "agg"
  | .agg1 _ _ => "agg"
  | .un w _ => w.w
  | .bi w _ _ => w.w
  | .cmp _ _ _ => "cmp"
  | .inq _ _ => "in"
  | .ex _ _ => "exists"
def Atom (d : D) : Prop := (∃ i, d = .int i) ∨ ∃ s, d = .str s
def ColOk (ds : List D) : Prop := ds.length ≤ 2 ∧ ∀ d ∈ ds, Atom d
def Tr.Ok : Tr → Prop
  | .col ds => ColOk ds
  | .agg1 _ ds => ColOk ds
  | .un _ a => a.Ok
  | .bi _ a b => a.Ok ∧ b.Ok
  | .cmp _ a b => a.Ok ∧ b.Ok
  | .inq a _ => a.Ok
  | _ => True
inductive Sm : Nat → D → Prop
  | non {n : Nat} : Sm n .none
  | bl {n : Nat} (b : Bool) : Sm n (.bool b)
  | int {n : Nat} (i : Int) : Sm n (.int i)
  | str {n : Nat} (s : Str) : Sm n (.str s)
  | tup {n : Nat} {xs : List D} : xs.length ≤ 100000 → (∀ x ∈ xs, Sm n x) → Sm (n + 1) (.tuple xs)
def Tr.size : Tr → Nat
  | .agg1 _ _ => 2
  | .un _ a => 1 + a.size
  | .bi _ a b => 1 + a.size + b.size
  | .cmp _ a b => 1 + a.size + b.size
  | .inq a _ => 1 + a.size
  | _ => 1
def Tr.hgt : Tr → Nat
  | .un _ a => 1 + a.hgt
  | .bi _ a b => 1 + max a.hgt b.hgt
  | .cmp _ a b => 1 + max a.hgt b.hgt
  | .inq a _ => 1 + a.hgt
  | _ => 1
def hgtO : Option Tr → Nat
  | none => 0
  | some t => t.hgt
def Tr.kids : Tr → List Tr
  | .un _ a => [a]
  | .bi _ a b => [a, b]
  | .cmp _ a b => [a, b]
  | .inq a _ => [a]
  | _ => []
def Tr.places : Tr → List Int
  | .un _ _ => [1]
  | .bi _ _ _ => [1, 2]
  | .cmp _ _ _ => [2, 3]
  | .inq _ _ => [1]
  | _ => []
def Tr.lkids : Tr → List Tr
  | .agg1 _ ds => [.col ds]
  | t => t.kids
def Tr.leaves : Tr → List Tr
  | .un _ a => a.leaves
  | .bi _ a b => a.leaves ++ b.leaves
  | .cmp _ a b => a.leaves ++ b.leaves
  | .inq a _ => a.leaves
  | t => [t]
def Tr.pre : Tr → List Tr
  | .agg1 f ds => [.agg1 f ds, .col ds]
  | .un w a => .un w a :: a.pre
  | .bi w a b => .bi w a b :: (a.pre ++ b.pre)
  | .cmp w a b => .cmp w a b :: (a.pre ++ b.pre)
  | .inq a q => .inq a q :: a.pre
  | t => [t]
def Tr.ands : Tr → List Tr
  | .bi .and a b => a.ands ++ b.ands
  | t => [t]
def Tr.isAgg : Tr → Bool
  | .agg0 => true
  | .aggi _ => true
  | .agg1 _ _ => true
  | _ => false
def Tr.aggCol : Tr → D
  | .agg1 _ ds => colE ds
  | _ => .none
def colsAt : Tr → List D
  | .col ds => [colE ds]
  | .agg1 _ ds => [colE ds]
  | _ => []
def leavesO (o : Option Tr) : List Tr := o.toList.flatMap Tr.leaves
def preO (o : Option Tr) : List Tr := o.toList.flatMap Tr.pre
def andsO (o : Option Tr) : List Tr := o.toList.flatMap Tr.ands
def sizeO : Option Tr → Nat
  | none => 1
  | some t => t.size
def addU (acc : List D) (d : D) : List D := if acc.any (fun z => PyData.eqv z d) = true then acc else acc ++ [d]
def uniq (l : List D) : List D := l.foldl addU []
def joinT (ts : List Tr) : Option Tr := ts.foldl (fun o t => match o with | none => some t | some a => some (.bi .and a t)) none
def lk (kvs : List (D × D)) (d : D) : Option D := (nkOf d).bind fun k => getN kvs k
def Tr.rep (kvs : List (D × D)) : Tr → D
  | .col ds => (lk kvs (colE ds)).getD (colE ds)
  | .agg0 => (lk kvs (Tr.enc .agg0)).getD (Tr.enc .agg0)
  | .aggi i => (lk kvs (Tr.enc (.aggi i))).getD (Tr.enc (.aggi i))
  | .agg1 f ds => (lk kvs (Tr.enc (.agg1 f ds))).getD (.tuple [.str "agg", .str f, (lk kvs (colE ds)).getD (colE ds)])
  | .un w a => .tuple [.str w.w, a.rep kvs]
  | .bi w a b => .tuple [.str w.w, a.rep kvs, b.rep kvs]
  | .cmp op a b => .tuple [.str "cmp", .str op, a.rep kvs, b.rep kvs]
  | .inq a q => .tuple [.str "in", a.rep kvs, q]
  | .num i => .tuple [.str "num", .int i]
  | .text s => .tuple [.str "text", .str s]
  | .ex s w => .tuple [.str "exists", s, w]
def repO (kvs : List (D × D)) : Option Tr → D
  | none => .none
  | some t => t.rep kvs
def OkO (o : Option Tr) : Prop := ∀ t, o = some t → t.Ok
structure KvOk (kvs : List (D × D)) : Prop where
  keys : ∀ kv ∈ kvs, ∃ k, KeyD kv.1 k
  nd : (kvs.map fun kv => nkOf kv.1).Nodup
  sm : ∀ kv ∈ kvs, Sm 8 kv.1 ∧ Sm 8 kv.2
  few : kvs.length ≤ 90000
def Frz (P : Program) (w : World) (s : SD) (p : Addr) (kvs : List (D × D)) : Prop := s = .ow p (OD.dnF P w p kvs) ∨ s = .ow p (OD.rg [(p, .one (apN P w p kvs))])
structure Bx where
  b : Addr
  g : Addr
  L : Lf
  n : Nat
  row : List Int
  turn : Nat
  plain : Bool
  signs : Int
  aggs : List Tr
abbrev boxS (x : Bx) : SD := .ow x.b (OD.rg x.L)
structure Bx.Ok (x : Bx) : Prop where
  h0 : x.L[0]? = some (x.b, .lst [.dt (.list (x.row.map .int)), .dt (.int (x.turn : Int)), .dt (.bool x.plain), .dt (.int x.signs), .rf x.g])
  hn : x.L[x.n + 1]? = some (x.g, .lst ((x.aggs.map Tr.enc).map .dt))
  few : x.aggs.length ≤ 4
  ag : ∀ t ∈ x.aggs, t.isAgg = true ∧ t.Ok
structure Bx.To (x y : Bx) : Prop where
  b : y.b = x.b
  ok : y.Ok
structure Bx.Ta (x y : Bx) : Prop where
  b : y.b = x.b
  ok : y.Ok
  ag : y.aggs = x.aggs
def es (k : Nat) : Nat := 3 * 2 ^ k - 1
def cs (k : Nat) : Nat := 49 * 2 ^ k - 1
structure ExprOk (k : Nat) (t : Tr) : Prop where
  ok : t.Ok
  sm : Sm (k + 4) t.enc
  size : t.size ≤ es k
  hgt : t.hgt ≤ k + 1
structure CondOk (k : Nat) (t : Tr) : Prop where
  ok : t.Ok
  sm : Sm (12 + 3 * k) t.enc
  size : t.size ≤ cs k
  hgt : t.hgt ≤ k + 6
structure ThOk (o : Option Tr) : Prop where
  ok : ∀ t, o = some t → t.Ok
  sm : Sm 80 (encO o)
  size : sizeO o ≤ 8000
  hgt : hgtO o ≤ 300
def sp_part_places : DSp := fun as Q => ∃ t : Tr, as = [.dt t.enc] ∧ Q (.dt (.tuple (t.places.map .int))) [.un]
def sp_members : DSp := fun as Q => ∃ o : Option Tr, as = [.dt (encO o)] ∧ sizeO o ≤ 20000 ∧ Q (.dt (.tuple ((andsO o).map Tr.enc))) [.un]
def sp_joined : DSp := fun as Q => ∃ ts : List Tr, as = [.dt (.tuple (ts.map Tr.enc))] ∧ Q (.dt (encO (joinT ts))) [.un]
def sp_height : DSp := fun as Q => ∃ o : Option Tr, as = [.dt (encO o)] ∧ sizeO o ≤ 20000 ∧ Q (.dt (.int (hgtO o : Int))) [.un]
def sp_columns_in : DSp := fun as Q => ∃ o : Option Tr, as = [.dt (encO o)] ∧ sizeO o ≤ 20000 ∧ OkO o ∧ Q (.dt (.tuple (uniq ((leavesO o).flatMap colsAt)))) [.un]
def sp_aggs_in : DSp := fun as Q => ∃ o : Option Tr, as = [.dt (encO o)] ∧ sizeO o ≤ 20000 ∧ OkO o ∧ Q (.dt (.tuple (uniq (((leavesO o).filter Tr.isAgg).map Tr.enc)))) [.un]
def sp_replaced (P : Program) (w : World) (n : Nat) : DSp := fun as Q => ∃ (o : Option Tr) (s : SD) (p : Addr) (kvs : List (D × D)) (m : Nat), as = [.dt (encO o), s] ∧ m < n ∧ Sm m (encO o) ∧ OkO o ∧ Frz P w s p kvs ∧ Q (.dt (repO kvs o)) [.un, .ow p (OD.dnF P w p kvs)]
def sp_tree_leaves : DSp := fun as Q => ∃ o : Option Tr, as = [.dt (encO o)] ∧ sizeO o ≤ 20000 ∧ Q (.new ((leavesO o).map Tr.enc)) [.un]
def sp_agg_column : DSp := fun as Q => ∃ t : Tr, as = [.dt t.enc] ∧ t.isAgg = true ∧ Q (.dt t.aggCol) [.un]
def sp_law_numbers : DSp := fun as Q => ∃ ns : List Int, as = [.dt (.list (ns.map .int))] ∧ ns.length ≤ 63 ∧ ∀ row : List Int, row.length ≤ 300 → Q (.new (row.map .int)) [.un]
def sp_law_take : DSp := fun as Q => ∃ (x : Bx) (m : Int), as = [boxS x, .dt (.int m)] ∧ x.Ok ∧ 0 < m ∧ ∀ (r : Int) (y : Bx), 0 ≤ r → r < m → x.Ta y → Q (.dt (.int r)) [boxS y, .un]
def sp_law_begun : DSp := fun as Q => ∃ (x : Bx) (b : Bool) (s : Int), as = [boxS x, .dt (.bool b), .dt (.int s)] ∧ x.Ok ∧ ∀ y : Bx, x.To y → Q (.dt .none) [boxS y, .un, .un]
def sp_law_col : DSp := fun as Q => ∃ x : Bx, as = [boxS x] ∧ x.Ok ∧ ∀ (ds : List D) (y : Bx), ColOk ds → x.Ta y → Q (.dt (colE ds)) [boxS y]
def sp_law_agg : DSp := fun as Q => ∃ x : Bx, as = [boxS x] ∧ x.Ok ∧ ∀ (t : Tr) (y : Bx), t.isAgg = true → t.Ok → x.To y → Q (.dt t.enc) [boxS y]
def sp_law_expr (n : Nat) : DSp := fun as Q => ∃ (x : Bx) (k : Nat), as = [boxS x, .dt (.int (k : Int))] ∧ x.Ok ∧ k < n ∧ ∀ (t : Tr) (y : Bx), ExprOk k t → x.To y → Q (.dt t.enc) [boxS y, .un]
def sp_law_question : DSp := fun as Q => ∃ x : Bx, as = [boxS x] ∧ x.Ok ∧ ∀ (d : D) (y : Bx), Sm 9 d → x.To y → Q (.dt d) [boxS y]
def sp_law_cond (n : Nat) : DSp := fun as Q => ∃ (x : Bx) (k : Nat), as = [boxS x, .dt (.int (k : Int))] ∧ x.Ok ∧ k < n ∧ ∀ (t : Tr) (y : Bx), CondOk k t → x.To y → Q (.dt t.enc) [boxS y, .un]
def sp_law_parts : DSp := fun as Q => ∃ o : Option Tr, as = [.dt (encO o)] ∧ OkO o ∧ Q (.new ((o.toList.flatMap Tr.lkids).map Tr.enc)) [.un]
def sp_law_found : DSp := fun as Q => ∃ (o : Option Tr) (x : Str), as = [.dt (encO o), .dt (.str x)] ∧ sizeO o ≤ 20000 ∧ OkO o ∧ (∀ t ∈ preO o, t.word = x → t.enc.depth ≤ 150) ∧ Q (.dt (.tuple (uniq (((preO o).filter fun t => t.word = x).map Tr.enc)))) [.un, .un]
def sp_law_levels : DSp := fun as Q => ∃ o : Option Tr, as = [.dt (encO o)] ∧ sizeO o ≤ 20000 ∧ hgtO o ≤ 399 ∧ OkO o ∧ Q (.dt (.int (hgtO o : Int))) [.un]
def sp_law_split : DSp := fun as Q => ∃ t : Tr, as = [.dt t.enc] ∧ t.size ≤ 20000 ∧ Q (.dt (.tuple (t.ands.map Tr.enc))) [.un]
def sp_law_put (P : Program) (w : World) (n : Nat) : DSp := fun as Q => ∃ (o : Option Tr) (s : SD) (p : Addr) (kvs : List (D × D)) (m : Nat), as = [.dt (encO o), s] ∧ m < n ∧ Sm m (encO o) ∧ OkO o ∧ Frz P w s p kvs ∧ Q (.dt (repO kvs o)) [.un, .ow p (OD.dnF P w p kvs)]
def sp_law_table (P : Program) (w : World) : DSp := fun as Q => ∃ (x : Bx) (o : Option Tr), as = [boxS x, .dt (encO o)] ∧ x.Ok ∧ ThOk o ∧ ∀ (p : Addr) (kvs : List (D × D)) (y : Bx), KvOk kvs → x.To y → Q (.rg p [(p, .one (apN P w p kvs))]) [boxS y, .un]
def sp_law_same (n : Nat) : DSp := fun as Q => ∃ (d : D) (m : Nat), as = [.dt d, .dt d] ∧ m < n ∧ Sm m d ∧ Q (.dt (.bool true)) [.un, .un]
def sp_law_is_right : DSp := fun as Q => ∃ (x : Bx) (o : Option Tr), as = [boxS x, .dt (encO o)] ∧ x.Ok ∧ ThOk o ∧ ∀ y : Bx, x.To y → Q (.dt (.bool true)) [boxS y, .un]
def sp_law_conds_right : DSp := fun as Q => ∃ (x : Bx) (ts : List Tr), as = [boxS x, .dt (.list (ts.map Tr.enc))] ∧ x.Ok ∧ ts.length ≤ 40 ∧ (∀ t ∈ ts, CondOk 2 t) ∧ ∀ y : Bx, x.To y → Q (.dt (.bool true)) [boxS y, .un]
def rd_part_places : TDS := (sRet (dGetK kv_TREE_PARTS (dOp ixD (dVar 0) (dC (.int 0))) (dTup dNil)))
def rd_members : TDS := (sSeq (sOwn (dLst dNil) 1) (sSeq (sOwn (nIf (dTest (dIsN (dVar 0))) (dLst dNil) (dLst (dCons (dVar 0) dNil))) 2) (sSeq (sWhile (dTruO 2) (sSeq (sAsg (dPop 2) (dgName 3)) (sIf (dTest (dOp eqD (dOp ixD (dVar 3) (dC (.int 0))) (dC (.str "and")))) (sSeq (sApp 2 (dOp ixD (dVar 3) (dC (.int 2)))) (sApp 2 (dOp ixD (dVar 3) (dC (.int 1))))) (sApp 1 (dVar 3))))) (sRet (dCall tupleD (dCons (dFrz 1) dNil))))))
def rd_joined : TDS := (sSeq (sAsg (dC .none) (dgName 1)) (sSeq (sFor (iSeqD (dVar 0)) (dgName 2) (sAsg (dIf (dTest (dIsN (dVar 1))) (dVar 2) (dTup (dCons (dC (.str "and")) (dCons (dVar 1) (dCons (dVar 2) dNil))))) (dgName 1))) (sRet (dVar 1))))
def rd_height : TDS := (sSeq (sAsg (dC (.int 0)) (dgName 1)) (sSeq (sOwn (nIf (dTest (dIsN (dVar 0))) (dLst dNil) (dLst (dCons (dVar 0) dNil))) 2) (sSeq (sWhile (dTruO 2) (sSeq (sAug 1 (dC (.int 1)) (fun i j => i + j)) (sOwn (dLc2 (iSeqD (dFrz 2)) (dgName 3) dYes (iSeqD (dCallF sp_part_places (cCons (dVar 3) cNil))) (dgName 4) dYes (dOp ixD (dVar 3) (dVar 4)) [3, 4] [4]) 2))) (sRet (dVar 1)))))
def rd_columns_in : TDS := (sSeq (sOwn (dLst dNil) 1) (sSeq (sFor (iSeqD (dN (dCallNw sp_tree_leaves (cCons (dVar 0) cNil)))) (dgName 2) (sSeq (sAsg (dVar 2) (dgName 3)) (sSeq (sIf (dTest (dOp eqD (dOp ixD (dVar 2) (dC (.int 0))) (dC (.str "agg")))) (sAsg (dCallF sp_agg_column (cCons (dVar 2) cNil)) (dgName 3)) sNext) (sIf (dAnd (dTest (dNotN (dVar 3))) (dAnd (dTest (dOp eqD (dOp ixD (dVar 3) (dC (.int 0))) (dC (.str "col")))) (dTest (dInO true 1 (dVar 3))))) (sApp 1 (dVar 3)) sNext)))) (sRet (dCall tupleD (dCons (dFrz 1) dNil)))))
def rd_aggs_in : TDS := (sSeq (sOwn (dLst dNil) 1) (sSeq (sFor (iSeqD (dN (dCallNw sp_tree_leaves (cCons (dVar 0) cNil)))) (dgName 2) (sIf (dAnd (dTest (dOp eqD (dOp ixD (dVar 2) (dC (.int 0))) (dC (.str "agg")))) (dTest (dInO true 1 (dVar 2)))) (sApp 1 (dVar 2)) sNext)) (sRet (dCall tupleD (dCons (dFrz 1) dNil)))))
def rd_replaced (P : Program) (w : World) (n : Nat) : TDS := (sFrzN P w 1 (sSeq (sIf (dTest (dIsN (dVar 0))) (sRet (dC .none)) sNext) (sSeq (sIf (dAnd (dTest (dOp inD (dOp ixD (dVar 0) (dC (.int 0))) (dTup (dCons (dC (.str "col")) (dCons (dC (.str "agg")) dNil))))) (dTest (dInF P w false 1 (dVar 0)))) (sRet (dIxF P w 1 (dVar 0))) sNext) (sSeq (sOwn (dCallN listD (dCons (dVar 0) dNil)) 2) (sSeq (sIf (dTest (dOp eqD (dOp ixD (dVar 0) (dC (.int 0))) (dC (.str "agg")))) (sSeq (sAsg (dCallF sp_agg_column (cCons (dVar 0) cNil)) (dgName 3)) (sSeq (sIf (dTest (dNotN (dVar 3))) (sSetO 2 (dC (.int 2)) (dCallQ xNo (sp_replaced P w n) (wCons (dVar 3) (wLend 1 wNil)))) sNext) (sRet (dCall tupleD (dCons (dFrz 2) dNil))))) sNext) (sSeq (sFor (iSeqD (dCallF sp_part_places (cCons (dVar 0) cNil))) (dgName 4) (sSetO 2 (dVar 4) (dCallQ xNo (sp_replaced P w n) (wCons (dOp ixD (dVar 0) (dVar 4)) (wLend 1 wNil))))) (sRet (dCall tupleD (dCons (dFrz 2) dNil)))))))))
def rd_tree_leaves : TDS := (sSeq (sOwn (dLst dNil) 1) (sSeq (sOwn (nIf (dTest (dIsN (dVar 0))) (dLst dNil) (dLst (dCons (dVar 0) dNil))) 2) (sSeq (sWhile (dTruO 2) (sSeq (sAsg (dPop 2) (dgName 3)) (sSeq (sAsg (dCallF sp_part_places (cCons (dVar 3) cNil)) (dgName 4)) (sSeq (sIf (dTest (dOp eqD (dVar 4) (dTup dNil))) (sApp 1 (dVar 3)) sNext) (sFor (iSeqD (dRevT (dVar 4))) (dgName 5) (sApp 2 (dOp ixD (dVar 3) (dVar 5)))))))) (sRetOwn 1))))
def rd_agg_column : TDS := (sRet (dIf (dTest (dOp eqD (dCall lenD (dCons (dVar 0) dNil)) (dC (.int 3)))) (dOp ixD (dVar 0) (dC (.int 2))) (dC .none)))
def rd_law_numbers : TDS := (sSeq (sOwn (dLst dNil) 1) (sSeq (sAsg (dC (.int 31337)) (dgName 2)) (sSeq (sFor (iRg1 (dCons (dCall lenD (dCons (dVar 0) dNil)) dNil)) (dgName 3) (sSeq (sAsg (dCall absD (dCons (dCall toIntD (dCons (dOp ixD (dVar 0) (dVar 3)) dNil)) dNil)) (dgName 4)) (sSeq (sAsg (dOp geD (dVar 4) (dOp powD (dC (.int 10)) (dC (.int 18)))) (dgName 5)) (sSeq (sAsg (dOp addD (dOp addD (dOp addD (dOp mulD (dVar 4) (dC (.int 2))) (dCall toIntD (dCons (dOp ltD (dOp ixD (dVar 0) (dVar 3)) (dC (.int 0))) dNil))) (dOp mulD (dVar 3) (dC (.int 80021)))) (dC (.int 17))) (dgName 6)) (sSeq (sAsg (dOp modD (dCall toIntD (dCons (dOp addD (dOp mulD (dVar 2) (dC (.int 30011))) (dVar 6)) dNil)) (dC (.int 2147483629))) (dgName 2)) (sFor (iRg1 (dCons (dOp ixD (dN (dLst (dCons (dC (.int 7)) (dCons (dC (.int 60)) dNil)))) (dCall toIntD (dCons (dVar 5) dNil))) dNil)) (dgName 7) (sSeq (sAsg (dOp modD (dCall toIntD (dCons (dOp addD (dOp addD (dOp mulD (dVar 6) (dC (.int 48271))) (dOp mulD (dVar 7) (dC (.int 907)))) (dC (.int 4242))) dNil)) (dC (.int 2147483647))) (dgName 6)) (sSeq (sIf (dNot (dTest (dVar 5))) (sApp 1 (dOp fdivD (dOp modD (dCall toIntD (dCons (dOp addD (dOp addD (dOp mulD (dVar 6) (dVar 6)) (dOp mulD (dVar 3) (dC (.int 911)))) (dVar 7)) dNil)) (dC (.int 2147483629))) (dC (.int 64)))) (sIf (dTest (dOp gtD (dVar 4) (dC (.int 0)))) (sApp 1 (dOp modD (dCall toIntD (dCons (dVar 4) dNil)) (dC (.int 720720)))) sNext)) (sAsg (dOp fdivD (dVar 4) (dC (.int 720720))) (dgName 4)))))))))) (sSeq (sFor (iRg1 (dCons (dCall (int2D fun i j => if j > i then j else i) (dCons (dC (.int 0)) (dCons (dOp subD (dC (.int 300)) (dLenO 1)) dNil))) dNil)) (dgName 7) (sSeq (sAsg (dOp modD (dCall toIntD (dCons (dOp addD (dOp addD (dOp mulD (dVar 2) (dC (.int 39373))) (dOp mulD (dVar 7) (dC (.int 77)))) (dC (.int 5))) dNil)) (dC (.int 2147483647))) (dgName 2)) (sApp 1 (dOp fdivD (dOp modD (dCall toIntD (dCons (dOp addD (dOp mulD (dVar 2) (dVar 2)) (dVar 7)) dNil)) (dC (.int 2147483587))) (dC (.int 128)))))) (sRetNew (dSlO 1 dNoPart (dPart (dC (.int 300)))))))))
def rd_law_take : TDS := (sSeq (sSetV (vRef 0) (dC (.int 1)) (vD (dOp addD (eV (vIx (vRef 0) (dC (.int 1)))) (dC (.int 1))))) (sSeq (sIf (dTest (dOp gtD (eV (vIx (vRef 0) (dC (.int 1)))) (dCall lenD (dCons (eV (vIx (vRef 0) (dC (.int 0)))) dNil)))) (sRet (dC (.int 0))) sNext) (sRet (dOp modD (dCall toIntD (dCons (dOp ixD (eV (vIx (vRef 0) (dC (.int 0)))) (dOp subD (eV (vIx (vRef 0) (dC (.int 1)))) (dC (.int 1)))) dNil)) (dVar 1)))))
def rd_law_begun : TDS := (sSeq (sSetV (vRef 0) (dC (.int 2)) (vD (dVar 1))) (sSeq (sSetV (vRef 0) (dC (.int 3)) (vD (dVar 2))) (sSetV (vRef 0) (dC (.int 4)) (vLst vNil))))
def rd_law_col : TDS := (sSeq (sAsg (dCallQ xNo sp_law_take (wLend 0 (wCons (dC (.int 8)) wNil))) (dgName 1)) (sSeq (sIf (dOr (dTest (dOp ltD (dVar 1) (dC (.int 4)))) (dAnd (dTest (eV (vIx (vRef 0) (dC (.int 2))))) (dTest (dOp ltD (dVar 1) (dC (.int 7)))))) (sRet (dTup (dCons (dC (.str "col")) (dCons (dOp ixD (dN (dLst (dCons (dC (.str "t")) (dCons (dC (.str "s")) dNil)))) (dOp modD (dCall toIntD (dCons (dVar 1) dNil)) (dC (.int 2)))) (dCons (dOp ixD (dN (dLst (dCons (dC (.str "a")) (dCons (dC (.str "b")) (dCons (dC (.str "s")) dNil))))) (dCallQ xNo sp_law_take (wLend 0 (wCons (dC (.int 3)) wNil)))) dNil))))) sNext) (sSeq (sIf (dTest (dOp ltD (dVar 1) (dC (.int 6)))) (sRet (dTup (dCons (dC (.str "col")) (dCons (dCallQ xNo sp_law_take (wLend 0 (wCons (dC (.int 4)) wNil))) (dCons (dCallQ xNo sp_law_take (wLend 0 (wCons (dC (.int 3)) wNil))) dNil))))) sNext) (sSeq (sIf (dTest (dOp eqD (dVar 1) (dC (.int 6)))) (sRet (dTup (dCons (dC (.str "col")) (dCons (dCallQ xNo sp_law_take (wLend 0 (wCons (dC (.int 4)) wNil))) dNil)))) sNext) (sRet (dTup (dCons (dC (.str "col")) (dCons (dOp addD (dC (.str "u")) (dCall strD (dCons (dCallQ xNo sp_law_take (wLend 0 (wCons (dC (.int 720720)) wNil))) dNil))) (dCons (dC (.str "a")) dNil)))))))))
def rd_law_agg : TDS := (sSeq (sAsg (dCallQ xNo sp_law_take (wLend 0 (wCons (dC (.int 6)) wNil))) (dgName 1)) (sSeq (sIf (dTest (dOp gtD (dLenV (vIx (vRef 0) (dC (.int 4)))) (dC (.int 3)))) (sRet (eV (vIx (vIx (vRef 0) (dC (.int 4))) (dOp addD (dC (.int 1)) (dOp modD (dCall toIntD (dCons (dVar 1) dNil)) (dC (.int 3))))))) sNext) (sSeq (sAsg (dTup (dCons (dC (.str "agg")) (dCons (dOp ixD (dN (dLst (dCons (dC (.str "count")) (dCons (dC (.str "sum")) (dCons (dC (.str "min")) (dCons (dC (.str "max")) dNil)))))) (dCall (int2D fun i j => if j > i then j else i) (dCons (dC (.int 0)) (dCons (dOp subD (dVar 1) (dC (.int 2))) dNil)))) (dCons (dCallQ xNo sp_law_col (wLend 0 wNil)) dNil)))) (dgName 2)) (sSeq (sIf (dAnd (dTest (dOp eqD (dVar 1) (dC (.int 0)))) (dAnd (dTest (dOp gtD (eV (vIx (vRef 0) (dC (.int 3)))) (dC (.int 0)))) (dTest (dOp eqD (dLenV (vIx (vRef 0) (dC (.int 4)))) (dC (.int 0)))))) (sSeq (sSetV (vRef 0) (dC (.int 3)) (vD (dOp subD (eV (vIx (vRef 0) (dC (.int 3)))) (dC (.int 1))))) (sAsg (dTup (dCons (dC (.str "agg")) (dCons (dC (.str "count")) (dCons (dC .none) dNil)))) (dgName 2))) sNext) (sSeq (sIf (dAnd (dTest (dOp eqD (dVar 1) (dC (.int 1)))) (dNot (dTest (eV (vIx (vRef 0) (dC (.int 2))))))) (sAsg (dTup (dCons (dC (.str "agg")) (dCons (dCallQ xNo sp_law_take (wLend 0 (wCons (dC (.int 4)) wNil))) dNil))) (dgName 2)) sNext) (sSeq (sIf (dTest (dInV true (dVar 2) (vIx (vRef 0) (dC (.int 4))))) (sAppV (vIx (vRef 0) (dC (.int 4))) (vD (dVar 2))) sNext) (sRet (dVar 2))))))))
def rd_law_expr (n : Nat) : TDS := (sSeq (sAsg (dCallQ xNo sp_law_take (wLend 0 (wCons (dC (.int 14)) wNil))) (dgName 2)) (sSeq (sIf (dAnd (dTest (dOp gtD (dVar 1) (dC (.int 0)))) (dAnd (dTest (dOp gtD (dVar 2) (dC (.int 7)))) (dTest (dOp gtD (eV (vIx (vRef 0) (dC (.int 3)))) (dC (.int 0)))))) (sSeq (sSetV (vRef 0) (dC (.int 3)) (vD (dOp subD (eV (vIx (vRef 0) (dC (.int 3)))) (dC (.int 1))))) (sSeq (sIf (dTest (dOp gtD (dVar 2) (dC (.int 11)))) (sRet (dTup (dCons (dC (.str "neg")) (dCons (dCallQ xNo (sp_law_expr n) (wLend 0 (wCons (dOp subD (dVar 1) (dC (.int 1))) wNil))) dNil)))) sNext) (sSeq (sAsg (dCallQ xNo (sp_law_expr n) (wLend 0 (wCons (dOp subD (dVar 1) (dC (.int 1))) wNil))) (dgName 3)) (sRet (dTup (dCons (dOp ixD (dN (dLst (dCons (dC (.str "add")) (dCons (dC (.str "sub")) (dCons (dC (.str "mul")) (dCons (dC (.str "add")) dNil)))))) (dOp subD (dVar 2) (dC (.int 8)))) (dCons (dVar 3) (dCons (dCallQ xNo (sp_law_expr n) (wLend 0 (wCons (dOp subD (dVar 1) (dC (.int 1))) wNil))) dNil)))))))) sNext) (sSeq (sIf (dTest (dOp eqD (dVar 2) (dC (.int 1)))) (sRet (dTup (dCons (dC (.str "num")) (dCons (dCallQ xNo sp_law_take (wLend 0 (wCons (dC (.int 720720)) wNil))) dNil)))) sNext) (sSeq (sIf (dTest (dOp eqD (dVar 2) (dC (.int 2)))) (sRet (dTup (dCons (dC (.str "text")) (dCons (dOp ixD (dN (dLst (dCons (dC (.str "")) (dCons (dC (.str "col")) (dCons (dC (.str "agg")) (dCons (dC (.str "t")) (dCons (dC (.str "count")) (dCons (dC (.str "and")) (dCons (dC (.str "exists")) (dCons (dC (.str "in")) dNil)))))))))) (dCallQ xNo sp_law_take (wLend 0 (wCons (dC (.int 8)) wNil)))) dNil)))) sNext) (sSeq (sIf (dTest (dOp gtD (dVar 2) (dC (.int 4)))) (sRet (dCallQ xNo sp_law_agg (wLend 0 wNil))) sNext) (sRet (dCallQ xNo sp_law_col (wLend 0 wNil))))))))
def rd_law_question (n_law_expr : Nat) : TDS := (sSeq (sAsg (dCallQ xNo (sp_law_expr n_law_expr) (wLend 0 (wCons (dC (.int 1)) wNil))) (dgName 1)) (sSeq (sAsg (dC .none) (dgName 2)) (sSeq (sIf (dTest (dOp eqD (dCallQ xNo sp_law_take (wLend 0 (wCons (dC (.int 2)) wNil))) (dC (.int 1)))) (sAsg (dTup (dCons (dC (.str "null")) (dCons (dCallQ xNo (sp_law_expr n_law_expr) (wLend 0 (wCons (dC (.int 1)) wNil))) dNil))) (dgName 2)) sNext) (sSeq (sAsg (dTup (dCons (dC (.str "from")) (dCons (dTup (dCons (dC (.str "named")) (dCons (dC (.str "s")) dNil))) (dCons (dC (.str "s")) (dCons (dC .none) dNil))))) (dgName 3)) (sRet (dTup (dCons (dC (.str "question")) (dCons (dTup dNil) (dCons (dC (.bool false)) (dCons (dTup (dCons (dTup (dCons (dVar 1) (dCons (dC (.str "x")) dNil))) dNil)) (dCons (dTup (dCons (dVar 3) dNil)) (dCons (dVar 2) (dCons (dTup (dCons (dCallQ xNo sp_law_col (wLend 0 wNil)) dNil)) (dCons (dC .none) (dCons (dTup dNil) (dCons (dC .none) dNil))))))))))))))))
def rd_law_cond (n : Nat) (n_law_expr : Nat) : TDS := (sSeq (sAsg (dCallQ xNo sp_law_take (wLend 0 (wCons (dC (.int 16)) wNil))) (dgName 2)) (sSeq (sIf (dAnd (dTest (dOp gtD (dVar 1) (dC (.int 0)))) (dAnd (dTest (dOp gtD (dVar 2) (dC (.int 11)))) (dTest (dOp gtD (eV (vIx (vRef 0) (dC (.int 3)))) (dC (.int 0)))))) (sSeq (sSetV (vRef 0) (dC (.int 3)) (vD (dOp subD (eV (vIx (vRef 0) (dC (.int 3)))) (dC (.int 1))))) (sSeq (sAsg (dOp ixD (dN (dLst (dCons (dC (.str "and")) (dCons (dC (.str "or")) dNil)))) (dCallQ xNo sp_law_take (wLend 0 (wCons (dC (.int 2)) wNil)))) (dgName 3)) (sSeq (sAsg (dCallQ xNo (sp_law_cond n) (wLend 0 (wCons (dOp subD (dVar 1) (dC (.int 1))) wNil))) (dgName 4)) (sRet (dTup (dCons (dVar 3) (dCons (dVar 4) (dCons (dCallQ xNo (sp_law_cond n) (wLend 0 (wCons (dOp subD (dVar 1) (dC (.int 1))) wNil))) dNil)))))))) sNext) (sSeq (sIf (dAnd (dTest (dOp gtD (dVar 1) (dC (.int 0)))) (dTest (dOp gtD (dVar 2) (dC (.int 7))))) (sSeq (sAsg (dOp ixD (dN (dLst (dCons (dC (.str "not")) (dCons (dC (.str "maybe")) dNil)))) (dOp modD (dCall toIntD (dCons (dVar 2) dNil)) (dC (.int 2)))) (dgName 3)) (sRet (dTup (dCons (dVar 3) (dCons (dCallQ xNo (sp_law_cond n) (wLend 0 (wCons (dOp subD (dVar 1) (dC (.int 1))) wNil))) dNil))))) sNext) (sSeq (sIf (dAnd (dTest (dOp gtD (dVar 2) (dC (.int 5)))) (dTest (dOp gtD (dVar 1) (dC (.int 0))))) (sSeq (sAsg (dTup (dCons (dC (.str "cmp")) (dCons (dC (.str "<")) (dCons (dCallQ xNo sp_law_col (wLend 0 wNil)) (dCons (dCallQ xNo (sp_law_expr n_law_expr) (wLend 0 (wCons (dC (.int 1)) wNil))) dNil))))) (dgName 5)) (sSeq (sAsg (dOp ixD (dN (dLst (dCons (dC .none) (dCons (dCallQ xNo (sp_law_cond n) (wLend 0 (wCons (dOp subD (dVar 1) (dC (.int 1))) wNil))) dNil)))) (dCallQ xNo sp_law_take (wLend 0 (wCons (dC (.int 2)) wNil)))) (dgName 6)) (sSeq (sAsg (dTup (dCons (dC (.str "from")) (dCons (dTup (dCons (dC (.str "named")) (dCons (dC (.str "s")) dNil))) (dCons (dC (.str "s")) (dCons (dC .none) dNil))))) (dgName 7)) (sRet (dTup (dCons (dC (.str "exists")) (dCons (dTup (dCons (dVar 7) (dCons (dTup (dCons (dC (.str "left")) (dCons (dCallQ xNo sp_law_question (wLend 0 wNil)) (dCons (dC (.str "r")) (dCons (dVar 5) dNil))))) dNil))) (dCons (dVar 6) dNil)))))))) sNext) (sSeq (sIf (dOr (dTest (dOp eqD (dVar 2) (dC (.int 5)))) (dTest (dOp eqD (dVar 2) (dC (.int 4))))) (sRet (dTup (dCons (dC (.str "in")) (dCons (dCallQ xNo (sp_law_expr n_law_expr) (wLend 0 (wCons (dC (.int 2)) wNil))) (dCons (dCallQ xNo sp_law_question (wLend 0 wNil)) dNil))))) sNext) (sSeq (sIf (dTest (dOp eqD (dVar 2) (dC (.int 3)))) (sRet (dTup (dCons (dC (.str "null")) (dCons (dCallQ xNo (sp_law_expr n_law_expr) (wLend 0 (wCons (dC (.int 4)) wNil))) dNil)))) sNext) (sSeq (sAsg (dCallQ xNo (sp_law_expr n_law_expr) (wLend 0 (wCons (dC (.int 3)) wNil))) (dgName 4)) (sSeq (sAsg (dOp ixD (dN (dLst (dCons (dC (.str "=")) (dCons (dC (.str "<>")) (dCons (dC (.str "<")) (dCons (dC (.str "<=")) (dCons (dC (.str ">")) (dCons (dC (.str ">=")) dNil)))))))) (dCallQ xNo sp_law_take (wLend 0 (wCons (dC (.int 6)) wNil)))) (dgName 8)) (sRet (dTup (dCons (dC (.str "cmp")) (dCons (dVar 8) (dCons (dVar 4) (dCons (dCallQ xNo (sp_law_expr n_law_expr) (wLend 0 (wCons (dC (.int 3)) wNil))) dNil))))))))))))))
def rd_law_parts : TDS := (sSeq (sIf (dOr (dTest (dIsN (dVar 0))) (dOr (dTest (dOp eqD (dOp ixD (dVar 0) (dC (.int 0))) (dC (.str "exists")))) (dTest (dOp eqD (dOp ixD (dVar 0) (dC (.int 0))) (dC (.str "col")))))) (sRetNew (dLst dNil)) sNext) (sSeq (sIf (dTest (dOp eqD (dOp ixD (dVar 0) (dC (.int 0))) (dC (.str "in")))) (sRetNew (dLst (dCons (dOp ixD (dVar 0) (dC (.int 1))) dNil))) sNext) (sRetNew (dLc (iSeqD (dSl (dVar 0) (dPart (dC (.int 1))) dNoPart)) (dgName 1) (dTest (dIsi "tuple" (dVar 1))) (dVar 1) [1]))))
def rd_law_found : TDS := (sSeq (sOwn (dLst dNil) 2) (sSeq (sOwn (dLst (dCons (dVar 0) dNil)) 3) (sSeq (sFor (iRg1 (dCons (dC (.int 20000)) dNil)) (dgName 4) (sSeq (sIf (dTest (dOp eqD (dLenO 3) (dC (.int 0)))) sBreak sNext) (sSeq (sAsg (dPop 3) (dgName 5)) (sSeq (sIf (dAnd (dTest (dNotN (dVar 5))) (dAnd (dTest (dOp eqD (dOp ixD (dVar 5) (dC (.int 0))) (dVar 1))) (dTest (dInO true 2 (dVar 5))))) (sApp 2 (dVar 5)) sNext) (sOwn (dAddN (dFrz 3) (dN (dRev (dN (dCallNw sp_law_parts (cCons (dVar 5) cNil)))))) 3))))) (sRet (dCall tupleD (dCons (dFrz 2) dNil))))))
def rd_law_levels : TDS := (sSeq (sAsg (dN (dLc (iSeqD (dN (dLst (dCons (dVar 0) dNil)))) (dgName 5) (dTest (dNotN (dVar 5))) (dVar 5) [5])) (dgName 1)) (sSeq (sAsg (dC (.int 0)) (dgName 2)) (sSeq (sFor (iRg1 (dCons (dC (.int 400)) dNil)) (dgName 3) (sSeq (sIf (dTest (dOp eqD (dCall lenD (dCons (dVar 1) dNil)) (dC (.int 0)))) sBreak sNext) (sSeq (sAsg (dOp addD (dVar 2) (dC (.int 1))) (dgName 2)) (sSeq (sAsg (dN (dLst dNil)) (dgName 4)) (sSeq (sFor (iSeqD (dVar 1)) (dgName 5) (sIf (dTest (dOp neD (dOp ixD (dVar 5) (dC (.int 0))) (dC (.str "agg")))) (sAsg (dOp addD (dVar 4) (dN (dCallNw sp_law_parts (cCons (dVar 5) cNil)))) (dgName 4)) sNext)) (sAsg (dVar 4) (dgName 1))))))) (sRet (dVar 2)))))
def rd_law_split : TDS := (sSeq (sOwn (dLst dNil) 1) (sSeq (sOwn (dLst (dCons (dVar 0) dNil)) 2) (sSeq (sFor (iRg1 (dCons (dC (.int 20000)) dNil)) (dgName 3) (sSeq (sIf (dTest (dOp eqD (dLenO 2) (dC (.int 0)))) sBreak sNext) (sSeq (sAsg (dPop 2) (dgName 4)) (sIf (dTest (dOp eqD (dOp ixD (dVar 4) (dC (.int 0))) (dC (.str "and")))) (sSeq (sApp 2 (dOp ixD (dVar 4) (dC (.int 2)))) (sApp 2 (dOp ixD (dVar 4) (dC (.int 1))))) (sApp 1 (dVar 4)))))) (sRet (dCall tupleD (dCons (dFrz 1) dNil))))))
def rd_law_put (P : Program) (w : World) (n : Nat) : TDS := (sFrzN P w 1 (sSeq (sIf (dTest (dIsN (dVar 0))) (sRet (dC .none)) sNext) (sSeq (sIf (dAnd (dOr (dTest (dOp eqD (dOp ixD (dVar 0) (dC (.int 0))) (dC (.str "col")))) (dTest (dOp eqD (dOp ixD (dVar 0) (dC (.int 0))) (dC (.str "agg"))))) (dTest (dInF P w false 1 (dVar 0)))) (sRet (dIxF P w 1 (dVar 0))) sNext) (sSeq (sIf (dOr (dTest (dOp eqD (dOp ixD (dVar 0) (dC (.int 0))) (dC (.str "exists")))) (dTest (dOp eqD (dOp ixD (dVar 0) (dC (.int 0))) (dC (.str "col"))))) (sRet (dVar 0)) sNext) (sSeq (sIf (dTest (dOp eqD (dOp ixD (dVar 0) (dC (.int 0))) (dC (.str "in")))) (sRet (dTup (dCons (dC (.str "in")) (dCons (dCallQ xNo (sp_law_put P w n) (wCons (dOp ixD (dVar 0) (dC (.int 1))) (wLend 1 wNil))) (dCons (dOp ixD (dVar 0) (dC (.int 2))) dNil))))) sNext) (sSeq (sOwn (dLst dNil) 2) (sSeq (sFor (iSeqD (dVar 0)) (dgName 3) (sIf (dTest (dIsi "tuple" (dVar 3))) (sApp 2 (dCallQ xNo (sp_law_put P w n) (wCons (dVar 3) (wLend 1 wNil)))) (sApp 2 (dVar 3)))) (sRet (dCall tupleD (dCons (dFrz 2) dNil))))))))))
def rd_law_table (P : Program) (w : World) : TDS := (sSeq (sDictN P w 2) (sSeq (sFor (iSeqD (dOp addD (dCallF sp_law_found (cCons (dVar 1) (cCons (dC (.str "col")) cNil))) (dCallF sp_law_found (cCons (dVar 1) (cCons (dC (.str "agg")) cNil))))) (dgName 3) (sSeq (sAsg (dCallQ xNo sp_law_take (wLend 0 (wCons (dC (.int 7)) wNil))) (dgName 4)) (sSeq (sIf (dTest (dOp eqD (dVar 4) (dC (.int 1)))) (sSetN P w 2 (dVar 3) (dTup (dCons (dC (.str "add")) (dCons (dVar 3) (dCons (dTup (dCons (dC (.str "num")) (dCons (dC (.int 1)) dNil))) dNil))))) sNext) (sSeq (sIf (dTest (dOp eqD (dVar 4) (dC (.int 2)))) (sSetN P w 2 (dVar 3) (dCallQ xNo sp_law_col (wLend 0 wNil))) sNext) (sSeq (sIf (dTest (dOp eqD (dVar 4) (dC (.int 3)))) (sSetN P w 2 (dVar 3) (dTup (dCons (dC (.str "neg")) (dCons (dTup (dCons (dC (.str "agg")) (dCons (dC (.str "sum")) (dCons (dTup (dCons (dC (.str "col")) (dCons (dC (.str "t")) (dCons (dC (.str "a")) dNil)))) dNil)))) dNil)))) sNext) (sIf (dTest (dOp eqD (dVar 4) (dC (.int 4)))) (sSetN P w 2 (dVar 3) (dTup (dCons (dC (.str "agg")) (dCons (dCallQ xNo sp_law_take (wLend 0 (wCons (dC (.int 4)) wNil))) dNil)))) sNext)))))) (sSeq (sSetN P w 2 (dCallQ xNo sp_law_col (wLend 0 wNil)) (dTup (dCons (dC (.str "num")) (dCons (dC (.int 0)) dNil)))) (sSeq (sSetN P w 2 (dCallQ xNo sp_law_agg (wLend 0 wNil)) (dTup (dCons (dC (.str "col")) (dCons (dC (.str "s")) (dCons (dC (.str "b")) dNil))))) (sRetV (vMvO 2))))))
def rd_law_same (n : Nat) : TDS := (sSeq (sIf (dOr (dTest (dIsN (dVar 1))) (dTest (dIsN (dVar 0)))) (sRet (dAndV (dIsN (dVar 0)) (dIsN (dVar 1)))) sNext) (sSeq (sIf (dOr (dTest (dIsi "bool" (dVar 1))) (dTest (dIsi "bool" (dVar 0)))) (sRet (dAndV (dIsi "bool" (dVar 1)) (dAndV (dIsi "bool" (dVar 0)) (dOp eqD (dVar 0) (dVar 1))))) sNext) (sSeq (sIf (dTest (dIsi "int" (dVar 1))) (sRet (dAndV (dIsi "int" (dVar 0)) (dOp eqD (dVar 0) (dVar 1)))) sNext) (sSeq (sIf (dTest (dIsi "str" (dVar 1))) (sRet (dAndV (dIsi "str" (dVar 0)) (dOp eqD (dVar 0) (dVar 1)))) sNext) (sSeq (sIf (dOr (dNot (dTest (dIsi "tuple" (dVar 1)))) (dOr (dNot (dTest (dIsi "tuple" (dVar 0)))) (dTest (dOp neD (dCall lenD (dCons (dVar 0) dNil)) (dCall lenD (dCons (dVar 1) dNil)))))) (sRet (dC (.bool false))) sNext) (sRet (dCall (boolsD fun bs => bs.all id) (dCons (dN (dLc (iRg1 (dCons (dCall lenD (dCons (dVar 1) dNil)) dNil)) (dgName 2) dYes (dCallF (sp_law_same n) (cCons (dOp ixD (dVar 0) (dVar 2)) (cCons (dOp ixD (dVar 1) (dVar 2)) cNil))) [2])) dNil))))))))
def rd_law_is_right (P : Program) (w : World) (n_law_same : Nat) (n_law_put : Nat) (n_replaced : Nat) : TDS := (sSeq (sIf (dNot (dTest (dCallF (sp_law_same n_law_same) (cCons (dCallF sp_columns_in (cCons (dVar 1) cNil)) (cCons (dCallF sp_law_found (cCons (dVar 1) (cCons (dC (.str "col")) cNil))) cNil))))) (sRet (dC (.bool false))) sNext) (sSeq (sIf (dNot (dTest (dCallF (sp_law_same n_law_same) (cCons (dCallF sp_aggs_in (cPerm 1 [0] (cCons (dVar 1) cNil))) (cCons (dCallF sp_law_found (cCons (dVar 1) (cCons (dC (.str "agg")) cNil))) cNil))))) (sRet (dC (.bool false))) sNext) (sSeq (sIf (dAnd (dTest (eV (vIx (vRef 0) (dC (.int 2))))) (dNot (dTest (dCallF (sp_law_same n_law_same) (cCons (dCallF sp_height (cPerm 1 [0] (cCons (dVar 1) cNil))) (cCons (dCallF sp_law_levels (cCons (dVar 1) cNil)) cNil)))))) (sRet (dC (.bool false))) sNext) (sSeq (sAsgV (vCallQ xNo (sp_law_table P w) (wLend 0 (wCons (dVar 1) wNil))) 2) (sFrzN P w 2 (sSeq (sAsg (dN (dLc (iDnF P w 2) (dgName 5) dYes (dTup (dCons (dVar 5) (dCons (dIxF P w 2 (dVar 5)) dNil))) [5])) (dgName 3)) (sSeq (sIf (dNot (dTest (dCallF (sp_law_same n_law_same) (cCons (dCallQ xNo (sp_replaced P w n_replaced) (wCons (dVar 1) (wLend 2 wNil))) (cCons (dCallQ xNo (sp_law_put P w n_law_put) (wCons (dVar 1) (wVal (vDictOf P w (dVar 3)) wNil))) cNil))))) (sRet (dC (.bool false))) sNext) (sSeq (sIf (dNot (dTest (dCallF (sp_law_same n_law_same) (cCons (dCall tupleD (dCons (dN (dLc (iDnF P w 2) (dgName 5) dYes (dTup (dCons (dVar 5) (dCons (dIxF P w 2 (dVar 5)) dNil))) [5])) dNil)) (cCons (dCall tupleD (dCons (dVar 3) dNil)) cNil))))) (sRet (dC (.bool false))) sNext) (sSeq (sAsg (dTup (dCons (dVar 1) (dCons (dCallF sp_law_found (cCons (dVar 1) (cCons (dC (.str "col")) cNil))) dNil))) (dgName 4)) (sRet (dCallF (sp_law_same n_law_same) (cCons (dTup (dCons (dCallQ xNo (sp_replaced P w n_replaced) (wPm2 (wVal (vDictN P w) (wCons (dVar 1) wNil)))) (dCons (dCallF sp_columns_in (cPerm 1 [0] (cCons (dVar 1) cNil))) dNil))) (cCons (dVar 4) cNil)))))))))))))
def rd_law_conds_right (n_law_same : Nat) : TDS := (sSeq (sAsg (dC .none) (dgName 2)) (sSeq (sFor (iSeqD (dVar 1)) (dgName 3) (sIf (dTest (dIsN (dVar 2))) (sAsg (dVar 3) (dgName 2)) (sAsg (dTup (dCons (dC (.str "and")) (dCons (dVar 2) (dCons (dVar 3) dNil)))) (dgName 2)))) (sSeq (sAsg (dN (dLst dNil)) (dgName 4)) (sSeq (sFor (iSeqD (dVar 1)) (dgName 3) (sAsg (dOp addD (dVar 4) (dN (dCallN listD (dCons (dCallF sp_law_split (cCons (dVar 3) cNil)) dNil)))) (dgName 4))) (sSeq (sIf (dOr (dNot (dTest (dCallF (sp_law_same n_law_same) (cCons (dCallF sp_joined (cPerm 1 [0] (cCons (dCall tupleD (dCons (dVar 1) dNil)) cNil))) (cCons (dVar 2) cNil))))) (dNot (dTest (dCallF (sp_law_same n_law_same) (cCons (dCallF sp_members (cPerm 1 [0] (cCons (dVar 2) cNil))) (cCons (dCall tupleD (dCons (dVar 4) dNil)) cNil)))))) (sRet (dC (.bool false))) sNext) (sSeq (sAsg (dCallF sp_members (cCons (dCallF sp_joined (cCons (dCallF sp_members (cCons (dVar 2) cNil)) cNil)) cNil)) (dgName 5)) (sRet (dAndV (dCallF (sp_law_same n_law_same) (cCons (dVar 5) (cCons (dCall tupleD (dCons (dVar 4) dNil)) cNil))) (dCallQ xNo sp_law_is_right (wLend 0 (wCons (dVar 2) wNil)))))))))))
def rd_law (n_law_cond : Nat) (n_law_same : Nat) (n_law_expr : Nat) : TDS := (sSeq (sAsgV (vLst (vCons (vD (dN (dCallNw sp_law_numbers (cCons (dVar 0) cNil)))) (vCons (vD (dC (.int 0))) (vCons (vD (dC (.bool true))) (vCons (vD (dC (.int 40))) (vCons (vLst vNil) vNil)))))) 1) (sPerm 1 (sSeq (sAsg (dCallQ xNo (sp_law_cond n_law_cond) (wLend 1 (wCons (dC (.int 5)) wNil))) (dgName 2)) (sSeq (sIf (dOr (dNot (dTest (dCallQ xNo sp_law_conds_right (wLend 1 (wCons (dN (dLst dNil)) wNil))))) (dOr (dNot (dTest (dCallF (sp_law_same n_law_same) (cCons (dCallF sp_members (cCons (dC .none) cNil)) (cCons (dTup dNil) cNil))))) (dNot (dTest (dCallQ xNo sp_law_is_right (wLend 1 (wCons (dC .none) wNil))))))) (sRet (dC (.bool false))) sNext) (sSeq (sIf (dOr (dNot (dTest (dCallQ xNo sp_law_is_right (wLend 1 (wCons (dVar 2) wNil))))) (dNot (dTest (dCallF (sp_law_same n_law_same) (cCons (dCallF sp_members (cCons (dVar 2) cNil)) (cCons (dCallF sp_law_split (cCons (dVar 2) cNil)) cNil)))))) (sRet (dC (.bool false))) sNext) (sSeq (sFor (iSeqD (dN (dLst (dCons (dC (.int 4)) (dCons (dC (.int 5)) (dCons (dC (.int 2)) (dCons (dC (.int 6)) dNil))))))) (dgName 3) (sSeq (sDrop (dCallQ xNo sp_law_begun (wLend 1 (wCons (dOp eqD (dCallQ xNo sp_law_take (wLend 1 (wCons (dC (.int 3)) wNil))) (dC (.int 0))) (wCons (dC (.int 40)) wNil))))) (sIf (dNot (dTest (dCallQ xNo sp_law_is_right (wLend 1 (wCons (dCallQ xNo (sp_law_expr n_law_expr) (wLend 1 (wCons (dVar 3) wNil))) wNil))))) (sRet (dC (.bool false))) sNext))) (sSeq (sFor (iSeqD (dN (dLst (dCons (dC (.int 5)) (dCons (dC (.int 2)) dNil))))) (dgName 3) (sSeq (sDrop (dCallQ xNo sp_law_begun (wLend 1 (wCons (dC (.bool false)) (wCons (dC (.int 40)) wNil))))) (sIf (dNot (dTest (dCallQ xNo sp_law_is_right (wLend 1 (wCons (dCallQ xNo (sp_law_cond n_law_cond) (wLend 1 (wCons (dVar 3) wNil))) wNil))))) (sRet (dC (.bool false))) sNext))) (sSeq (sFor (iSeqD (dN (dLst (dCons (dC (.int 3)) (dCons (dC (.int 40)) dNil))))) (dgName 4) (sSeq (sAsg (dCall (int2D fun i j => if j < i then j else i) (dCons (dVar 4) (dCons (dOp ixD (dN (dLst (dCons (dC (.int 1)) (dCons (dC (.int 2)) (dCons (dC (.int 3)) (dCons (dC (.int 4)) (dCons (dC (.int 6)) (dCons (dC (.int 40)) dNil)))))))) (dCallQ xNo sp_law_take (wLend 1 (wCons (dC (.int 6)) wNil)))) dNil))) (dgName 5)) (sSeq (sDrop (dCallQ xNo sp_law_begun (wLend 1 (wCons (dC (.bool true)) (wCons (dOp subD (dC (.int 41)) (dVar 5)) wNil))))) (sIf (dNot (dTest (dCallQ xNo sp_law_conds_right (wLend 1 (wCons (dN (dLc (iRg1 (dCons (dVar 5) dNil)) (dgName 6) dYes (dCallQ xNo (sp_law_cond n_law_cond) (wLend 1 (wCons (dOp mulD (dCall toIntD (dCons (dOp ltD (dVar 6) (dC (.int 7))) dNil)) (dC (.int 2))) wNil))) [6])) wNil))))) (sRet (dC (.bool false))) sNext)))) (sRet (dAndV (dCallF (sp_law_same n_law_same) (cCons (dCallF sp_columns_in (cCons (dVar 2) cNil)) (cCons (dCallF sp_law_found (cCons (dVar 2) (cCons (dC (.str "col")) cNil))) cNil))) (dCallF (sp_law_same n_law_same) (cCons (dCallF sp_members (cCons (dVar 2) cNil)) (cCons (dCallF sp_law_split (cCons (dVar 2) cNil)) cNil)))))))))))))
local macro_rules | `(tactic| walk_at "wd") => `(tactic| (simp only [Tr.word, Un.w, Bi.w]; decide))
theorem ix0 {d : D} {ds : List D} {Qd : D → Prop} (q : Qd d) : ixD (.tuple (d :: ds)) (.int 0) Qd := st_ixT (by rw [show (0 : Int) = ((0 : Nat) : Int) from rfl, atI_cast]; rfl) q
theorem word_ix {t : Tr} {Qd : D → Prop} (q : Qd (.str t.word)) : ixD t.enc (.int 0) Qd := by
  cases t <;> exact ix0 q
theorem places_look (t : Tr) : (lookK kv_TREE_PARTS t.word).getD (.tuple []) = .tuple (t.places.map .int) := by
  cases t with
  | un w a => cases w <;> (simp only [Tr.word, Un.w, Bi.w, Tr.places]; rfl)
  | bi w a b => cases w <;> (simp only [Tr.word, Un.w, Bi.w, Tr.places]; rfl)
  | _ => simp only [Tr.word, Un.w, Bi.w, Tr.places]; rfl
theorem enc_none (t : Tr) : isNoneD t.enc = false := by cases t <;> rfl
theorem first_wait {o : Option Tr} {δ : Dl} {Ql : List D → Dl → Prop} (h : δ[0]? = some (.dt (encO o))) (q : Ql (o.toList.map Tr.enc) δ) : nIf (dTest (dIsN (dVar 0))) (dLst dNil) (dLst (dCons (dVar 0) dNil)) δ Ql := by
  cases o with
  | none =>
    refine st_nIf (st_test (st_isN (st_var h ⟨true, rfl, ?_⟩)))
    rw [if_pos rfl]
    exact ⟨Nat.zero_le _, q⟩
  | some t =>
    refine st_nIf (st_test (st_isN (st_var h ⟨false, by rw [show encO (some t) = t.enc from rfl, enc_none], ?_⟩)))
    rw [if_neg Bool.false_ne_true]
    exact st_lst (st_cons (st_var h (st_nil ⟨by show 1 ≤ 10000; decide, q⟩)))
theorem size_pos (t : Tr) : 1 ≤ t.size := by cases t <;> simp only [Tr.size] <;> omega
def szs (l : List Tr) : Nat := (l.map Tr.size).sum
theorem szs_app (a b : List Tr) : szs (a ++ b) = szs a + szs b := by simp [szs]
theorem szs_one (t : Tr) : szs [t] = t.size := by simp [szs]
theorem szs_nil : szs [] = 0 := rfl
theorem szs_cons (t : Tr) (l : List Tr) : szs (t :: l) = t.size + szs l := by simp [szs]
theorem szs_len (l : List Tr) : l.length ≤ szs l := by
  induction l with
  | nil => exact Nat.zero_le _
  | cons t l ih =>
    rw [szs_cons, List.length_cons]
    have := size_pos t
    omega
theorem szs_O (o : Option Tr) : szs o.toList ≤ sizeO o := by
  cases o with
  | none => exact Nat.zero_le _
  | some t => exact Nat.le_of_eq (szs_one t)
theorem snoc_ex {α : Type} (l : List α) : l = [] ∨ ∃ l' z, l = l' ++ [z] := by
  rcases List.eq_nil_or_concat l with h | ⟨l', z, h⟩
  · exact .inl h
  · exact .inr ⟨l', z, by simpa using h⟩
theorem enc_snoc (l : List Tr) (t : Tr) : (l ++ [t]).map Tr.enc = l.map Tr.enc ++ [t.enc] := by simp
theorem kids_szs (t : Tr) : szs t.kids + 1 ≤ t.size := by
  cases t <;> simp only [Tr.kids, Tr.size, szs_cons, szs_nil] <;> omega
theorem lkids_szs (t : Tr) : szs t.lkids + 1 ≤ t.size := by
  cases t <;> simp only [Tr.lkids, Tr.kids, Tr.size, szs_cons, szs_nil] <;> omega
theorem and_word {t : Tr} (h : t.word = "and") : ∃ a b, t = .bi .and a b := by
  cases t with
  | bi w a b =>
    cases w with
    | and => exact ⟨a, b, rfl⟩
    | _ => exact absurd h (by walk_at "wd")
  | un w a => cases w <;> exact absurd h (by walk_at "wd")
  | _ => exact absurd h (by walk_at "wd")
theorem agg_word (t : Tr) : decide (t.word = ("agg" : Str)) = t.isAgg := by
  cases t with
  | bi w a b => cases w <;> exact decide_eq_false (by walk_at "wd")
  | un w a => cases w <;> exact decide_eq_false (by walk_at "wd")
  | _ => first | exact decide_eq_true rfl | exact decide_eq_false (by walk_at "wd")
theorem ands_not {t : Tr} (h : ¬ t.word = "and") : t.ands = [t] := by
  cases t with
  | bi w a b =>
    cases w with
    | and => exact absurd rfl h
    | _ => rfl
  | _ => rfl
theorem ands_szs (t : Tr) : szs t.ands ≤ t.size := by
  induction t with
  | bi w a b iha ihb =>
    by_cases h : (Tr.bi w a b).word = "and"
    · obtain ⟨a', b', e⟩ := and_word h
      cases e
      simp only [Tr.ands, szs_app, Tr.size]
      omega
    · rw [ands_not h, szs_one]
      exact Nat.le_refl _
  | _ => simp only [Tr.ands, szs_one]; exact Nat.le_refl _
theorem leaf_places {t : Tr} (h : t.places = []) : t.kids = [] ∧ t.leaves = [t] := by
  cases t <;> first | exact ⟨rfl, rfl⟩ | cases h
theorem node_leaves {t : Tr} (h : t.places ≠ []) : t.leaves = t.kids.flatMap Tr.leaves := by
  cases t <;> first | exact absurd rfl h | simp [Tr.leaves, Tr.kids]
theorem leaves_len (t : Tr) : t.leaves.length ≤ t.size := by
  induction t <;> simp only [Tr.leaves, Tr.size, List.length_append, List.length_singleton] <;> omega
theorem leavesO_len (o : Option Tr) : (leavesO o).length ≤ sizeO o := by
  cases o with
  | none => exact Nat.zero_le _
  | some t => simpa [leavesO, sizeO] using leaves_len t
theorem place_get (t : Tr) {i : Nat} {k : Tr} (h : t.kids[i]? = some k) : ∃ p : Nat, t.places[i]? = some (p : Int) ∧ ∀ Qd : D → Prop, Qd k.enc → ixD t.enc (.int (p : Int)) Qd := by
  cases t with
  | un w a =>
    match i, h with
    | 0, h => cases h; exact ⟨1, rfl, fun Qd q => ⟨_, rfl, q⟩⟩
  | bi w a b =>
    match i, h with
    | 0, h => cases h; exact ⟨1, rfl, fun Qd q => ⟨_, rfl, q⟩⟩
    | 1, h => cases h; exact ⟨2, rfl, fun Qd q => ⟨_, rfl, q⟩⟩
  | cmp w a b =>
    match i, h with
    | 0, h => cases h; exact ⟨2, rfl, fun Qd q => ⟨_, rfl, q⟩⟩
    | 1, h => cases h; exact ⟨3, rfl, fun Qd q => ⟨_, rfl, q⟩⟩
  | inq a q =>
    match i, h with
    | 0, h => cases h; exact ⟨1, rfl, fun Qd q => ⟨_, rfl, q⟩⟩
  | _ => simp [Tr.kids] at h
theorem places_len (t : Tr) : t.places.length = t.kids.length := by cases t <;> rfl
theorem place_of (t : Tr) {i : Nat} {p : Int} (h : t.places[i]? = some p) : ∃ k, t.kids[i]? = some k ∧ ∀ Qd : D → Prop, Qd k.enc → ixD t.enc (.int p) Qd := by
  have hl : i < t.kids.length := by
    rw [← places_len]
    exact lt_of_get h
  obtain ⟨p', h1, h2⟩ := place_get t (List.getElem?_eq_getElem hl)
  rw [h] at h1
  cases h1
  exact ⟨_, List.getElem?_eq_getElem hl, h2⟩
def hgts (l : List Tr) : Nat := (l.map Tr.hgt).foldr max 0
theorem hgts_cons (t : Tr) (l : List Tr) : hgts (t :: l) = max t.hgt (hgts l) := rfl
theorem hgts_app (a b : List Tr) : hgts (a ++ b) = max (hgts a) (hgts b) := by
  induction a with
  | nil => simp [hgts]
  | cons t a ih =>
    rw [List.cons_append, hgts_cons, hgts_cons, ih]
    omega
theorem hgt_pos (t : Tr) : 1 ≤ t.hgt := by cases t <;> simp only [Tr.hgt] <;> omega
theorem hgt_kids (t : Tr) : t.hgt = 1 + hgts t.kids := by
  cases t <;> simp only [Tr.hgt, Tr.kids, hgts, List.map_cons, List.map_nil, List.foldr_cons, List.foldr_nil] <;> omega
theorem hgts_flat {l : List Tr} (h : l ≠ []) : hgts l = 1 + hgts (l.flatMap Tr.kids) := by
  induction l with
  | nil => exact absurd rfl h
  | cons t l ih =>
    rw [hgts_cons, List.flatMap_cons, hgts_app, hgt_kids]
    cases l with
    | nil => simp [hgts]
    | cons u l =>
      rw [ih (by simp)]
      omega
theorem szs_flat (l : List Tr) : szs (l.flatMap Tr.kids) + l.length ≤ szs l := by
  induction l with
  | nil => exact Nat.le_refl _
  | cons t l ih =>
    rw [List.flatMap_cons, szs_app, szs_cons, List.length_cons]
    have := kids_szs t
    omega
theorem hgtO_eq (o : Option Tr) : hgts o.toList = hgtO o := by
  cases o with
  | none => rfl
  | some t => simp [hgts, hgtO]
theorem cols_two (t : Tr) : t.leaves.flatMap colsAt = (t.pre.filter fun u : Tr => decide (u.word = ("col" : Str))).map Tr.enc := by
  induction t with
  | un w a ih =>
    have : ((Tr.un w a).word = "col") = False := eq_false (by cases w <;> walk_at "wd")
    simp only [Tr.leaves, Tr.pre, List.filter_cons, this, decide_false, Bool.false_eq_true, if_false, ih]
  | bi w a b iha ihb =>
    have : ((Tr.bi w a b).word = "col") = False := eq_false (by cases w <;> walk_at "wd")
    simp only [Tr.leaves, Tr.pre, List.filter_cons, this, decide_false, Bool.false_eq_true, if_false, List.flatMap_append, List.filter_append, List.map_append, iha, ihb]
  | cmp w a b iha ihb =>
    have : ((Tr.cmp w a b).word = "col") = False := eq_false (by walk_at "wd")
    simp only [Tr.leaves, Tr.pre, List.filter_cons, this, decide_false, Bool.false_eq_true, if_false, List.flatMap_append, List.filter_append, List.map_append, iha, ihb]
  | inq a q ih =>
    have : ((Tr.inq a q).word = "col") = False := eq_false (by walk_at "wd")
    simp only [Tr.leaves, Tr.pre, List.filter_cons, this, decide_false, Bool.false_eq_true, if_false, ih]
  | _ => first | rfl | (simp [Tr.leaves, Tr.pre, colsAt, Tr.word, Tr.enc, List.filter_cons]; done) | (simp [Tr.leaves, Tr.pre, colsAt, Tr.word, Tr.enc, List.filter_cons]; decide)
theorem aggs_two (t : Tr) : t.leaves.filter Tr.isAgg = t.pre.filter fun u : Tr => decide (u.word = ("agg" : Str)) := by
  have e : ∀ l : List Tr, (l.filter fun u : Tr => decide (u.word = ("agg" : Str))) = l.filter Tr.isAgg := fun l => List.filter_congr fun u _ => agg_word u
  induction t with
  | un w a ih =>
    rw [Tr.leaves, Tr.pre, ih, e, e, List.filter_cons]
    rfl
  | bi w a b iha ihb =>
    rw [Tr.leaves, Tr.pre, List.filter_append, iha, ihb, e, e, e, List.filter_cons, List.filter_append]
    rfl
  | cmp w a b iha ihb =>
    rw [Tr.leaves, Tr.pre, List.filter_append, iha, ihb, e, e, e, List.filter_cons, List.filter_append]
    rfl
  | inq a q ih =>
    rw [Tr.leaves, Tr.pre, ih, e, e, List.filter_cons]
    rfl
  | _ => rw [e]; rfl
theorem colsO_two (o : Option Tr) : (leavesO o).flatMap colsAt = ((preO o).filter fun u : Tr => decide (u.word = ("col" : Str))).map Tr.enc := by
  cases o with
  | none => rfl
  | some t => simpa [leavesO, preO] using cols_two t
theorem aggsO_two (o : Option Tr) : ((leavesO o).filter Tr.isAgg).map Tr.enc = ((preO o).filter fun u : Tr => decide (u.word = ("agg" : Str))).map Tr.enc := by
  cases o with
  | none => rfl
  | some t =>
    have := aggs_two t
    simp only [leavesO, preO, Option.toList, List.flatMap_cons, List.flatMap_nil, List.append_nil]
    rw [this]
theorem pre_split (t : Tr) : t.pre = t :: t.lkids.flatMap Tr.pre := by
  cases t <;> simp [Tr.pre, Tr.lkids, Tr.kids]
theorem Sm.mono {n : Nat} {d : D} (h : Sm n d) : ∀ {m : Nat}, n ≤ m → Sm m d := by
  induction h with
  | non => intro m _; exact .non
  | bl b => intro m _; exact .bl b
  | int i => intro m _; exact .int i
  | str s => intro m _; exact .str s
  | @tup n xs h1 h2 ih =>
    intro m hm
    obtain ⟨m', rfl⟩ : ∃ m', m = m' + 1 := ⟨m - 1, by omega⟩
    exact .tup h1 fun x hx => ih x hx (by omega)
theorem depthAll_le {n : Nat} : ∀ {xs : List D}, (∀ x ∈ xs, PyData.depth x ≤ n) → PyData.depthAll xs ≤ n
  | [], _ => by simp [PyData.depthAll]
  | x :: xs, h => by
    simp only [PyData.depthAll]
    have h1 := h x List.mem_cons_self
    have h2 := depthAll_le fun y hy => h y (List.mem_cons_of_mem x hy)
    omega
theorem Sm.depth {n : Nat} {d : D} (h : Sm n d) : d.depth ≤ n := by
  induction h with
  | @tup n xs h1 h2 ih =>
    simp only [PyData.depth]
    have := depthAll_le ih
    omega
  | _ => simp [PyData.depth]
theorem Sm.tup' {n : Nat} {xs : List D} (h1 : xs.length ≤ 100000) (h : ∀ x ∈ xs, Sm n x) {m : Nat} (hm : n + 1 ≤ m) : Sm m (.tuple xs) := (Sm.tup h1 h).mono hm
theorem Sm.of {n : Nat} {xs : List D} (h : Sm n (.tuple xs)) : ∃ m, n = m + 1 ∧ ∀ x ∈ xs, Sm m x := by
  cases h with
  | @tup m _ h1 h2 => exact ⟨m, rfl, h2⟩
theorem atom_sm {d : D} (h : Atom d) (n : Nat) : Sm n d := by
  rcases h with ⟨i, rfl⟩ | ⟨s, rfl⟩
  · exact .int i
  · exact .str s
theorem colE_sm {ds : List D} (h : ColOk ds) : Sm 1 (colE ds) := by
  refine .tup ?_ fun x hx => ?_
  · have := h.1
    rw [List.length_cons]
    omega
  · rcases List.mem_cons.mp hx with rfl | hx
    · exact .str _
    · exact atom_sm (h.2 x hx) 0
theorem agg_sm {t : Tr} (h : t.isAgg = true) (ok : t.Ok) : Sm 2 t.enc := by
  cases t with
  | agg0 => exact .tup (by decide) (by intro x hx; simp at hx; rcases hx with rfl | rfl | rfl <;> constructor)
  | aggi i => exact .tup (by simp) (by intro x hx; simp at hx; rcases hx with rfl | rfl <;> constructor)
  | agg1 f ds =>
    refine .tup (by simp) ?_
    intro x hx
    simp at hx
    rcases hx with rfl | rfl | rfl
    · constructor
    · constructor
    · exact colE_sm ok
  | _ => cases h
theorem atom_nk {d : D} (h : Atom d) : ∃ k, nkOf d = some k ∧ k.depth = 0 := by
  rcases h with ⟨i, rfl⟩ | ⟨s, rfl⟩
  · exact ⟨_, rfl, rfl⟩
  · exact ⟨_, rfl, rfl⟩
theorem atoms_nk {ds : List D} (h : ∀ d ∈ ds, Atom d) : ∃ ks, nksOf ds = some ks ∧ NestedKey.depthAll ks = 0 := by
  induction ds with
  | nil => exact ⟨[], rfl, rfl⟩
  | cons d ds ih =>
    obtain ⟨k, e1, e2⟩ := atom_nk (h d List.mem_cons_self)
    obtain ⟨ks, e3, e4⟩ := ih fun x hx => h x (List.mem_cons_of_mem d hx)
    exact ⟨k :: ks, by simp [nksOf, e1, e3], by simp [NestedKey.depthAll, e2, e4]⟩
theorem colE_key {ds : List D} (h : ColOk ds) : ∃ k, KeyD (colE ds) k ∧ k.depth ≤ 1 := by
  obtain ⟨ks, e1, e2⟩ := atoms_nk (ds := .str "col" :: ds) fun x hx => by
    rcases List.mem_cons.mp hx with rfl | hx
    · exact .inr ⟨_, rfl⟩
    · exact h.2 x hx
  refine ⟨.tup ks, ⟨?_, ?_, _, rfl⟩, ?_⟩
  · show (nksOf _).bind _ = _
    rw [e1]
    rfl
  · show NestedKey.depthAll ks + 1 ≤ 8
    omega
  · show NestedKey.depthAll ks + 1 ≤ 1
    omega
theorem agg_key {t : Tr} (h : t.isAgg = true) (ok : t.Ok) : ∃ k, KeyD t.enc k := by
  cases t with
  | agg0 => exact ⟨_, rfl, by decide, _, rfl⟩
  | aggi i => exact ⟨_, rfl, by show _ ≤ 8; simp [NestedKey.depth, NestedKey.depthAll], _, rfl⟩
  | agg1 f ds =>
    obtain ⟨k, ⟨h1, h2, h3⟩, h4⟩ := colE_key ok
    refine ⟨.tup [.text "agg", .text f, k], ?_, ?_, _, rfl⟩
    · simp [Tr.enc, nkOf, nksOf, h1]
    · simp [NestedKey.depth, NestedKey.depthAll]
      omega
  | _ => cases h
def Tr.isKey (t : Tr) : Bool := match t with
  | .col _ => true
  | t => t.isAgg
theorem key_of {t : Tr} (h : t.isKey = true) (ok : t.Ok) : ∃ k, KeyD t.enc k := by
  cases t with
  | col ds =>
    obtain ⟨k, h, _⟩ := colE_key (ds := ds) ok
    exact ⟨k, h⟩
  | agg0 => exact agg_key h ok
  | aggi i => exact agg_key h ok
  | agg1 f ds => exact agg_key h ok
  | _ => cases h
theorem lk_key {kvs : List (D × D)} {d : D} {k : NestedKey} (h : KeyD d k) : lk kvs d = getN kvs k := by
  unfold lk
  rw [h.1]
  rfl
theorem uniq_len : ∀ (l acc : List D), (l.foldl addU acc).length ≤ acc.length + l.length
  | [], acc => Nat.le_refl _
  | d :: l, acc => by
    have h1 := uniq_len l (addU acc d)
    have h2 : (addU acc d).length ≤ acc.length + 1 := by
      unfold addU
      split
      · omega
      · simp
    rw [List.foldl_cons, List.length_cons]
    omega
theorem mem_uniq : ∀ (l acc : List D) {x : D}, x ∈ l.foldl addU acc → x ∈ acc ∨ x ∈ l
  | [], acc, x, h => .inl h
  | d :: l, acc, x, h => by
    rcases mem_uniq l (addU acc d) h with h | h
    · unfold addU at h
      split at h
      · exact .inl h
      · rcases List.mem_append.mp h with h | h
        · exact .inl h
        · exact .inr (by rw [List.mem_singleton] at h; subst h; exact List.mem_cons_self)
    · exact .inr (List.mem_cons_of_mem d h)
theorem pre_size (t : Tr) : t.pre.length = t.size := by
  induction t <;> simp only [Tr.pre, Tr.size, List.length_append, List.length_cons, List.length_nil, *] <;> omega
theorem preO_len (o : Option Tr) : (preO o).length ≤ sizeO o := by
  cases o with
  | none => exact Nat.zero_le _
  | some t => simpa [preO, sizeO] using Nat.le_of_eq (pre_size t)
theorem pre_ok {t : Tr} (h : t.Ok) : ∀ u ∈ t.pre, u.Ok := by
  induction t with
  | agg1 f ds =>
    intro u hu
    simp [Tr.pre] at hu
    rcases hu with rfl | rfl
    · exact h
    · exact h
  | un w a ih =>
    intro u hu
    rcases List.mem_cons.mp hu with rfl | hu
    · exact h
    · exact ih h u hu
  | inq a q ih =>
    intro u hu
    rcases List.mem_cons.mp hu with rfl | hu
    · exact h
    · exact ih h u hu
  | bi w a b iha ihb =>
    intro u hu
    rcases List.mem_cons.mp hu with rfl | hu
    · exact h
    · rcases List.mem_append.mp hu with hu | hu
      · exact iha h.1 u hu
      · exact ihb h.2 u hu
  | cmp w a b iha ihb =>
    intro u hu
    rcases List.mem_cons.mp hu with rfl | hu
    · exact h
    · rcases List.mem_append.mp hu with hu | hu
      · exact iha h.1 u hu
      · exact ihb h.2 u hu
  | _ =>
    intro u hu
    simp [Tr.pre] at hu
    subst hu
    exact h
theorem leaves_ok {t : Tr} (h : t.Ok) : ∀ u ∈ t.leaves, u.Ok := by
  induction t with
  | un w a ih => exact ih h
  | inq a q ih => exact ih h
  | bi w a b iha ihb =>
    intro u hu
    rcases List.mem_append.mp hu with hu | hu
    · exact iha h.1 u hu
    · exact ihb h.2 u hu
  | cmp w a b iha ihb =>
    intro u hu
    rcases List.mem_append.mp hu with hu | hu
    · exact iha h.1 u hu
    · exact ihb h.2 u hu
  | _ =>
    intro u hu
    simp [Tr.leaves] at hu
    subst hu
    exact h
theorem key_word {t : Tr} (h : t.word = "col" ∨ t.word = "agg") : t.isKey = true := by
  cases t with
  | un w a => cases w <;> exact absurd h (by walk_at "wd")
  | bi w a b => cases w <;> exact absurd h (by walk_at "wd")
  | col _ => rfl
  | agg0 => rfl
  | aggi _ => rfl
  | agg1 _ _ => rfl
  | _ => exact absurd h (by walk_at "wd")
theorem key_sm {t : Tr} (h : t.isKey = true) (ok : t.Ok) : Sm 2 t.enc := by
  cases t with
  | col ds => exact (colE_sm (ds := ds) ok).mono (by decide)
  | agg0 => exact agg_sm h ok
  | aggi i => exact agg_sm h ok
  | agg1 f ds => exact agg_sm h ok
  | _ => cases h
theorem rp_part_places (as : List SD) (Q : RS → List SD → Prop) (h : sp_part_places as Q) : rd_part_places { nx := fun δ => Q (.dt .none) (outs as δ), rt := fun d δ => Q d (outs as δ) } (startD 1 as) := by
  obtain ⟨t, rfl, q⟩ := h
  show rd_part_places _ [.dt t.enc]
  unfold rd_part_places
  walk_at "y"
  refine word_ix ?_
  walk_at "y"
  rw [places_look]
  walk_at "o"
  exact q
theorem rp_agg_column (as : List SD) (Q : RS → List SD → Prop) (h : sp_agg_column as Q) : rd_agg_column { nx := fun δ => Q (.dt .none) (outs as δ), rt := fun d δ => Q d (outs as δ) } (startD 1 as) := by
  obtain ⟨t, rfl, ha, q⟩ := h
  show rd_agg_column _ [.dt t.enc]
  unfold rd_agg_column
  cases t with
  | agg0 =>
    unfold Tr.enc
    walk_at "y"
    walk_at "o"
    exact q
  | aggi i =>
    unfold Tr.enc
    walk_at "y"
    walk_at "o"
    exact q
  | agg1 f ds =>
    unfold Tr.enc
    walk_at "y"
    walk_at "o"
    exact q
  | _ => cases ha
theorem rp_members (as : List SD) (Q : RS → List SD → Prop) (h : sp_members as Q) : rd_members { nx := fun δ => Q (.dt .none) (outs as δ), rt := fun d δ => Q d (outs as δ) } (startD 4 as) := by
  obtain ⟨o, rfl, hs, q⟩ := h
  show rd_members _ [.dt (encO o), .un, .un, .un]
  unfold rd_members
  walk_at "1"
  walk_at "1"
  walk_at "1"
  walk_at "1"
  walk_at "1"
  walk_at "1"
  rename_i p1
  walk_at "1"
  walk_at "1"
  refine first_wait rfl ?_
  walk_at "1"
  rename_i p2
  refine st_seq ?_
  refine while_inv (fun n δ => ∃ (stk found : List Tr) (s : SD), δ = [.dt (encO o), .ow p1 (.lst (found.map Tr.enc)), .ow p2 (.lst (stk.map Tr.enc)), s] ∧ szs stk = n ∧ found ++ stk.reverse.flatMap Tr.ands = andsO o ∧ szs found + szs stk ≤ 20000) (szs o.toList) ⟨o.toList, [], .un, rfl, rfl, ?_, ?_⟩ fun n δ' ⟨stk, found, s, e, hn, hf, hb⟩ => ?_
  · cases o <;> simp [andsO]
  · have := szs_O o
    rw [szs_nil]
    omega
  · subst e
    rcases snoc_ex stk with rfl | ⟨l, t, rfl⟩
    · walk_at "y"
      walk_at "o"
      have : found = andsO o := by simpa using hf
      rw [this]
      exact q
    · have hb1 := szs_len found
      have hb2 := szs_len (l ++ [t])
      rw [enc_snoc]
      refine st_truO rfl ?_
      rw [if_pos (by cases l <;> rfl)]
      walk_at "1"
      walk_at "1"
      refine st_pop rfl ?_
      walk_at "y"
      refine word_ix ?_
      walk_at "y"
      refine ite_dec (fun hw => ?_) (fun hw => ?_)
      · obtain ⟨a, b, rfl⟩ := and_word hw
        unfold Tr.enc
        rw [List.length_append, List.length_singleton] at hb2
        walk_at "y"
        refine ex_app1 rfl (by rw [List.length_map]; omega) ?_
        walk_at "y"
        refine ex_app1 rfl (by rw [List.length_append, List.length_map, List.length_singleton]; omega) ?_
        walk_at "y"
        rw [szs_app, szs_one] at hn hb
        refine ⟨szs (l ++ [b, a]), ?_, l ++ [b, a], found, _, by rw [show (l ++ [b, a]).map Tr.enc = l.map Tr.enc ++ [b.enc] ++ [a.enc] from by simp], rfl, ?_, ?_⟩
        · rw [szs_app, szs_cons, szs_one, ← hn]
          simp only [Tr.size]
          omega
        · rw [← hf]
          simp [Tr.ands]
        · rw [szs_app, szs_cons, szs_one]
          simp only [Tr.size] at hb
          omega
      · rw [szs_app, szs_one] at hn hb
        walk_at "y"
        refine ex_app1 rfl (by rw [List.length_map]; omega) ?_
        walk_at "y"
        have hp := size_pos t
        refine ⟨szs l, by omega, l, found ++ [t], _, by rw [enc_snoc], rfl, ?_, ?_⟩
        · rw [← hf]
          simp [ands_not hw]
        · rw [szs_app, szs_one]
          omega
theorem rp_joined (as : List SD) (Q : RS → List SD → Prop) (h : sp_joined as Q) : rd_joined { nx := fun δ => Q (.dt .none) (outs as δ), rt := fun d δ => Q d (outs as δ) } (startD 3 as) := by
  obtain ⟨ts, rfl, q⟩ := h
  show rd_joined _ [.dt (.tuple (ts.map Tr.enc)), .un, .un]
  unfold rd_joined
  walk_at "y"
  refine for_inv (fun i δ => ∃ s, δ = [.dt (.tuple (ts.map Tr.enc)), .dt (encO (joinT (ts.take i))), s]) ⟨_, rfl⟩ (fun i x δ' N hx ⟨s, e⟩ hN => ?_) fun δ' ⟨s, e⟩ => ?_
  · subst e
    rw [List.getElem?_map] at hx
    obtain ⟨t, ht, rfl⟩ := Option.map_eq_some_iff.mp hx
    have e1 : ts.take (i + 1) = ts.take i ++ [t] := by
      rw [List.take_add_one, ht]
      rfl
    have e2 : joinT (ts.take (i + 1)) = match joinT (ts.take i) with | none => some t | some a => some (.bi .and a t) := by
      rw [e1]
      unfold joinT
      rw [List.foldl_append]
      rfl
    cases hj : joinT (ts.take i) with
    | none =>
      rw [hj] at e2
      walk_at "y"
      exact hN _ ⟨_, by rw [e2]; rfl⟩
    | some a =>
      rw [hj] at e2
      walk_at "y"
      refine ite_kF (enc_none a) ?_
      walk_at "y"
      exact hN _ ⟨_, by rw [e2]; rfl⟩
  · subst e
    walk_at "y"
    walk_at "o"
    rw [show ts.take (ts.map Tr.enc).length = ts from by rw [List.length_map, List.take_length]]
    exact q
theorem rp_tree_leaves (as : List SD) (Q : RS → List SD → Prop) (h : sp_tree_leaves as Q) : rd_tree_leaves { nx := fun δ => Q (.dt .none) (outs as δ), rt := fun d δ => Q d (outs as δ) } (startD 6 as) := by
  obtain ⟨o, rfl, hs, q⟩ := h
  show rd_tree_leaves _ [.dt (encO o), .un, .un, .un, .un, .un]
  unfold rd_tree_leaves
  walk_at "1"
  walk_at "1"
  walk_at "1"
  walk_at "1"
  walk_at "1"
  walk_at "1"
  rename_i p1
  walk_at "1"
  walk_at "1"
  refine first_wait rfl ?_
  walk_at "1"
  rename_i p2
  refine st_seq ?_
  refine while_inv (fun n δ => ∃ (stk found : List Tr) (s s4 s5 : SD), δ = [.dt (encO o), .ow p1 (.lst (found.map Tr.enc)), .ow p2 (.lst (stk.map Tr.enc)), s, s4, s5] ∧ szs stk = n ∧ found ++ stk.reverse.flatMap Tr.leaves = leavesO o ∧ found.length + szs stk ≤ 20000) (szs o.toList) ⟨o.toList, [], .un, .un, .un, rfl, rfl, ?_, ?_⟩ fun n δ' ⟨stk, found, s, s4, s5, e, hn, hf, hb⟩ => ?_
  · cases o <;> simp [leavesO]
  · have := szs_O o
    show 0 + _ ≤ _
    omega
  · subst e
    rcases snoc_ex stk with rfl | ⟨l, t, rfl⟩
    · walk_at "y"
      walk_at "o"
      have : found = leavesO o := by simpa using hf
      rw [this]
      exact q
    · have hb2 := szs_len l
      rw [enc_snoc]
      rw [szs_app, szs_one] at hn hb
      refine st_truO rfl ?_
      rw [if_pos (by cases l <;> rfl)]
      walk_at "1"
      walk_at "1"
      refine st_pop rfl ?_
      walk_at "y"
      refine call_ok (by simp [bors]) (by simp [bors]) fun Q2 hQ => ⟨t, rfl, hQ _ _ rfl ?_⟩
      walk_at "s"
      walk_at "y"
      have hp := size_pos t
      refine eq_ok (by simp [PyData.depth, PyData.depthAll]) ?_
      walk_at "y"
      refine ite_b (fun he => ?_) (fun he => ?_)
      · have hpl : t.places = [] := by
          cases hh : t.places with
          | nil => rfl
          | cons a l =>
            rw [hh] at he
            simp [PyData.eqv, PyData.eqvAll] at he
        obtain ⟨hk, hlv⟩ := leaf_places hpl
        walk_at "y"
        refine ex_app1 rfl (by rw [List.length_map]; omega) ?_
        walk_at "y"
        rw [hpl]
        refine for_inv (fun i δ => δ = [.dt (encO o), .ow p1 (.lst (List.map Tr.enc found ++ [t.enc])), .ow p2 (.lst (l.map Tr.enc)), .dt t.enc, .dt (.tuple (List.map .int [])), s5]) rfl (fun i x δ' N hx e hN => by simp at hx) fun δ' e => ?_
        subst e
        refine ⟨szs l, by omega, l, found ++ [t], _, _, _, by rw [enc_snoc], rfl, ?_, ?_⟩
        · rw [← hf]
          simp [hlv]
        · rw [List.length_append, List.length_singleton]
          omega
      · have hpl : t.places ≠ [] := fun z => by
          rw [z] at he
          simp [PyData.eqv, PyData.eqvAll] at he
        walk_at "y"
        have hk := kids_szs t
        have hkl := szs_len t.kids
        refine for_inv (fun i δ => ∃ s5, δ = [.dt (encO o), .ow p1 (.lst (found.map Tr.enc)), .ow p2 (.lst ((l ++ t.kids.reverse.take i).map Tr.enc)), .dt t.enc, .dt (.tuple (t.places.map .int)), s5]) ⟨s5, by simp⟩ (fun i x δ' N hx ⟨s5, e⟩ hN => ?_) fun δ' ⟨s5, e⟩ => ?_
        · subst e
          rw [← List.map_reverse, List.getElem?_map] at hx
          obtain ⟨p, hp1, rfl⟩ := Option.map_eq_some_iff.mp hx
          have hi : i < t.places.length := by
            have := lt_of_get hp1
            rwa [List.length_reverse] at this
          rw [List.getElem?_reverse hi] at hp1
          obtain ⟨k, hk1, hk2⟩ := place_of t hp1
          have hkr : t.kids.reverse[i]? = some k := by
            rw [List.getElem?_reverse (by rw [← places_len]; exact hi), ← places_len]
            exact hk1
          have hkt : t.kids.reverse.take (i + 1) = t.kids.reverse.take i ++ [k] := by
            rw [List.take_add_one, hkr]
            rfl
          have hlt : (t.kids.reverse.take i).length ≤ t.kids.length := by
            rw [List.length_take, List.length_reverse]
            omega
          walk_at "y"
          refine hk2 _ ?_
          walk_at "y"
          refine ex_app1 rfl (by rw [List.length_map, List.length_append]; omega) ?_
          walk_at "y"
          refine hN _ ⟨_, by rw [hkt, ← List.append_assoc, enc_snoc]⟩
        · subst e
          have e1 : t.kids.reverse.take ((List.map PyData.int t.places).reverse).length = t.kids.reverse := by
            refine List.take_of_length_le ?_
            simp [places_len]
          rw [e1]
          refine ⟨szs (l ++ t.kids.reverse), ?_, l ++ t.kids.reverse, found, _, _, _, rfl, rfl, ?_, ?_⟩
          · have : szs t.kids.reverse = szs t.kids := by simp [szs]
            rw [szs_app, this]
            omega
          · rw [← hf, List.reverse_append, List.reverse_reverse, List.flatMap_append, ← node_leaves hpl]
            simp
          · have : szs t.kids.reverse = szs t.kids := by simp [szs]
            rw [szs_app, this]
            omega
local macro_rules | `(tactic| walk_at "wd") => `(tactic| (simp only [Tr.word, Un.w, Bi.w]; decide))
theorem in_kids {t : Tr} {δ : Dl} (h3 : ∃ a b c, δ = [a, b, c, .dt t.enc, .un]) {Q : List D → Dl → Prop} : ∀ (n i : Nat) (acc : List D), n + i = t.places.length → acc.length + t.kids.length ≤ 100000 + i →
    Q (acc ++ (t.kids.drop i).map Tr.enc) δ → dLcGo (dgName 4) dYes (dOp ixD (dVar 3) (dVar 4)) [4] Q ((t.places.drop i).map .int) acc δ := by
  intro n
  induction n with
  | zero =>
    intro i acc hn hl q
    have e1 : t.places.drop i = [] := List.drop_eq_nil_of_le (by omega)
    have e2 : t.kids.drop i = [] := List.drop_eq_nil_of_le (by rw [← places_len]; omega)
    rw [e1]
    rw [e2, List.map_nil, List.append_nil] at q
    exact q
  | succ n ih =>
    intro i acc hn hl q
    have hi : i < t.places.length := by omega
    have hi2 : i < t.kids.length := by rw [← places_len]; exact hi
    rw [List.drop_eq_getElem_cons hi]
    obtain ⟨k, hk1, hk2⟩ := place_of t (List.getElem?_eq_getElem hi)
    have ek : t.kids[i] = k := by
      rw [List.getElem?_eq_getElem hi2] at hk1
      exact Option.some.inj hk1
    rw [List.drop_eq_getElem_cons hi2, ek, List.map_cons] at q
    obtain ⟨a, b, c, rfl⟩ := h3
    show dgName 4 _ _ _
    refine st_name ?_
    refine st_yes ?_
    rw [if_pos rfl]
    walk_at "s"
    walk_at "y"
    refine hk2 _ ?_
    refine ⟨by omega, ?_⟩
    refine ih (i + 1) (acc ++ [k.enc]) (by omega) (by rw [List.length_append, List.length_singleton]; omega) ?_
    rw [List.append_assoc]
    exact q
theorem lc_kids {Q : List D → Dl → Prop} {a b c : SD} : ∀ (lv : List Tr) (acc : List D), acc.length + szs lv ≤ 100000 → Q (acc ++ (lv.flatMap Tr.kids).map Tr.enc) [a, b, c, .un, .un] →
    dLc2Go (dgName 3) dYes (iSeqD (dCallF sp_part_places (cCons (dVar 3) cNil))) (dgName 4) dYes (dOp ixD (dVar 3) (dVar 4)) [3, 4] [4] Q (lv.map Tr.enc) acc [a, b, c, .un, .un] := by
  intro lv
  induction lv with
  | nil =>
    intro acc hl q
    rw [List.flatMap_nil, List.map_nil, List.append_nil] at q
    exact q
  | cons t lv ih =>
    intro acc hl q
    have hk := kids_szs t
    have hk2 := szs_len t.kids
    rw [szs_cons] at hl
    show dgName 3 _ _ _
    refine st_name ?_
    refine st_yes ?_
    rw [if_pos rfl]
    walk_at "s"
    walk_at "y"
    refine call_ok (by simp [bors]) (by simp [bors]) fun Q2 hQ => ⟨t, rfl, hQ _ _ rfl ?_⟩
    walk_at "s"
    walk_at "y"
    refine ⟨fun v hv => ?_, ?_⟩
    · simp at hv
      subst hv
      exact ⟨_, rfl, rfl⟩
    · have := in_kids (t := t) (δ := [a, b, c, .dt t.enc, .un]) (Q := fun acc' δ4 => dLc2Go (dgName 3) dYes (iSeqD (dCallF sp_part_places (cCons (dVar 3) cNil))) (dgName 4) dYes (dOp ixD (dVar 3) (dVar 4)) [3, 4] [4] Q (lv.map Tr.enc) acc' (mixD δ4 [a, b, c, .un, .un] [3, 4])) ⟨_, _, _, rfl⟩ t.places.length 0 acc (by omega) (by omega) ?_
      · exact this
      · walk_at "s"
        refine ih _ ?_ ?_
        · rw [List.length_append, List.length_map, List.drop_zero]
          omega
        · rw [List.flatMap_cons, List.map_append] at q
          rw [List.drop_zero, List.append_assoc]
          exact q
theorem rp_height (as : List SD) (Q : RS → List SD → Prop) (h : sp_height as Q) : rd_height { nx := fun δ => Q (.dt .none) (outs as δ), rt := fun d δ => Q d (outs as δ) } (startD 5 as) := by
  obtain ⟨o, rfl, hs, q⟩ := h
  show rd_height _ [.dt (encO o), .un, .un, .un, .un]
  unfold rd_height
  walk_at "1"
  walk_at "1"
  walk_at "1"
  walk_at "1"
  walk_at "1"
  walk_at "1"
  refine first_wait rfl ?_
  walk_at "1"
  rename_i p2
  refine st_seq ?_
  refine while_inv (fun n δ => ∃ (lv : List Tr) (m : Nat) (p : Addr), δ = [.dt (encO o), .dt (.int (m : Int)), .ow p (.lst (lv.map Tr.enc)), .un, .un] ∧ szs lv = n ∧ m + hgts lv = hgtO o ∧ szs lv ≤ 20000) (szs o.toList) ⟨o.toList, 0, p2, rfl, rfl, ?_, ?_⟩ fun n δ' ⟨lv, m, p, e, hn, hf, hb⟩ => ?_
  · rw [hgtO_eq]
    omega
  · have := szs_O o
    omega
  · subst e
    refine st_truO rfl ?_
    cases lv with
    | nil =>
      walk_at "y"
      walk_at "o"
      have : m = hgtO o := by simpa [hgts] using hf
      rw [this]
      exact q
    | cons t lv =>
      rw [if_pos (by rfl)]
      walk_at "y"
      refine ⟨fun v hv => ?_, ?_⟩
      · simp at hv
        rcases hv with rfl | rfl <;> exact ⟨_, rfl, rfl⟩
      · have hfl := szs_flat (t :: lv)
        have hhf := hgts_flat (l := t :: lv) (by simp)
        rw [List.length_cons] at hfl
        refine lc_kids (t :: lv) [] (by show 0 + _ ≤ _; omega) ?_
        rw [List.nil_append]
        walk_at "y"
        rename_i p3
        refine ⟨szs ((t :: lv).flatMap Tr.kids), by omega, (t :: lv).flatMap Tr.kids, m + 1, p3, by rw [Int.natCast_add]; rfl, rfl, by omega, by omega⟩
theorem col_word {t : Tr} (h : t.word = "col") : ∃ ds, t = .col ds := by
  cases t with
  | col ds => exact ⟨ds, rfl⟩
  | un w a => cases w <;> exact absurd h (by walk_at "wd")
  | bi w a b => cases w <;> exact absurd h (by walk_at "wd")
  | _ => exact absurd h (by walk_at "wd")
theorem colsAt_not {t : Tr} (h : ¬ t.word = "col") (h2 : t.isAgg = false) : colsAt t = [] := by
  cases t with
  | col ds => exact absurd rfl h
  | agg1 f ds => cases h2
  | _ => rfl
theorem uniq_take {f : Tr → List D} {ls : List Tr} {i : Nat} {t : Tr} (h : ls[i]? = some t) : uniq ((ls.take (i + 1)).flatMap f) = (f t).foldl addU (uniq ((ls.take i).flatMap f)) := by
  rw [List.take_add_one, h]
  unfold uniq
  rw [Option.toList_some, List.flatMap_append, List.foldl_append]
  simp
theorem rp_columns_in (as : List SD) (Q : RS → List SD → Prop) (h : sp_columns_in as Q) : rd_columns_in { nx := fun δ => Q (.dt .none) (outs as δ), rt := fun d δ => Q d (outs as δ) } (startD 4 as) := by
  obtain ⟨o, rfl, hs, hok, q⟩ := h
  show rd_columns_in _ [.dt (encO o), .un, .un, .un]
  unfold rd_columns_in
  walk_at "y"
  rename_i p1
  refine call_ok (by simp [bors]) (by simp [bors]) fun Q2 hQ => ⟨o, rfl, hs, hQ _ _ rfl ?_⟩
  walk_at "s"
  walk_at "y"
  have hlen := leavesO_len o
  have okl : ∀ t ∈ leavesO o, t.Ok := fun t ht => by
    cases o with
    | none => simp [leavesO] at ht
    | some u => exact leaves_ok (hok u rfl) t (by simpa [leavesO] using ht)
  refine for_inv (fun i δ => ∃ s2 s3, δ = [.dt (encO o), .ow p1 (.lst (uniq (((leavesO o).take i).flatMap colsAt))), s2, s3]) ⟨_, _, rfl⟩ (fun i x δ' N hx ⟨s2, s3, e⟩ hN => ?_) fun δ' ⟨s2, s3, e⟩ => ?_
  · subst e
    rw [List.getElem?_map] at hx
    obtain ⟨t, ht, rfl⟩ := Option.map_eq_some_iff.mp hx
    have tok := okl t (List.mem_of_getElem? ht)
    have hu := uniq_take (f := colsAt) ht
    have hil : i < (leavesO o).length := lt_of_get ht
    have hul : (uniq (((leavesO o).take i).flatMap colsAt)).length ≤ i := by
      have h1 := uniq_len (((leavesO o).take i).flatMap colsAt) []
      have h2 : ∀ l : List Tr, (l.flatMap colsAt).length ≤ l.length := by
        intro l
        induction l with
        | nil => exact Nat.le_refl _
        | cons u l ih =>
          rw [List.flatMap_cons, List.length_append, List.length_cons]
          have : (colsAt u).length ≤ 1 := by cases u <;> simp [colsAt]
          omega
      have h3 := h2 ((leavesO o).take i)
      rw [List.length_take] at h3
      unfold uniq
      rw [List.length_nil] at h1
      omega
    have add : ∀ (ds : List D) (s2 s3 : SD), ColOk ds → colsAt t = [colE ds] → s3 = .dt (colE ds) → dAnd (dTest (dNotN (dVar 3))) (dAnd (dTest (dOp eqD (dOp ixD (dVar 3) (dC (.int 0))) (dC (.str "col")))) (dTest (dInO true 1 (dVar 3)))) [.dt (encO o), .ow p1 (.lst (uniq (((leavesO o).take i).flatMap colsAt))), s2, s3]
        (fun b δ1 => if b = true then sApp 1 (dVar 3) { nx := N, rt := fun d δ => Q d (outs [.dt (encO o)] δ), bk := fun δ => (sRet (dCall tupleD (dCons (dFrz 1) dNil))) { nx := fun δ => Q (.dt .none) (outs [.dt (encO o)] δ), rt := fun d δ => Q d (outs [.dt (encO o)] δ) } δ, ct := N } δ1 else sNext { nx := N, rt := fun d δ => Q d (outs [.dt (encO o)] δ), bk := fun δ => (sRet (dCall tupleD (dCons (dFrz 1) dNil))) { nx := fun δ => Q (.dt .none) (outs [.dt (encO o)] δ), rt := fun d δ => Q d (outs [.dt (encO o)] δ) } δ, ct := N } δ1) := by
      intro ds s2 s3 dok hc e3
      subst e3
      have hsm := colE_sm dok
      rw [hc] at hu
      walk_at "y"
      refine ix0 ?_
      walk_at "y"
      refine ex_inO rfl (Nat.le_trans hsm.depth (by decide)) ?_
      refine ⟨_, rfl, ?_⟩
      refine ite_b (fun hb => ?_) (fun hb => ?_)
      · walk_at "y"
        refine ex_app1 rfl (by omega) ?_
        walk_at "y"
        have : (addU (uniq (((leavesO o).take i).flatMap colsAt)) (colE ds)) = uniq (((leavesO o).take i).flatMap colsAt) ++ [colE ds] := by
          unfold addU
          rw [if_neg (by simpa using hb)]
        rw [List.foldl_cons, List.foldl_nil, this] at hu
        exact hN _ ⟨_, _, by rw [hu]⟩
      · walk_at "y"
        have : (addU (uniq (((leavesO o).take i).flatMap colsAt)) (colE ds)) = uniq (((leavesO o).take i).flatMap colsAt) := by
          unfold addU
          rw [if_pos (by simpa using hb)]
        rw [List.foldl_cons, List.foldl_nil, this] at hu
        exact hN _ ⟨_, _, by rw [hu]⟩
    have skip : ∀ (s2 s3 : SD), colsAt t = [] → N [.dt (encO o), .ow p1 (.lst (uniq (((leavesO o).take i).flatMap colsAt))), s2, s3] := fun s2 s3 hc => by
      rw [hc, List.foldl_nil] at hu
      exact hN _ ⟨_, _, by rw [hu]⟩
    walk_at "1"
    walk_at "u"
    refine st_if ?_
    walk_at "y"
    refine word_ix ?_
    walk_at "y"
    refine ite_dec (fun hw => ?_) (fun hw => ?_)
    · have ha : t.isAgg = true := by rw [← agg_word]; exact decide_eq_true hw
      walk_at "u"
      refine call_ok (by simp [bors]) (by simp [bors]) fun Q2 hQ2 => ⟨t, rfl, ha, hQ2 _ _ rfl ?_⟩
      walk_at "s"
      walk_at "u"
      refine st_if ?_
      cases t with
      | agg1 f ds => exact add ds _ _ tok rfl rfl
      | agg0 =>
        unfold Tr.aggCol
        walk_at "y"
        exact skip _ _ rfl
      | aggi n =>
        unfold Tr.aggCol
        walk_at "y"
        exact skip _ _ rfl
      | _ => cases ha
    · have ha : t.isAgg = false := by rw [← agg_word]; exact decide_eq_false hw
      walk_at "u"
      refine st_if ?_
      by_cases hc : t.word = "col"
      · obtain ⟨ds, rfl⟩ := col_word hc
        exact add ds _ _ tok rfl rfl
      · walk_at "y"
        refine ite_kT (by rw [enc_none]; rfl) ?_
        walk_at "y"
        refine word_ix ?_
        walk_at "y"
        rw [decide_eq_false hc]
        walk_at "y"
        exact skip _ _ (colsAt_not hc ha)
  · subst e
    walk_at "y"
    walk_at "o"
    rw [show (leavesO o).take ((leavesO o).map Tr.enc).length = leavesO o from by rw [List.length_map, List.take_length]]
    exact q
theorem rp_aggs_in (as : List SD) (Q : RS → List SD → Prop) (h : sp_aggs_in as Q) : rd_aggs_in { nx := fun δ => Q (.dt .none) (outs as δ), rt := fun d δ => Q d (outs as δ) } (startD 3 as) := by
  obtain ⟨o, rfl, hs, hok, q⟩ := h
  show rd_aggs_in _ [.dt (encO o), .un, .un]
  unfold rd_aggs_in
  walk_at "y"
  rename_i p1
  refine call_ok (by simp [bors]) (by simp [bors]) fun Q2 hQ => ⟨o, rfl, hs, hQ _ _ rfl ?_⟩
  walk_at "s"
  walk_at "y"
  have hlen := leavesO_len o
  have okl : ∀ t ∈ leavesO o, t.Ok := fun t ht => by
    cases o with
    | none => simp [leavesO] at ht
    | some u => exact leaves_ok (hok u rfl) t (by simpa [leavesO] using ht)
  let f : Tr → List D := fun t => if t.isAgg = true then [t.enc] else []
  have hf : ∀ ls : List Tr, (ls.filter Tr.isAgg).map Tr.enc = ls.flatMap f := by
    intro ls
    induction ls with
    | nil => rfl
    | cons u ls ih =>
      rw [List.flatMap_cons, ← ih, List.filter_cons]
      by_cases hu : u.isAgg = true
      · rw [if_pos hu]
        simp [f, hu]
      · rw [if_neg hu]
        simp [f, hu]
  rw [hf] at q
  refine for_inv (fun i δ => ∃ s2, δ = [.dt (encO o), .ow p1 (.lst (uniq (((leavesO o).take i).flatMap f))), s2]) ⟨_, rfl⟩ (fun i x δ' N hx ⟨s2, e⟩ hN => ?_) fun δ' ⟨s2, e⟩ => ?_
  · subst e
    rw [List.getElem?_map] at hx
    obtain ⟨t, ht, rfl⟩ := Option.map_eq_some_iff.mp hx
    have tok := okl t (List.mem_of_getElem? ht)
    have hu := uniq_take (f := f) ht
    have hil : i < (leavesO o).length := lt_of_get ht
    have hul : (uniq (((leavesO o).take i).flatMap f)).length ≤ i := by
      have h1 := uniq_len (((leavesO o).take i).flatMap f) []
      rw [← hf] at h1
      have h2 := List.length_filter_le Tr.isAgg ((leavesO o).take i)
      rw [List.length_take] at h2
      rw [List.length_map, List.length_nil] at h1
      rw [← hf]
      unfold uniq
      omega
    walk_at "y"
    refine word_ix ?_
    walk_at "y"
    refine ite_dec (fun hw => ?_) (fun hw => ?_)
    · have ha : t.isAgg = true := by rw [← agg_word]; exact decide_eq_true hw
      have e1 : f t = [t.enc] := if_pos ha
      rw [e1] at hu
      walk_at "y"
      refine ex_inO rfl (Nat.le_trans (agg_sm ha tok).depth (by decide)) ?_
      refine ⟨_, rfl, ?_⟩
      refine ite_b (fun hb => ?_) (fun hb => ?_)
      · walk_at "y"
        refine ex_app1 rfl (by omega) ?_
        walk_at "y"
        have : (addU (uniq (((leavesO o).take i).flatMap f)) t.enc) = uniq (((leavesO o).take i).flatMap f) ++ [t.enc] := by
          unfold addU
          rw [if_neg (by simpa using hb)]
        rw [List.foldl_cons, List.foldl_nil, this] at hu
        exact hN _ ⟨_, by rw [hu]⟩
      · walk_at "y"
        have : (addU (uniq (((leavesO o).take i).flatMap f)) t.enc) = uniq (((leavesO o).take i).flatMap f) := by
          unfold addU
          rw [if_pos (by simpa using hb)]
        rw [List.foldl_cons, List.foldl_nil, this] at hu
        exact hN _ ⟨_, by rw [hu]⟩
    · have ha : t.isAgg = false := by rw [← agg_word]; exact decide_eq_false hw
      have e1 : f t = [] := if_neg (by rw [ha]; exact Bool.false_ne_true)
      rw [e1, List.foldl_nil] at hu
      walk_at "y"
      exact hN _ ⟨_, by rw [hu]⟩
  · subst e
    walk_at "y"
    walk_at "o"
    rw [show (leavesO o).take ((leavesO o).map Tr.enc).length = leavesO o from by rw [List.length_map, List.take_length]]
    exact q
local macro_rules | `(tactic| walk_at "wd") => `(tactic| (simp only [Tr.word, Un.w, Bi.w]; decide))
def Tr.rest : Tr → List D
  | .col ds => ds
  | .num i => [.int i]
  | .text s => [.str s]
  | .agg0 => [.str "count", .none]
  | .aggi i => [.int i]
  | .agg1 f ds => [.str f, colE ds]
  | .un _ a => [a.enc]
  | .bi _ a b => [a.enc, b.enc]
  | .cmp op a b => [.str op, a.enc, b.enc]
  | .inq a q => [a.enc, q]
  | .ex s w => [s, w]
theorem enc_eq (t : Tr) : t.enc = .tuple (.str t.word :: t.rest) := by cases t <;> rfl
theorem enc_ty (t : Tr) : isT "tuple" t.enc = true := by rw [enc_eq]; rfl
theorem rest_parts {t : Tr} (h1 : ¬ t.word = "exists") (h2 : ¬ t.word = "col") (h3 : ¬ t.word = "in") : t.rest.filter (isT "tuple") = t.lkids.map Tr.enc := by
  cases t with
  | col ds => exact absurd rfl h2
  | ex s w => exact absurd rfl h1
  | inq a q => exact absurd rfl h3
  | un w a => simp [Tr.rest, Tr.lkids, Tr.kids, enc_ty]
  | bi w a b => simp [Tr.rest, Tr.lkids, Tr.kids, enc_ty]
  | cmp op a b =>
    have : isT "tuple" (.str op) = false := rfl
    simp [Tr.rest, Tr.lkids, Tr.kids, enc_ty, this]
  | agg1 f ds => rfl
  | _ => rfl
theorem rest_len (t : Tr) (ok : t.Ok) : t.rest.length ≤ 3 := by
  cases t with
  | col ds => exact Nat.le_trans ok.1 (by decide)
  | _ => simp [Tr.rest]
theorem rp_law_parts (as : List SD) (Q : RS → List SD → Prop) (h : sp_law_parts as Q) : rd_law_parts { nx := fun δ => Q (.dt .none) (outs as δ), rt := fun d δ => Q d (outs as δ) } (startD 2 as) := by
  obtain ⟨o, rfl, hok, q⟩ := h
  show rd_law_parts _ [.dt (encO o), .un]
  unfold rd_law_parts
  cases o with
  | none =>
    unfold encO
    walk_at "y"
    walk_at "o"
    exact q
  | some t =>
    have q : Q (.new (t.lkids.map Tr.enc)) [.un] := by simpa using q
    unfold encO
    walk_at "y"
    refine ite_kF (enc_none t) ?_
    walk_at "y"
    refine word_ix ?_
    walk_at "y"
    refine ite_dec (fun h1 => ?_) (fun h1 => ?_)
    · walk_at "y"
      walk_at "o"
      have : t.lkids = [] := by
        cases t with
        | ex s w => rfl
        | un w a => cases w <;> exact absurd h1 (by walk_at "wd")
        | bi w a b => cases w <;> exact absurd h1 (by walk_at "wd")
        | _ => exact absurd h1 (by walk_at "wd")
      rw [this] at q
      exact q
    · walk_at "y"
      refine word_ix ?_
      walk_at "y"
      refine ite_dec (fun h2 => ?_) (fun h2 => ?_)
      · walk_at "y"
        walk_at "o"
        obtain ⟨ds, rfl⟩ := col_word h2
        exact q
      · walk_at "y"
        refine word_ix ?_
        walk_at "y"
        refine ite_dec (fun h3 => ?_) (fun h3 => ?_)
        · have : ∃ a d, t = .inq a d := by
            cases t with
            | inq a d => exact ⟨a, d, rfl⟩
            | un w a => cases w <;> exact absurd h3 (by walk_at "wd")
            | bi w a b => cases w <;> exact absurd h3 (by walk_at "wd")
            | _ => exact absurd h3 (by walk_at "wd")
          obtain ⟨a, qq, rfl⟩ := this
          unfold Tr.enc
          walk_at "y"
          walk_at "o"
          exact q
        · walk_at "y"
          refine st_lc (own1 rfl rfl) ?_
          walk_at "y"
          rw [enc_eq]
          walk_at "y"
          rw [show (1 : Int) = ((1 : Nat) : Int) from rfl, cut_drop]
          have hl := rest_len t (hok t rfl)
          refine ⟨own1 rfl rfl, lc_filter (isT "tuple") (fun d => d) .un rfl (by show t.rest.length ≤ _; omega) (fun x hx N hN => ?_) (fun x hx _ N hN => ?_) ?_⟩
          · walk_at "y"
            exact hN
          · walk_at "y"
            exact hN
          · walk_at "y"
            walk_at "o"
            rw [show List.drop 1 (PyData.str t.word :: t.rest) = t.rest from rfl, rest_parts h1 h2 h3, List.map_id']
            exact q
def szOs (l : List (Option Tr)) : Nat := (l.map sizeO).sum
theorem szOs_app (a b : List (Option Tr)) : szOs (a ++ b) = szOs a + szOs b := by simp [szOs]
theorem szOs_one (t : Option Tr) : szOs [t] = sizeO t := by simp [szOs]
theorem sizeO_pos (o : Option Tr) : 1 ≤ sizeO o := by
  cases o with
  | none => exact Nat.le_refl _
  | some t => exact size_pos t
theorem szOs_len (l : List (Option Tr)) : l.length ≤ szOs l := by
  induction l with
  | nil => exact Nat.zero_le _
  | cons t l ih =>
    have := sizeO_pos t
    have e : szOs (t :: l) = sizeO t + szOs l := by simp [szOs]
    rw [e, List.length_cons]
    omega
theorem szOs_some (l : List Tr) : szOs (l.map some) = szs l := by
  unfold szOs szs
  rw [List.map_map]
  rfl
theorem encO_snoc (l : List (Option Tr)) (t : Option Tr) : (l ++ [t]).map encO = l.map encO ++ [encO t] := by simp
theorem lkO_szs (o : Option Tr) : szs (o.toList.flatMap Tr.lkids) + 1 ≤ sizeO o := by
  cases o with
  | none => exact Nat.le_refl _
  | some t => simpa [sizeO] using lkids_szs t
theorem preO_split (o : Option Tr) : preO o = o.toList ++ (o.toList.flatMap Tr.lkids).flatMap Tr.pre := by
  cases o with
  | none => rfl
  | some t =>
    have := pre_split t
    simpa [preO] using this
theorem rp_law_found (as : List SD) (Q : RS → List SD → Prop) (h : sp_law_found as Q) : rd_law_found { nx := fun δ => Q (.dt .none) (outs as δ), rt := fun d δ => Q d (outs as δ) } (startD 6 as) := by
  obtain ⟨o, x, rfl, hs, hok, hd, q⟩ := h
  show rd_law_found _ [.dt (encO o), .dt (.str x), .un, .un, .un, .un]
  unfold rd_law_found
  walk_at "y"
  rename_i p1 p2
  have fin : ∀ (p : Addr) (s3 s4 s5 : SD) (found : List D), found = uniq (((preO o).filter fun t => t.word = x).map Tr.enc) → sRet (dCall tupleD (dCons (dFrz 2) dNil)) { nx := fun δ => Q (.dt .none) (outs [.dt (encO o), .dt (.str x)] δ), rt := fun d δ => Q d (outs [.dt (encO o), .dt (.str x)] δ) } [.dt (encO o), .dt (.str x), .ow p1 (.lst found), s3, s4, s5] := by
    intro p s3 s4 s5 found hf
    walk_at "y"
    walk_at "o"
    rw [hf]
    exact q
  refine ⟨20000, rfl, by omega, by omega, ?_⟩
  refine for_rng (lo := 0) (n := (20000 : Int).toNat) (fun i δ => ∃ (stk : List (Option Tr)) (found : List D) (p : Addr) (s4 s5 : SD), δ = [.dt (encO o), .dt (.str x), .ow p1 (.lst found), .ow p (.lst (stk.map encO)), s4, s5] ∧ szOs stk + i ≤ 20000 ∧ found.length ≤ i ∧ (∀ t ∈ stk, OkO t) ∧ (∀ t ∈ stk, ∀ u ∈ preO t, u.word = x → u.enc.depth ≤ 150) ∧
    (((stk.reverse.flatMap preO).filter fun t => t.word = x).map Tr.enc).foldl addU found = uniq (((preO o).filter fun t => t.word = x).map Tr.enc)) ⟨[o], [], p2, .un, .un, rfl, by rw [szOs_one]; exact hs, Nat.zero_le _, fun t ht => by simp at ht; subst ht; exact hok, fun t ht => by simp at ht; subst ht; exact hd, by simp [uniq]⟩ (fun i δ' N hi ⟨stk, found, p, s4, s5, e, h1, h2, h3, h4, h5⟩ hN => ?_) fun δ' ⟨stk, found, p, s4, s5, e, h1, h2, h3, h4, h5⟩ => ?_
  · subst e
    rcases snoc_ex stk with rfl | ⟨l, t, rfl⟩
    · walk_at "y"
      walk_at "o"
      rw [show found = uniq (((preO o).filter fun t => t.word = x).map Tr.enc) from by simpa using h5]
      exact q
    · have hl2 := szOs_len l
      have hl := szOs_len (l ++ [t])
      rw [List.length_append, List.length_singleton] at hl
      rw [encO_snoc]
      walk_at "y"
      refine ite_dec (fun hz => absurd hz (by rw [List.length_append, List.length_singleton]; omega)) (fun _ => ?_)
      walk_at "1"
      walk_at "1"
      refine st_pop rfl ?_
      have lk := lkO_szs t
      rw [szOs_app, szOs_one] at h1
      have hkl := szs_len (t.toList.flatMap Tr.lkids)
      have hid : ∀ (t : Tr) f2, ((some t).toList.filter fun t => t.word = x) = f2 → f2 = (if t.word = x then [t] else []) := by
        intro t f2 h
        rw [← h, Option.toList_some, List.filter_cons]
        by_cases hw : t.word = x
        · simp [hw]
        · simp [hw]
      walk_at "u"
      refine st_ifJ (fun δ => ∃ found' s4, δ = [.dt (encO o), .dt (.str x), .ow p1 (.lst found'), .ow p (.lst (l.map encO)), s4, .dt (encO t)] ∧ found'.length ≤ i + 1 ∧ found' = (((t.toList).filter fun t => t.word = x).map Tr.enc).foldl addU found) (fun N' hN' => ?_) fun δ' ⟨found', s4, e, hfl, hf⟩ => ?_
      · cases t with
        | none =>
          walk_at "y"
          exact hN' _ ⟨found, _, rfl, by omega, rfl⟩
        | some t =>
          walk_at "y"
          refine ite_kT (by rw [show encO (some t) = t.enc from rfl, enc_none]; rfl) ?_
          walk_at "y"
          refine word_ix ?_
          walk_at "y"
          refine ite_dec (fun hw => ?_) (fun hw => ?_)
          · walk_at "y"
            refine ex_inO rfl (h4 (some t) (by simp) t (by rw [show preO (some t) = t.pre from by simp [preO], pre_split]; exact List.mem_cons_self) hw) ?_
            refine ⟨_, rfl, ?_⟩
            refine ite_b (fun hb => ?_) (fun hb => ?_)
            · walk_at "y"
              refine ex_app1 rfl (by omega) ?_
              refine hN' _ ⟨_, _, rfl, by rw [List.length_append, List.length_singleton]; omega, ?_⟩
              rw [hid _ _ rfl, if_pos hw]
              show _ = addU found t.enc
              unfold addU
              rw [if_neg (by simpa [encO] using hb)]
              rfl
            · walk_at "y"
              refine hN' _ ⟨_, _, rfl, by omega, ?_⟩
              rw [hid _ _ rfl, if_pos hw]
              show _ = addU found t.enc
              unfold addU
              rw [if_pos (by simpa [encO] using hb)]
          · walk_at "y"
            refine hN' _ ⟨_, _, rfl, by omega, ?_⟩
            rw [hid _ _ rfl, if_neg hw]
            rfl
      · subst e
        walk_at "y"
        refine call_ok (by simp [bors]) (by simp [bors]) fun Q2 hQ => ⟨t, rfl, h3 t (by simp), hQ _ _ rfl ?_⟩
        walk_at "s"
        walk_at "y"
        refine ⟨_, _, rfl, rfl, by rw [List.length_reverse, List.length_map, List.length_map]; omega, ?_⟩
        walk_at "y"
        rename_i p'
        have e1 : l.map encO ++ ((t.toList.flatMap Tr.lkids).map Tr.enc).reverse = (l ++ ((t.toList.flatMap Tr.lkids).map some).reverse).map encO := by
          rw [List.map_append, List.map_reverse, List.map_map]
          rfl
        rw [e1]
        refine hN _ ⟨l ++ ((t.toList.flatMap Tr.lkids).map some).reverse, found', p', _, _, rfl, ?_, hfl, ?_, ?_, ?_⟩
        · have : szOs ((t.toList.flatMap Tr.lkids).map some).reverse = szs (t.toList.flatMap Tr.lkids) := by
            rw [← szOs_some]
            simp [szOs]
          rw [szOs_app, this]
          omega
        · intro u hu
          rcases List.mem_append.mp hu with hu | hu
          · exact h3 u (by simp [hu])
          · rw [List.mem_reverse] at hu
            obtain ⟨v, hv, rfl⟩ := List.mem_map.mp hu
            intro v' e'
            cases e'
            cases t with
            | none => simp at hv
            | some t =>
              have hok' := h3 (some t) (by simp) t rfl
              have hv' : v ∈ t.lkids := by simpa using hv
              refine pre_ok hok' v ?_
              rw [pre_split]
              refine List.mem_cons_of_mem _ (List.mem_flatMap.mpr ⟨v, hv', ?_⟩)
              rw [pre_split]
              exact List.mem_cons_self
        · intro u hu v hv hw
          rcases List.mem_append.mp hu with hu | hu
          · exact h4 u (by simp [hu]) v hv hw
          · rw [List.mem_reverse] at hu
            obtain ⟨u', hu', rfl⟩ := List.mem_map.mp hu
            refine h4 t (by simp) v ?_ hw
            rw [preO_split]
            refine List.mem_append_right _ (List.mem_flatMap.mpr ⟨u', hu', ?_⟩)
            simpa [preO] using hv
        · rw [← h5, List.reverse_append, List.reverse_append, List.reverse_reverse, List.flatMap_append, List.flatMap_append]
          rw [show ([t] : List (Option Tr)).reverse.flatMap preO = preO t from by simp, preO_split t]
          simp only [List.filter_append, List.map_append, List.foldl_append]
          have e2 : (fun a => preO (some a)) = Tr.pre := funext fun u => by simp [preO]
          rw [← hf, List.flatMap_map, e2]
  · subst e
    have : stk = [] := by
      have := szOs_len stk
      exact List.length_eq_zero_iff.mp (by omega)
    subst this
    exact fin p _ _ _ _ (by simpa using h5)
theorem agg_kids {t : Tr} (h : t.isAgg = true) : t.kids = [] := by cases t <;> first | rfl | cases h
theorem agg_lkids {t : Tr} (h : t.isAgg = false) : t.lkids = t.kids := by cases t <;> first | rfl | cases h
theorem rp_law_levels (as : List SD) (Q : RS → List SD → Prop) (h : sp_law_levels as Q) : rd_law_levels { nx := fun δ => Q (.dt .none) (outs as δ), rt := fun d δ => Q d (outs as δ) } (startD 6 as) := by
  obtain ⟨o, rfl, hs, h4, hok, q⟩ := h
  show rd_law_levels _ [.dt (encO o), .un, .un, .un, .un, .un]
  unfold rd_law_levels
  walk_at "y"
  refine st_lc (own1 rfl rfl) ?_
  walk_at "y"
  refine ⟨own1 rfl rfl, lc_filter (fun d => !isNoneD d) (fun d => d) .un rfl (by simp) (fun x hx N hN => ?_) (fun x hx _ N hN => ?_) ?_⟩
  · walk_at "y"
    exact hN
  · walk_at "y"
    exact hN
  · have e0 : (List.filter (fun d => !isNoneD d) [encO o]).map (fun d => d) = o.toList.map Tr.enc := by
      cases o with
      | none => rfl
      | some t => simp [encO, enc_none]
    rw [e0]
    walk_at "y"
    refine ⟨400, rfl, by omega, by omega, ?_⟩
    refine for_rng (lo := 0) (n := (400 : Int).toNat) (fun i δ => ∃ (lv : List Tr) (s3 s4 s5 : SD), δ = [.dt (encO o), .dt (.list (lv.map Tr.enc)), .dt (.int (i : Int)), s3, s4, s5] ∧ szs lv ≤ 20000 ∧ i + hgts lv = hgtO o ∧ ∀ t ∈ lv, t.Ok) ⟨o.toList, _, _, _, rfl, ?_, ?_, ?_⟩ (fun i δ' N hi ⟨lv, s3, s4, s5, e, h1, h2, h3⟩ hN => ?_) fun δ' ⟨lv, s3, s4, s5, e, h1, h2, h3⟩ => ?_
    · have := szs_O o
      omega
    · rw [hgtO_eq]
      omega
    · intro t ht
      exact hok t (by simpa using ht)
    · subst e
      have hll := szs_len lv
      walk_at "y"
      refine ite_dec (fun hz => ?_) (fun hz => ?_)
      · have : lv = [] := by
          rw [List.length_map] at hz
          exact List.length_eq_zero_iff.mp (by omega)
        subst this
        walk_at "y"
        walk_at "o"
        have : i = hgtO o := by simpa [hgts] using h2
        rw [this]
        exact q
      · have hne : lv ≠ [] := fun z => by
          subst z
          exact hz rfl
        have hfl := szs_flat lv
        have hhf := hgts_flat hne
        walk_at "y"
        refine for_inv (fun j δ => ∃ s5, δ = [.dt (encO o), .dt (.list (lv.map Tr.enc)), .dt (.int ((i : Int) + 1)), .dt (.int (0 + (i : Int))), .dt (.list (((lv.take j).flatMap Tr.kids).map Tr.enc)), s5]) ⟨_, rfl⟩ (fun j x δ' N' hx ⟨s5, e⟩ hN' => ?_) fun δ' ⟨s5, e⟩ => ?_
        · subst e
          rw [List.getElem?_map] at hx
          obtain ⟨t, ht, rfl⟩ := Option.map_eq_some_iff.mp hx
          have e1 : (lv.take (j + 1)).flatMap Tr.kids = (lv.take j).flatMap Tr.kids ++ t.kids := by
            rw [List.take_add_one, ht, Option.toList_some, List.flatMap_append]
            simp
          have hb : ∀ j, szs ((lv.take j).flatMap Tr.kids) ≤ szs lv := by
            intro j
            have h5 := szs_flat (lv.take j)
            have h6 : szs lv = szs (lv.take j) + szs (lv.drop j) := by rw [← szs_app, List.take_append_drop]
            omega
          have hb1 := hb (j + 1)
          rw [e1, szs_app] at hb1
          have hk1 := szs_len t.kids
          have hk2 := szs_len ((lv.take j).flatMap Tr.kids)
          walk_at "y"
          refine word_ix ?_
          walk_at "y"
          refine ite_b (fun hw => ?_) (fun hw => ?_)
          · have ha : t.isAgg = false := by
              rw [← agg_word]
              simpa using hw
            walk_at "y"
            refine call_ok (by simp [bors]) (by simp [bors]) fun Q2 hQ => ⟨some t, rfl, fun u hu => by cases hu; exact h3 t (List.mem_of_getElem? ht), hQ _ _ rfl ?_⟩
            walk_at "s"
            have e2 : (some t).toList.flatMap Tr.lkids = t.kids := by
              rw [← agg_lkids ha]
              simp
            rw [e2]
            refine st_addL (by rw [List.length_map, List.length_map]; omega) ?_
            walk_at "y"
            refine hN' _ ⟨_, by rw [e1, List.map_append]⟩
          · have ha : t.isAgg = true := by
              rw [← agg_word]
              simpa using hw
            walk_at "y"
            refine hN' _ ⟨_, by rw [e1, agg_kids ha, List.append_nil]⟩
        · subst e
          have e1 : lv.take (lv.map Tr.enc).length = lv := by rw [List.length_map, List.take_length]
          rw [e1]
          walk_at "y"
          refine hN _ ⟨lv.flatMap Tr.kids, _, _, _, by rw [Int.natCast_add]; rfl, by omega, by omega, fun u hu => ?_⟩
          obtain ⟨t, ht, hut⟩ := List.mem_flatMap.mp hu
          have tok := h3 t ht
          refine pre_ok tok u ?_
          rw [pre_split]
          refine List.mem_cons_of_mem _ (List.mem_flatMap.mpr ⟨u, ?_, by rw [pre_split]; exact List.mem_cons_self⟩)
          cases hag : t.isAgg with
          | true =>
            rw [agg_kids hag] at hut
            simp at hut
          | false =>
            rw [agg_lkids hag]
            exact hut
    · exfalso
      omega
theorem rp_law_split (as : List SD) (Q : RS → List SD → Prop) (h : sp_law_split as Q) : rd_law_split { nx := fun δ => Q (.dt .none) (outs as δ), rt := fun d δ => Q d (outs as δ) } (startD 5 as) := by
  obtain ⟨t0, rfl, hs, q⟩ := h
  show rd_law_split _ [.dt t0.enc, .un, .un, .un, .un]
  unfold rd_law_split
  walk_at "y"
  rename_i p1 p2
  refine ⟨20000, rfl, by omega, by omega, ?_⟩
  refine for_rng (lo := 0) (n := (20000 : Int).toNat) (fun i δ => ∃ (stk found : List Tr) (s3 s4 : SD), δ = [.dt t0.enc, .ow p1 (.lst (found.map Tr.enc)), .ow p2 (.lst (stk.map Tr.enc)), s3, s4] ∧ szs stk + i ≤ 20000 ∧ found.length ≤ i ∧ found ++ stk.reverse.flatMap Tr.ands = t0.ands) ⟨[t0], [], _, _, rfl, by rw [szs_one]; exact hs, Nat.zero_le _, by simp⟩ (fun i δ' N hi ⟨stk, found, s3, s4, e, h1, h2, h3⟩ hN => ?_) fun δ' ⟨stk, found, s3, s4, e, h1, h2, h3⟩ => ?_
  · subst e
    rcases snoc_ex stk with rfl | ⟨l, t, rfl⟩
    · walk_at "y"
      walk_at "o"
      rw [show found = t0.ands from by simpa using h3]
      exact q
    · have hl2 := szs_len l
      rw [szs_app, szs_one] at h1
      have hp := size_pos t
      rw [enc_snoc]
      walk_at "y"
      refine ite_dec (fun hz => absurd hz (by rw [List.length_append, List.length_singleton]; omega)) (fun _ => ?_)
      walk_at "1"
      walk_at "1"
      refine st_pop rfl ?_
      walk_at "y"
      refine word_ix ?_
      walk_at "y"
      refine ite_dec (fun hw => ?_) (fun hw => ?_)
      · obtain ⟨a, b, rfl⟩ := and_word hw
        rw [show (Tr.bi .and a b).enc = .tuple [.str "and", a.enc, b.enc] from rfl]
        walk_at "y"
        refine ex_app1 rfl (by rw [List.length_map]; omega) ?_
        walk_at "y"
        refine ex_app1 rfl (by rw [List.length_append, List.length_map, List.length_singleton]; omega) ?_
        refine hN _ ⟨l ++ [b, a], found, _, _, by rw [show (l ++ [b, a]).map Tr.enc = l.map Tr.enc ++ [b.enc] ++ [a.enc] from by simp], ?_, by omega, ?_⟩
        · rw [szs_app, szs_cons, szs_one]
          simp only [Tr.size] at h1
          omega
        · rw [← h3]
          simp [Tr.ands]
      · walk_at "y"
        refine ex_app1 rfl (by rw [List.length_map]; omega) ?_
        refine hN _ ⟨l, found ++ [t], _, _, by rw [enc_snoc], by omega, by rw [List.length_append, List.length_singleton]; omega, ?_⟩
        rw [← h3]
        simp [ands_not hw]
  · subst e
    have : stk = [] := by
      have := szs_len stk
      exact List.length_eq_zero_iff.mp (by omega)
    subst this
    walk_at "y"
    walk_at "o"
    rw [show found = t0.ands from by simpa using h3]
    exact q
local macro_rules | `(tactic| walk_at "wd") => `(tactic| (simp only [Tr.word, Un.w, Bi.w]; decide))
theorem st_goCons {g : TDG} {s : TDS} {De : DEnds} {x : D} {xs : List D} {δ : Dl} (q : g x δ fun δ1 => s { De with nx := sForGo g s De xs, ct := sForGo g s De xs, bk := De.nx } δ1) : sForGo g s De (x :: xs) δ := q
theorem st_goNil {g : TDG} {s : TDS} {De : DEnds} {δ : Dl} (q : De.nx δ) : sForGo g s De [] δ := q
theorem ex_setO {δ : Dl} {i : Nat} {p : Addr} {xs : List D} {j : Int} {k : Nat} {kq : Addr → List D → Nat → Prop} (h : δ[i]? = some (.ow p (.lst xs))) (e : ixN xs.length j = some k) (q : kq p xs k) : ∃ p xs j' k, δ[i]? = some (.ow p (.lst xs)) ∧ PyData.int j = .int j' ∧ ixN xs.length j' = some k ∧ kq p xs k := ⟨p, xs, j, k, h, rfl, e, q⟩
theorem ex_ownL {δ : Dl} {i : Nat} {p : Addr} {xs : List D} {P : Prop} (h : δ[i]? = some (.ow p (.lst xs))) (q : P) : (∃ p xs, δ[i]? = some (.ow p (.lst xs))) ∧ P := ⟨⟨p, xs, h⟩, q⟩
local macro_rules | `(tactic| walk_at "z") => `(tactic| repeat (first | walk_at "1" | walk_at "2" | walk_at "3" | walk_at "4" | with_reducible refine' st_if ?_ | with_reducible refine' st_goCons ?_ | with_reducible refine' st_goNil ?_ | with_reducible refine' st_setO ?_ | ((with_reducible refine' ex_ownL ?k1 ?_); (case k1 => exact rfl)) | dsimp only [List.set, slotV, rsV, evV]))
theorem in_words {x : Str} {Qd : D → Prop} (q : Qd (.bool (decide (x = "col") || decide (x = "agg")))) : inD (.str x) (.tuple [.str "col", .str "agg"]) Qd := by
  refine in_ok rfl (by simp [PyData.depth]) ?_ q
  have e : ∀ y : Str, PyData.eqv (.str y) (.str x) = decide (x = y) := fun y => by
    rw [PyData.eqv]
    by_cases h : x = y
    · subst h; simp
    · rw [decide_eq_false h]
      exact beq_eq_false_iff_ne.mpr (fun z => h z.symm)
  simp [e]
theorem notkey_rep {t : Tr} (kvs : List (D × D)) : t.isKey = true → lk kvs t.enc = none → t.rep kvs = match t with | .agg1 f ds => .tuple [.str "agg", .str f, (Tr.col ds).rep kvs] | t => t.enc := by
  intro h e
  cases t with
  | col ds => show ((lk kvs (colE ds)).getD _) = _; rw [show lk kvs (colE ds) = none from e]; rfl
  | agg0 => show ((lk kvs _).getD _) = _; rw [e]; rfl
  | aggi i => show ((lk kvs _).getD _) = _; rw [e]; rfl
  | agg1 f ds => show ((lk kvs _).getD _) = _; rw [e]; rfl
  | _ => cases h
theorem iskey_rep {t : Tr} {kvs : List (D × D)} {z : D} (h : t.isKey = true) (e : lk kvs t.enc = some z) : t.rep kvs = z := by
  cases t with
  | col ds => show ((lk kvs (colE ds)).getD _) = _; rw [show lk kvs (colE ds) = some z from e]; rfl
  | agg0 => show ((lk kvs _).getD _) = _; rw [e]; rfl
  | aggi i => show ((lk kvs _).getD _) = _; rw [e]; rfl
  | agg1 f ds => show ((lk kvs _).getD _) = _; rw [e]; rfl
  | _ => cases h
theorem word_key (t : Tr) : (decide (t.word = ("col" : Str)) || decide (t.word = ("agg" : Str))) = t.isKey := by
  rw [agg_word]
  cases h : t.isAgg with
  | true => cases t <;> first | (cases h; done) | (rw [Bool.or_true]; rfl)
  | false =>
    rw [Bool.or_false]
    by_cases hc : t.word = ("col" : Str)
    · rw [decide_eq_true hc]
      obtain ⟨ds, rfl⟩ := col_word hc
      rfl
    · rw [decide_eq_false hc]
      cases t with
      | col ds => exact absurd rfl hc
      | _ => first | rfl | cases h
section
variable {P : Program} {w : World}
theorem rp_replaced (n : Nat) (as : List SD) (Q : RS → List SD → Prop) (h : sp_replaced P w (n + 1) as Q) : rd_replaced P w n { nx := fun δ => Q (.dt .none) (outs as δ), rt := fun d δ => Q d (outs as δ) } (startD 5 as) := by
  obtain ⟨o, s, p, kvs, m, rfl, hm, hsm, hok, hfz, q⟩ := h
  show rd_replaced P w n _ [.dt (encO o), s, .un, .un, .un]
  unfold rd_replaced
  have key : ∀ s : SD, (∀ d s2 s3 s4, Q d (outs [.dt (encO o), s] [.dt (encO o), .ow p (OD.dnF P w p kvs), s2, s3, s4]) = Q d [.un, .ow p (OD.dnF P w p kvs)]) → ∀ (body : TDS), body { nx := fun δ => Q (.dt .none) (outs [.dt (encO o), s] δ), rt := fun d δ => Q d (outs [.dt (encO o), s] δ) } [.dt (encO o), .ow p (OD.dnF P w p kvs), .un, .un, .un] → Frz P w s p kvs → sFrzN P w 1 body { nx := fun δ => Q (.dt .none) (outs [.dt (encO o), s] δ), rt := fun d δ => Q d (outs [.dt (encO o), s] δ) } [.dt (encO o), s, .un, .un, .un] := by
    intro s hs body hb hf
    rcases hf with rfl | rfl
    · exact st_frzF rfl hb
    · exact st_frzR rfl hb
  have hout : ∀ d s2 s3 s4, Q d (outs [.dt (encO o), s] [.dt (encO o), .ow p (OD.dnF P w p kvs), s2, s3, s4]) = Q d [.un, .ow p (OD.dnF P w p kvs)] := fun d s2 s3 s4 => by
    rcases hfz with rfl | rfl <;> simp [outs, oneOut]
  refine key s hout _ ?_ hfz
  clear key
  cases o with
  | none =>
    unfold encO
    walk_at "z"
    rw [show encO none = .none from rfl] at hout
    rw [hout]
    exact q
  | some t =>
    have hok := hok t rfl
    rw [show encO (some t) = t.enc from rfl] at hout ⊢
    have hsm : Sm m t.enc := hsm
    rw [enc_eq] at hsm
    obtain ⟨m', rfl, hsm2⟩ := hsm.of
    have q : Q (.dt (t.rep kvs)) [.un, .ow p (OD.dnF P w p kvs)] := q
    walk_at "z"
    refine ite_kF (enc_none t) ?_
    walk_at "z"
    refine word_ix ?_
    walk_at "z"
    refine in_words ?_
    refine ⟨_, rfl, ?_⟩
    rw [word_key]
    refine ite_b (fun hk => ?_) (fun hk => ?_)
    · obtain ⟨k, hkey⟩ := key_of hk hok
      have hlk := lk_key (kvs := kvs) hkey
      walk_at "z"
      refine ⟨p, kvs, k, rfl, hkey, ?_⟩
      rw [Bool.false_xor]
      walk_at "z"
      cases hg : getN kvs k with
      | some z =>
        rw [hg] at hlk
        refine ite_kT rfl ?_
        walk_at "z"
        refine ⟨p, kvs, k, z, rfl, hkey, hg, ?_⟩
        rw [hout, ← iskey_rep hk hlk]
        exact q
      | none =>
        rw [hg] at hlk
        have hr := notkey_rep kvs hk hlk
        rw [hr] at q
        refine ite_kF rfl ?_
        cases t with
        | col ds =>
          rw [show (Tr.col ds).enc = .tuple (.str "col" :: ds) from rfl] at hout ⊢
          walk_at "z"
          refine call_ok (by simp [bors]) (by simp [bors]) fun Q2 hQ => ⟨.col ds, rfl, hQ _ _ rfl ?_⟩
          walk_at "s"
          rw [show List.map PyData.int (Tr.col ds).places = [] from rfl]
          walk_at "z"
          rw [hout]
          exact q
        | agg0 =>
          rw [show Tr.agg0.enc = .tuple [.str "agg", .str "count", .none] from rfl] at hout ⊢
          walk_at "z"
          refine call_ok (by simp [bors]) (by simp [bors]) fun Q2 hQ => ⟨.agg0, rfl, rfl, hQ _ _ rfl ?_⟩
          walk_at "s"
          rw [show Tr.agg0.aggCol = .none from rfl]
          walk_at "z"
          rw [hout]
          exact q
        | aggi i =>
          rw [show (Tr.aggi i).enc = .tuple [.str "agg", .int i] from rfl] at hout ⊢
          walk_at "z"
          refine call_ok (by simp [bors]) (by simp [bors]) fun Q2 hQ => ⟨.aggi i, rfl, rfl, hQ _ _ rfl ?_⟩
          walk_at "s"
          rw [show (Tr.aggi i).aggCol = .none from rfl]
          walk_at "z"
          rw [hout]
          exact q
        | agg1 f ds =>
          rw [show (Tr.agg1 f ds).enc = .tuple [.str "agg", .str f, colE ds] from rfl] at hout ⊢
          walk_at "z"
          refine call_ok (by simp [bors]) (by simp [bors]) fun Q2 hQ => ⟨.agg1 f ds, rfl, rfl, hQ _ _ rfl ?_⟩
          walk_at "s"
          rw [show (Tr.agg1 f ds).aggCol = .tuple (.str "col" :: ds) from rfl]
          walk_at "z"
          refine ⟨⟨by simp [borsW], by simp [borsW]⟩, fun Q2 hQ2 _ => ⟨some (.col ds), _, p, kvs, m', rfl, by omega, hsm2 (colE ds) (by simp [Tr.rest]), fun u hu => by cases hu; exact hok, .inl rfl, hQ2 _ _ rfl ?_⟩⟩
          walk_at "b"
          walk_at "z"
          refine ⟨_, _, _, _, rfl, rfl, rfl, ?_⟩
          walk_at "z"
          rw [hout]
          exact q
        | _ => cases hk
    · have hna : t.isAgg = false := by
        cases t <;> first | rfl | cases hk
      have hword : ¬ t.word = "agg" := fun z => by
        have := agg_word t
        rw [hna] at this
        exact absurd z (of_decide_eq_false this)
      have rec1 : ∀ (a : Tr), a.Ok → a.enc ∈ t.rest → ∃ m2, m2 < n ∧ Sm m2 a.enc ∧ OkO (some a) := fun a hao ha => ⟨m', by omega, hsm2 _ (List.mem_cons_of_mem _ ha), fun u hu => by cases hu; exact hao⟩
      cases t with
      | num i =>
        rw [show (Tr.num i).enc = .tuple [.str "num", .int i] from rfl] at hout ⊢
        walk_at "z"
        refine call_ok (by simp [bors]) (by simp [bors]) fun Q2 hQ => ⟨.num i, rfl, hQ _ _ rfl ?_⟩
        walk_at "s"
        rw [show List.map PyData.int (Tr.num i).places = [] from rfl]
        walk_at "z"
        rw [hout]
        exact q
      | text x =>
        rw [show (Tr.text x).enc = .tuple [.str "text", .str x] from rfl] at hout ⊢
        walk_at "z"
        refine call_ok (by simp [bors]) (by simp [bors]) fun Q2 hQ => ⟨.text x, rfl, hQ _ _ rfl ?_⟩
        walk_at "s"
        rw [show List.map PyData.int (Tr.text x).places = [] from rfl]
        walk_at "z"
        rw [hout]
        exact q
      | ex x y =>
        rw [show (Tr.ex x y).enc = .tuple [.str "exists", x, y] from rfl] at hout ⊢
        walk_at "z"
        refine call_ok (by simp [bors]) (by simp [bors]) fun Q2 hQ => ⟨.ex x y, rfl, hQ _ _ rfl ?_⟩
        walk_at "s"
        rw [show List.map PyData.int (Tr.ex x y).places = [] from rfl]
        walk_at "z"
        rw [hout]
        exact q
      | un u a =>
        rw [show (Tr.un u a).enc = .tuple [.str u.w, a.enc] from rfl] at hout ⊢
        walk_at "z"
        refine ite_kF (decide_eq_false hword) ?_
        walk_at "z"
        refine call_ok (by simp [bors]) (by simp [bors]) fun Q2 hQ => ⟨.un u a, rfl, hQ _ _ rfl ?_⟩
        walk_at "s"
        rw [show List.map PyData.int (Tr.un u a).places = [.int 1] from rfl]
        walk_at "z"
        refine ⟨⟨by simp [borsW], by simp [borsW]⟩, fun Q2 hQ2 _ => ?_⟩
        obtain ⟨m2, r1, r2, r3⟩ := rec1 a hok (by simp [Tr.rest])
        refine ⟨some a, _, p, kvs, m2, rfl, r1, r2, r3, .inl rfl, hQ2 _ _ rfl ?_⟩
        walk_at "b"
        walk_at "z"
        refine ⟨_, _, _, _, rfl, rfl, rfl, ?_⟩
        walk_at "z"
        rw [hout]
        exact q
      | bi u a b =>
        rw [show (Tr.bi u a b).enc = .tuple [.str u.w, a.enc, b.enc] from rfl] at hout ⊢
        walk_at "z"
        refine ite_kF (decide_eq_false hword) ?_
        walk_at "z"
        refine call_ok (by simp [bors]) (by simp [bors]) fun Q2 hQ => ⟨.bi u a b, rfl, hQ _ _ rfl ?_⟩
        walk_at "s"
        rw [show List.map PyData.int (Tr.bi u a b).places = [.int 1, .int 2] from rfl]
        walk_at "z"
        refine ⟨⟨by simp [borsW], by simp [borsW]⟩, fun Q2 hQ2 _ => ?_⟩
        obtain ⟨m2, r1, r2, r3⟩ := rec1 a hok.1 (by simp [Tr.rest])
        refine ⟨some a, _, p, kvs, m2, rfl, r1, r2, r3, .inl rfl, hQ2 _ _ rfl ?_⟩
        walk_at "b"
        walk_at "z"
        refine ⟨_, _, _, _, rfl, rfl, rfl, ?_⟩
        walk_at "z"
        refine ⟨⟨by simp [borsW], by simp [borsW]⟩, fun Q2 hQ2 _ => ?_⟩
        obtain ⟨m2, r1, r2, r3⟩ := rec1 b hok.2 (by simp [Tr.rest])
        refine ⟨some b, _, p, kvs, m2, rfl, r1, r2, r3, .inl rfl, hQ2 _ _ rfl ?_⟩
        walk_at "b"
        walk_at "z"
        refine ⟨_, _, _, _, rfl, rfl, rfl, ?_⟩
        walk_at "z"
        rw [hout]
        exact q
      | cmp op a b =>
        rw [show (Tr.cmp op a b).enc = .tuple [.str "cmp", .str op, a.enc, b.enc] from rfl] at hout ⊢
        walk_at "z"
        refine call_ok (by simp [bors]) (by simp [bors]) fun Q2 hQ => ⟨.cmp op a b, rfl, hQ _ _ rfl ?_⟩
        walk_at "s"
        rw [show List.map PyData.int (Tr.cmp op a b).places = [.int 2, .int 3] from rfl]
        walk_at "z"
        refine ⟨⟨by simp [borsW], by simp [borsW]⟩, fun Q2 hQ2 _ => ?_⟩
        obtain ⟨m2, r1, r2, r3⟩ := rec1 a hok.1 (by simp [Tr.rest])
        refine ⟨some a, _, p, kvs, m2, rfl, r1, r2, r3, .inl rfl, hQ2 _ _ rfl ?_⟩
        walk_at "b"
        walk_at "z"
        refine ⟨_, _, _, _, rfl, rfl, rfl, ?_⟩
        walk_at "z"
        refine ⟨⟨by simp [borsW], by simp [borsW]⟩, fun Q2 hQ2 _ => ?_⟩
        obtain ⟨m2, r1, r2, r3⟩ := rec1 b hok.2 (by simp [Tr.rest])
        refine ⟨some b, _, p, kvs, m2, rfl, r1, r2, r3, .inl rfl, hQ2 _ _ rfl ?_⟩
        walk_at "b"
        walk_at "z"
        refine ⟨_, _, _, _, rfl, rfl, rfl, ?_⟩
        walk_at "z"
        rw [hout]
        exact q
      | inq a d =>
        rw [show (Tr.inq a d).enc = .tuple [.str "in", a.enc, d] from rfl] at hout ⊢
        walk_at "z"
        refine call_ok (by simp [bors]) (by simp [bors]) fun Q2 hQ => ⟨.inq a d, rfl, hQ _ _ rfl ?_⟩
        walk_at "s"
        rw [show List.map PyData.int (Tr.inq a d).places = [.int 1] from rfl]
        walk_at "z"
        refine ⟨⟨by simp [borsW], by simp [borsW]⟩, fun Q2 hQ2 _ => ?_⟩
        obtain ⟨m2, r1, r2, r3⟩ := rec1 a hok (by simp [Tr.rest])
        refine ⟨some a, _, p, kvs, m2, rfl, r1, r2, r3, .inl rfl, hQ2 _ _ rfl ?_⟩
        walk_at "b"
        walk_at "z"
        refine ⟨_, _, _, _, rfl, rfl, rfl, ?_⟩
        walk_at "z"
        rw [hout]
        exact q
      | _ => cases hk
theorem rp_law_put (n : Nat) (as : List SD) (Q : RS → List SD → Prop) (h : sp_law_put P w (n + 1) as Q) : rd_law_put P w n { nx := fun δ => Q (.dt .none) (outs as δ), rt := fun d δ => Q d (outs as δ) } (startD 4 as) := by
  obtain ⟨o, s, p, kvs, m, rfl, hm, hsm, hok, hfz, q⟩ := h
  show rd_law_put P w n _ [.dt (encO o), s, .un, .un]
  unfold rd_law_put
  have key : ∀ s : SD, ∀ (body : TDS), body { nx := fun δ => Q (.dt .none) (outs [.dt (encO o), s] δ), rt := fun d δ => Q d (outs [.dt (encO o), s] δ) } [.dt (encO o), .ow p (OD.dnF P w p kvs), .un, .un] → Frz P w s p kvs → sFrzN P w 1 body { nx := fun δ => Q (.dt .none) (outs [.dt (encO o), s] δ), rt := fun d δ => Q d (outs [.dt (encO o), s] δ) } [.dt (encO o), s, .un, .un] := by
    intro s body hb hf
    rcases hf with rfl | rfl
    · exact st_frzF rfl hb
    · exact st_frzR rfl hb
  have hout : ∀ d s2 s3, Q d (outs [.dt (encO o), s] [.dt (encO o), .ow p (OD.dnF P w p kvs), s2, s3]) = Q d [.un, .ow p (OD.dnF P w p kvs)] := fun d s2 s3 => by
    rcases hfz with rfl | rfl <;> simp [outs, oneOut]
  refine key s _ ?_ hfz
  clear key
  cases o with
  | none =>
    unfold encO
    walk_at "z"
    rw [show encO none = .none from rfl] at hout
    rw [hout]
    exact q
  | some t =>
    have hok := hok t rfl
    rw [show encO (some t) = t.enc from rfl] at hout ⊢
    have hsm : Sm m t.enc := hsm
    rw [enc_eq] at hsm
    obtain ⟨m', rfl, hsm2⟩ := hsm.of
    have q : Q (.dt (t.rep kvs)) [.un, .ow p (OD.dnF P w p kvs)] := q
    have rec1 : ∀ (a : Tr), a.Ok → a.enc ∈ t.rest → ∃ m2, m2 < n ∧ Sm m2 a.enc ∧ OkO (some a) := fun a hao ha => ⟨m', by omega, hsm2 _ (List.mem_cons_of_mem _ ha), fun u hu => by cases hu; exact hao⟩
    walk_at "u"
    refine st_if ?_
    walk_at "u"
    refine ite_kF (enc_none t) ?_
    walk_at "u"
    refine st_ifJ (fun δ => δ = [.dt t.enc, .ow p (OD.dnF P w p kvs), .un, .un] ∧ (t.isKey = true → lk kvs t.enc = none)) (fun N hN => ?_) fun δ' ⟨e, hnk⟩ => ?_
    · have or1 : ∀ {Qb : Bool → Dl → Prop} {δ : Dl}, δ[0]? = some (.dt t.enc) → Qb t.isKey δ → dOr (dTest (dOp eqD (dOp ixD (dVar 0) (dC (.int 0))) (dC (.str "col")))) (dTest (dOp eqD (dOp ixD (dVar 0) (dC (.int 0))) (dC (.str "agg")))) δ Qb := by
        intro Qb δ hδ hq
        refine st_or (st_test (st_op (st_op (st_var hδ (st_c (word_ix (st_c (st_eqS ⟨_, rfl, ?_⟩))))))))
        rw [← word_key] at hq
        refine ite_dec (fun hc => ?_) (fun hc => ?_)
        · rw [decide_eq_true hc] at hq
          exact hq
        · rw [decide_eq_false hc, Bool.false_or] at hq
          exact st_test (st_op (st_op (st_var hδ (st_c (word_ix (st_c (st_eqS ⟨_, rfl, hq⟩)))))))
      refine st_if (st_and (or1 rfl ?_))
      refine ite_b (fun hk => ?_) (fun hk => ?_)
      · obtain ⟨k, hkey⟩ := key_of hk hok
        have hlk := lk_key (kvs := kvs) hkey
        walk_at "z"
        refine ⟨p, kvs, k, rfl, hkey, ?_⟩
        rw [Bool.false_xor]
        walk_at "z"
        cases hg : getN kvs k with
        | some z =>
          rw [hg] at hlk
          refine ite_kT rfl ?_
          walk_at "z"
          refine ⟨p, kvs, k, z, rfl, hkey, hg, ?_⟩
          rw [hout, ← iskey_rep hk hlk]
          exact q
        | none =>
          rw [hg] at hlk
          refine ite_kF rfl ?_
          exact hN _ ⟨rfl, fun _ => hlk⟩
      · walk_at "z"
        exact hN _ ⟨rfl, fun z => absurd (hk.symm.trans z) Bool.false_ne_true⟩
    · subst e
      cases t with
      | col ds =>
        rw [notkey_rep kvs (t := .col ds) rfl (hnk rfl)] at q
        rw [show (Tr.col ds).enc = .tuple (.str "col" :: ds) from rfl] at hout ⊢
        walk_at "z"
        rw [hout]
        exact q
      | ex x y =>
        rw [show (Tr.ex x y).enc = .tuple [.str "exists", x, y] from rfl] at hout ⊢
        walk_at "z"
        rw [hout]
        exact q
      | inq a d =>
        rw [show (Tr.inq a d).enc = .tuple [.str "in", a.enc, d] from rfl] at hout ⊢
        walk_at "z"
        refine ⟨⟨by simp [borsW], by simp [borsW]⟩, fun Q2 hQ2 _ => ?_⟩
        obtain ⟨m2, r1, r2, r3⟩ := rec1 a hok (by simp [Tr.rest])
        refine ⟨some a, _, p, kvs, m2, rfl, r1, r2, r3, .inl rfl, hQ2 _ _ rfl ?_⟩
        walk_at "b"
        walk_at "z"
        rw [hout]
        exact q
      | num i =>
        rw [show (Tr.num i).enc = .tuple [.str "num", .int i] from rfl] at hout ⊢
        walk_at "z"
        refine ex_app1 rfl (by simp) ?_
        walk_at "z"
        refine ex_app1 rfl (by simp) ?_
        walk_at "z"
        rw [hout]
        exact q
      | text x =>
        rw [show (Tr.text x).enc = .tuple [.str "text", .str x] from rfl] at hout ⊢
        walk_at "z"
        refine ex_app1 rfl (by simp) ?_
        walk_at "z"
        refine ex_app1 rfl (by simp) ?_
        walk_at "z"
        rw [hout]
        exact q
      | agg0 =>
        rw [notkey_rep kvs (t := .agg0) rfl (hnk rfl)] at q
        rw [show (Tr.agg0).enc = .tuple [.str "agg", .str "count", .none] from rfl] at hout ⊢
        walk_at "z"
        refine ex_app1 rfl (by simp) ?_
        walk_at "z"
        refine ex_app1 rfl (by simp) ?_
        walk_at "z"
        refine ex_app1 rfl (by simp) ?_
        walk_at "z"
        rw [hout]
        exact q
      | aggi i =>
        rw [notkey_rep kvs (t := .aggi i) rfl (hnk rfl)] at q
        rw [show (Tr.aggi i).enc = .tuple [.str "agg", .int i] from rfl] at hout ⊢
        walk_at "z"
        refine ex_app1 rfl (by simp) ?_
        walk_at "z"
        refine ex_app1 rfl (by simp) ?_
        walk_at "z"
        rw [hout]
        exact q
      | agg1 f ds =>
        rw [notkey_rep kvs (t := .agg1 f ds) rfl (hnk rfl)] at q
        rw [show (Tr.agg1 f ds).enc = .tuple [.str "agg", .str f, (Tr.col ds).enc] from rfl] at hout ⊢
        walk_at "z"
        refine ex_app1 rfl (by simp) ?_
        walk_at "z"
        refine ex_app1 rfl (by simp) ?_
        walk_at "z"
        refine ⟨⟨by simp [borsW], by simp [borsW]⟩, fun Q2 hQ2 _ => ?_⟩
        obtain ⟨m2, r1, r2, r3⟩ := rec1 (.col ds) hok (List.mem_cons_of_mem _ List.mem_cons_self)
        refine ⟨some (.col ds), _, p, kvs, m2, rfl, r1, r2, r3, .inl rfl, hQ2 _ _ rfl ?_⟩
        walk_at "b"
        walk_at "z"
        refine ex_app1 rfl (by simp) ?_
        walk_at "z"
        rw [hout]
        exact q
      | un u a =>
        rw [show (Tr.un u a).enc = .tuple [.str u.w, a.enc] from rfl] at hout ⊢
        walk_at "z"
        refine ite_kF (decide_eq_false (by cases u <;> walk_at "wd")) ?_
        walk_at "z"
        refine ite_kF (decide_eq_false (by cases u <;> walk_at "wd")) ?_
        walk_at "z"
        refine ite_kF (decide_eq_false (by cases u <;> walk_at "wd")) ?_
        walk_at "z"
        refine ex_app1 rfl (by simp) ?_
        walk_at "z"
        refine ite_kT (enc_ty a) ?_
        walk_at "z"
        refine ⟨⟨by simp [borsW], by simp [borsW]⟩, fun Q2 hQ2 _ => ?_⟩
        obtain ⟨m2, r1, r2, r3⟩ := rec1 a hok (by simp [Tr.rest])
        refine ⟨some a, _, p, kvs, m2, rfl, r1, r2, r3, .inl rfl, hQ2 _ _ rfl ?_⟩
        walk_at "b"
        walk_at "z"
        refine ex_app1 rfl (by simp) ?_
        walk_at "z"
        rw [hout]
        exact q
      | bi u a b =>
        rw [show (Tr.bi u a b).enc = .tuple [.str u.w, a.enc, b.enc] from rfl] at hout ⊢
        walk_at "z"
        refine ite_kF (decide_eq_false (by cases u <;> walk_at "wd")) ?_
        walk_at "z"
        refine ite_kF (decide_eq_false (by cases u <;> walk_at "wd")) ?_
        walk_at "z"
        refine ite_kF (decide_eq_false (by cases u <;> walk_at "wd")) ?_
        walk_at "z"
        refine ex_app1 rfl (by simp) ?_
        walk_at "z"
        refine ite_kT (enc_ty a) ?_
        walk_at "z"
        refine ⟨⟨by simp [borsW], by simp [borsW]⟩, fun Q2 hQ2 _ => ?_⟩
        obtain ⟨m2, r1, r2, r3⟩ := rec1 a hok.1 (by simp [Tr.rest])
        refine ⟨some a, _, p, kvs, m2, rfl, r1, r2, r3, .inl rfl, hQ2 _ _ rfl ?_⟩
        walk_at "b"
        walk_at "z"
        refine ex_app1 rfl (by simp) ?_
        walk_at "z"
        refine ite_kT (enc_ty b) ?_
        walk_at "z"
        refine ⟨⟨by simp [borsW], by simp [borsW]⟩, fun Q2 hQ2 _ => ?_⟩
        obtain ⟨m2, r1, r2, r3⟩ := rec1 b hok.2 (by simp [Tr.rest])
        refine ⟨some b, _, p, kvs, m2, rfl, r1, r2, r3, .inl rfl, hQ2 _ _ rfl ?_⟩
        walk_at "b"
        walk_at "z"
        refine ex_app1 rfl (by simp) ?_
        walk_at "z"
        rw [hout]
        exact q
      | cmp op a b =>
        rw [show (Tr.cmp op a b).enc = .tuple [.str "cmp", .str op, a.enc, b.enc] from rfl] at hout ⊢
        walk_at "z"
        refine ex_app1 rfl (by simp) ?_
        walk_at "z"
        refine ex_app1 rfl (by simp) ?_
        walk_at "z"
        refine ite_kT (enc_ty a) ?_
        walk_at "z"
        refine ⟨⟨by simp [borsW], by simp [borsW]⟩, fun Q2 hQ2 _ => ?_⟩
        obtain ⟨m2, r1, r2, r3⟩ := rec1 a hok.1 (by simp [Tr.rest])
        refine ⟨some a, _, p, kvs, m2, rfl, r1, r2, r3, .inl rfl, hQ2 _ _ rfl ?_⟩
        walk_at "b"
        walk_at "z"
        refine ex_app1 rfl (by simp) ?_
        walk_at "z"
        refine ite_kT (enc_ty b) ?_
        walk_at "z"
        refine ⟨⟨by simp [borsW], by simp [borsW]⟩, fun Q2 hQ2 _ => ?_⟩
        obtain ⟨m2, r1, r2, r3⟩ := rec1 b hok.2 (by simp [Tr.rest])
        refine ⟨some b, _, p, kvs, m2, rfl, r1, r2, r3, .inl rfl, hQ2 _ _ rfl ?_⟩
        walk_at "b"
        walk_at "z"
        refine ex_app1 rfl (by simp) ?_
        walk_at "z"
        rw [hout]
        exact q
end
section
variable {x : Bx} {δ : Dl} {i : Nat} {Pd : Dl → Prop}
theorem Bx.To.refl {x : Bx} (h : x.Ok) : x.To x := ⟨rfl, h⟩
theorem Bx.Ta.to {x y : Bx} (h : x.Ta y) : x.To y := ⟨h.b, h.ok⟩
theorem Bx.Ta.trans {x y z : Bx} (h : x.Ta y) (h2 : y.Ta z) : x.Ta z := ⟨h2.b.trans h.b, h2.ok, h2.ag.trans h.ag⟩
theorem Bx.To.trans {x y z : Bx} (h : x.To y) (h2 : y.To z) : x.To z := ⟨h2.b.trans h.b, h2.ok⟩
theorem box_has (h : δ[i]? = some (boxS x)) (ok : x.Ok) : Has δ x.b (.lst [.dt (.list (x.row.map .int)), .dt (.int (x.turn : Int)), .dt (.bool x.plain), .dt (.int x.signs), .rf x.g]) := ⟨i, x.b, x.L, 0, h, ok.h0⟩
theorem box_hasA (h : δ[i]? = some (boxS x)) (ok : x.Ok) : Has δ x.g (.lst ((x.aggs.map Tr.enc).map .dt)) := ⟨i, x.b, x.L, x.n + 1, h, ok.hn⟩
theorem box_put {k : Nat} {n : Int} {r : RV} {M : Lf} (h : δ[i]? = some (boxS x)) (ok : x.Ok) (hn : ixN 5 n = some k)
    (q : Pd (δ.set i (.ow x.b (OD.rg (x.L.set 0 (x.b, .lst (([.dt (.list (x.row.map .int)), .dt (.int (x.turn : Int)), .dt (.bool x.plain), .dt (.int x.signs), .rf x.g] : List RV).set k r)) ++ M))))) :
    ∃ a rs n' k, RV.rf x.b = .rf a ∧ PyData.int n = .int n' ∧ ixN rs.length n' = some k ∧ Put δ a (.lst rs) (.lst (rs.set k r)) M Pd :=
  ⟨x.b, [.dt (.list (x.row.map .int)), .dt (.int (x.turn : Int)), .dt (.bool x.plain), .dt (.int x.signs), .rf x.g], n, k, rfl, rfl, hn, i, x.b, x.L, 0, h, ok.h0, q⟩
theorem len_L (ok : x.Ok) : x.n + 1 < x.L.length := lt_of_get ok.hn
theorem head_ok (ok : x.Ok) (turn : Nat) (plain : Bool) (signs : Int) : (Bx.mk x.b x.g (x.L.set 0 (x.b, .lst [.dt (.list (x.row.map .int)), .dt (.int (turn : Int)), .dt (.bool plain), .dt (.int signs), .rf x.g])) x.n x.row turn plain signs x.aggs).Ok where
  h0 := List.getElem?_set_self (by have := len_L ok; omega)
  hn := by
    show (x.L.set 0 _)[x.n + 1]? = _
    rw [List.getElem?_set_ne (by omega)]
    exact ok.hn
  few := ok.few
  ag := ok.ag
end
theorem rp_law_take (as : List SD) (Q : RS → List SD → Prop) (h : sp_law_take as Q) : rd_law_take { nx := fun δ => Q (.dt .none) (outs as δ), rt := fun d δ => Q d (outs as δ) } (startD 2 as) := by
  obtain ⟨x, m, rfl, ok, hm, q⟩ := h
  show rd_law_take _ [boxS x, .dt (.int m)]
  unfold rd_law_take
  walk_at "y"
  refine ex_ixR (z := .dt (.int (x.turn : Int))) (box_has (i := 0) rfl ok) rfl ?_
  walk_at "y"
  refine box_put (i := 0) (k := 1) rfl ok rfl ?_
  have ok1 := head_ok ok (x.turn + 1) x.plain x.signs
  rw [List.append_nil]
  walk_at "y"
  have e1 : ((x.turn : Int) + 1) = ((x.turn + 1 : Nat) : Int) := by omega
  rw [e1]
  refine ex_ixR (z := .dt (.int ((x.turn + 1 : Nat) : Int))) (box_has (i := 0) (x := Bx.mk x.b x.g _ x.n x.row (x.turn + 1) x.plain x.signs x.aggs) rfl ok1) rfl ?_
  walk_at "y"
  refine ex_ixR (z := .dt (.list (x.row.map .int))) (box_has (i := 0) (x := Bx.mk x.b x.g _ x.n x.row (x.turn + 1) x.plain x.signs x.aggs) rfl ok1) rfl ?_
  walk_at "y"
  refine ite_dec (fun h1 => ?_) (fun h1 => ?_)
  · walk_at "y"
    walk_at "o"
    exact q 0 (Bx.mk x.b x.g _ x.n x.row (x.turn + 1) x.plain x.signs x.aggs) (by omega) hm ⟨rfl, ok1, rfl⟩
  · walk_at "y"
    refine ex_ixR (z := .dt (.list (x.row.map .int))) (box_has (i := 0) (x := Bx.mk x.b x.g _ x.n x.row (x.turn + 1) x.plain x.signs x.aggs) rfl ok1) rfl ?_
    walk_at "y"
    refine ex_ixR (z := .dt (.int ((x.turn + 1 : Nat) : Int))) (box_has (i := 0) (x := Bx.mk x.b x.g _ x.n x.row (x.turn + 1) x.plain x.signs x.aggs) rfl ok1) rfl ?_
    walk_at "y"
    rw [List.length_map] at h1
    have hl : x.turn < x.row.length := by omega
    refine st_ixL (d := .int x.row[x.turn]) (by
      rw [show ((x.turn + 1 : Nat) : Int) - 1 = ((x.turn : Nat) : Int) by omega, atI_cast, List.getElem?_map, List.getElem?_eq_getElem hl]
      rfl) ?_
    walk_at "y"
    refine st_mod hm ?_
    walk_at "o"
    exact q _ (Bx.mk x.b x.g _ x.n x.row (x.turn + 1) x.plain x.signs x.aggs) (Int.emod_nonneg _ (by omega)) (Int.emod_lt_of_pos _ hm) ⟨rfl, ok1, rfl⟩
theorem rp_law_begun (as : List SD) (Q : RS → List SD → Prop) (h : sp_law_begun as Q) : rd_law_begun { nx := fun δ => Q (.dt .none) (outs as δ), rt := fun d δ => Q d (outs as δ) } (startD 3 as) := by
  obtain ⟨x, b, s, rfl, ok, q⟩ := h
  show rd_law_begun _ [boxS x, .dt (.bool b), .dt (.int s)]
  unfold rd_law_begun
  walk_at "y"
  refine box_put (i := 0) (k := 2) rfl ok rfl ?_
  have ok1 := head_ok ok x.turn b x.signs
  rw [List.append_nil]
  walk_at "y"
  refine box_put (i := 0) (k := 3) (x := Bx.mk x.b x.g _ x.n x.row x.turn b x.signs x.aggs) rfl ok1 rfl ?_
  have ok2 := head_ok ok1 x.turn b s
  rw [List.append_nil]
  walk_at "y"
  rename_i g
  refine box_put (i := 0) (k := 4) (x := Bx.mk x.b x.g _ x.n x.row x.turn b s x.aggs) rfl ok2 rfl ?_
  walk_at "o"
  have hl := len_L ok
  refine q ⟨x.b, g, _, x.L.length - 1, x.row, x.turn, b, s, []⟩ ⟨rfl, ?_⟩
  refine ⟨?_, ?_, Nat.zero_le _, fun t ht => by simp at ht⟩
  · rw [List.getElem?_append_left (by simp only [List.length_set]; omega), List.getElem?_set_self (by simp only [List.length_set]; omega)]
  · rw [List.getElem?_append_right (by simp only [List.length_set]; omega)]
    simp only [List.length_set, List.nil_append]
    rw [show x.L.length - 1 + 1 - x.L.length = 0 by omega]
    rfl
theorem take_ok {x : Bx} {δ : Dl} {i : Nat} {m : Int} {k : D → Dl → Prop} (h : δ[i]? = some (boxS x)) (ok : x.Ok) (hm : 0 < m) (q : ∀ (r : Nat) (y : Bx), (r : Int) < m → x.Ta y → k (.int (r : Int)) (δ.set i (boxS y))) :
    CallOk [.sl i, .dt (.int m)] δ ∧ ∀ Q2 : RS → List SD → Prop, (∀ d as', as'.length = ([.sl i, .dt (.int m)] : List Ev).length → BackW [.sl i, .dt (.int m)] as' δ (k d) → Q2 (.dt d) as') → (∀ e as', as'.length = ([.sl i, .dt (.int m)] : List Ev).length → BackW [.sl i, .dt (.int m)] as' δ (xNo e) → Q2 (.exn e) as') → sp_law_take (([.sl i, .dt (.int m)] : List Ev).map (resW δ)) Q2 := by
  refine ⟨⟨by simp [borsW], fun j hj => ?_⟩, fun Q2 hQ2 _ => ⟨x, m, ?_, ok, hm, fun r y h0 h1 hy => hQ2 _ _ rfl ?_⟩⟩
  · simp [borsW] at hj
    subst hj
    exact lt_of_get h
  · show [(δ[i]?).getD .un, _] = _
    rw [h]
    rfl
  · show k (.int r) (δ.set i (boxS y))
    obtain ⟨n, rfl⟩ : ∃ n : Nat, r = (n : Int) := ⟨r.toNat, by omega⟩
    exact q n y h1 hy
theorem box_call {dsp : DSp} {δ : Dl} {i : Nat} {x : Bx} {k : D → Dl → Prop} (h : δ[i]? = some (boxS x)) (q : ∀ Q2 : RS → List SD → Prop, (∀ d (y : Bx), k d (δ.set i (boxS y)) → Q2 (.dt d) [boxS y]) → dsp [boxS x] Q2) :
    CallOk [.sl i] δ ∧ ∀ Q2 : RS → List SD → Prop, (∀ d as', as'.length = ([.sl i] : List Ev).length → BackW [.sl i] as' δ (k d) → Q2 (.dt d) as') → (∀ e as', as'.length = ([.sl i] : List Ev).length → BackW [.sl i] as' δ (xNo e) → Q2 (.exn e) as') → dsp (([.sl i] : List Ev).map (resW δ)) Q2 := by
  refine ⟨⟨by simp [borsW], fun j hj => ?_⟩, fun Q2 hQ2 _ => ?_⟩
  · simp [borsW] at hj
    subst hj
    exact lt_of_get h
  · have e : ([.sl i] : List Ev).map (resW δ) = [boxS x] := by
      show [(δ[i]?).getD .un] = _
      rw [h]
      rfl
    rw [e]
    exact q Q2 fun d y hk => hQ2 _ _ rfl hk
theorem box_call1 {dsp : DSp} {δ : Dl} {i : Nat} {x : Bx} {a : D} {k : D → Dl → Prop} (h : δ[i]? = some (boxS x)) (q : ∀ Q2 : RS → List SD → Prop, (∀ d (y : Bx), k d (δ.set i (boxS y)) → Q2 (.dt d) [boxS y, .un]) → dsp [boxS x, .dt a] Q2) :
    CallOk [.sl i, .dt a] δ ∧ ∀ Q2 : RS → List SD → Prop, (∀ d as', as'.length = ([.sl i, .dt a] : List Ev).length → BackW [.sl i, .dt a] as' δ (k d) → Q2 (.dt d) as') → (∀ e as', as'.length = ([.sl i, .dt a] : List Ev).length → BackW [.sl i, .dt a] as' δ (xNo e) → Q2 (.exn e) as') → dsp (([.sl i, .dt a] : List Ev).map (resW δ)) Q2 := by
  refine ⟨⟨by simp [borsW], fun j hj => ?_⟩, fun Q2 hQ2 _ => ?_⟩
  · simp [borsW] at hj
    subst hj
    exact lt_of_get h
  · have e : ([.sl i, .dt a] : List Ev).map (resW δ) = [boxS x, .dt a] := by
      show [(δ[i]?).getD .un, _] = _
      rw [h]
      rfl
    rw [e]
    exact q Q2 fun d y hk => hQ2 _ _ rfl hk
theorem at3 {a b c : D} {r : Nat} (h : (r : Int) < 3) : ∃ d, atI [a, b, c] (r : Int) = some d ∧ (d = a ∨ d = b ∨ d = c) := by
  rw [atI_cast]
  match r, h with
  | 0, _ => exact ⟨a, rfl, .inl rfl⟩
  | 1, _ => exact ⟨b, rfl, .inr (.inl rfl)⟩
  | 2, _ => exact ⟨c, rfl, .inr (.inr rfl)⟩
  | n + 3, h => omega
theorem at_str {ss : List Str} {j : Int} (h0 : 0 ≤ j) (h1 : j < ss.length) : ∃ s, s ∈ ss ∧ atI (ss.map PyData.str) j = some (.str s) := by
  obtain ⟨n, rfl⟩ : ∃ n : Nat, j = (n : Int) := ⟨j.toNat, by omega⟩
  have hn : n < ss.length := by omega
  exact ⟨ss[n], List.getElem_mem hn, by rw [atI_cast, List.getElem?_map, List.getElem?_eq_getElem hn]; rfl⟩
theorem rp_law_col (as : List SD) (Q : RS → List SD → Prop) (h : sp_law_col as Q) : rd_law_col { nx := fun δ => Q (.dt .none) (outs as δ), rt := fun d δ => Q d (outs as δ) } (startD 2 as) := by
  obtain ⟨x, rfl, ok, q⟩ := h
  show rd_law_col _ [boxS x, .un]
  unfold rd_law_col
  have two : ∀ a b : D, Atom a → Atom b → ColOk [a, b] := fun a b ha hb => ⟨by simp, fun d hd => by simp at hd; rcases hd with rfl | rfl <;> assumption⟩
  walk_at "y"
  refine take_ok (i := 0) rfl ok (by omega) fun r y1 hr hy1 => ?_
  walk_at "y"
  have named : ∀ (y1 : Bx), x.Ta y1 → (sRet (dTup (dCons (dC (.str "col")) (dCons (dOp ixD (dN (dLst (dCons (dC (.str "t")) (dCons (dC (.str "s")) dNil)))) (dOp modD (dCall toIntD (dCons (dVar 1) dNil)) (dC (.int 2)))) (dCons (dOp ixD (dN (dLst (dCons (dC (.str "a")) (dCons (dC (.str "b")) (dCons (dC (.str "s")) dNil))))) (dCallQ xNo sp_law_take (wLend 0 (wCons (dC (.int 3)) wNil)))) dNil))))) { nx := fun δ => Q (.dt .none) (outs [boxS x] δ), rt := fun d δ => Q d (outs [boxS x] δ) } [boxS y1, .dt (.int (r : Int))] := by
    intro y1 hy1
    walk_at "y"
    obtain ⟨s1, _, e1⟩ := at_str (ss := ["t", "s"]) (j := (r : Int) % 2) (by omega) (by show _ < 2; omega)
    refine st_ixL e1 ?_
    walk_at "y"
    refine take_ok (i := 0) rfl hy1.ok (by omega) fun r2 y2 hr2 hy2 => ?_
    obtain ⟨s2, _, e2⟩ := at_str (ss := ["a", "b", "s"]) (j := (r2 : Int)) (by omega) (by show _ < 3; omega)
    refine st_ixL e2 ?_
    walk_at "y"
    have hb := (hy1.trans hy2).b
    have e3 : outs [boxS x] [boxS y2, .dt (.int (r : Int))] = [boxS y2] := by
      simp [outs, oneOut, hb]
    rw [e3]
    exact q [.str s1, .str s2] y2 (two _ _ (.inr ⟨_, rfl⟩) (.inr ⟨_, rfl⟩)) (hy1.trans hy2)
  have out : ∀ (y : Bx) (s : SD), x.Ta y → outs [boxS x] [boxS y, s] = [boxS y] := fun y s hy => by simp [outs, oneOut, hy.b]
  have numbered : ∀ (y1 : Bx), x.Ta y1 → (sSeq (sIf (dTest (dOp ltD (dVar 1) (dC (.int 6)))) (sRet (dTup (dCons (dC (.str "col")) (dCons (dCallQ xNo sp_law_take (wLend 0 (wCons (dC (.int 4)) wNil))) (dCons (dCallQ xNo sp_law_take (wLend 0 (wCons (dC (.int 3)) wNil))) dNil))))) sNext) (sSeq (sIf (dTest (dOp eqD (dVar 1) (dC (.int 6)))) (sRet (dTup (dCons (dC (.str "col")) (dCons (dCallQ xNo sp_law_take (wLend 0 (wCons (dC (.int 4)) wNil))) dNil)))) sNext) (sRet (dTup (dCons (dC (.str "col")) (dCons (dOp addD (dC (.str "u")) (dCall strD (dCons (dCallQ xNo sp_law_take (wLend 0 (wCons (dC (.int 720720)) wNil))) dNil))) (dCons (dC (.str "a")) dNil))))))) { nx := fun δ => Q (.dt .none) (outs [boxS x] δ), rt := fun d δ => Q d (outs [boxS x] δ) } [boxS y1, .dt (.int (r : Int))] := by
    intro y1 hy1
    walk_at "y"
    refine ite_dec (fun h1 => ?_) (fun h1 => ?_)
    · walk_at "y"
      refine take_ok (i := 0) rfl hy1.ok (by omega) fun r2 y2 hr2 hy2 => ?_
      walk_at "y"
      refine take_ok (i := 0) rfl hy2.ok (by omega) fun r3 y3 hr3 hy3 => ?_
      walk_at "y"
      have hy := (hy1.trans hy2).trans hy3
      rw [out y3 _ hy]
      exact q [.int r2, .int r3] y3 (two _ _ (.inl ⟨_, rfl⟩) (.inl ⟨_, rfl⟩)) hy
    · walk_at "y"
      refine ite_dec (fun h2 => ?_) (fun h2 => ?_)
      · walk_at "y"
        refine take_ok (i := 0) rfl hy1.ok (by omega) fun r2 y2 hr2 hy2 => ?_
        walk_at "y"
        rw [out y2 _ (hy1.trans hy2)]
        exact q [.int r2] y2 ⟨by simp, fun d hd => by simp at hd; subst hd; exact .inl ⟨_, rfl⟩⟩ (hy1.trans hy2)
      · walk_at "y"
        refine take_ok (i := 0) rfl hy1.ok (by omega) fun r2 y2 hr2 hy2 => ?_
        walk_at "y"
        have hlog20 : (r2 : Int).natAbs.log2 < 20 := by
          rw [Int.natAbs_natCast]
          by_cases h0 : r2 = 0
          · subst h0; decide
          · exact (Nat.log2_lt h0).mpr (by omega)
        have hlog : (r2 : Int).natAbs.log2 < 1920 := by omega
        refine ⟨?_, ?_⟩
        · exact hlog
        · walk_at "y"
          refine ⟨?_, ?_⟩
          · have e := int_text_length_le (k := 20) (by decide) hlog20
            rw [PySem.ofString_length, PySem.ofString_length]
            have : ("u" : String).length = 1 := rfl
            omega
          · walk_at "y"
            rw [out y2 _ (hy1.trans hy2)]
            exact q [.str _, .str "a"] y2 (two _ _ (.inr ⟨_, rfl⟩) (.inr ⟨_, rfl⟩)) (hy1.trans hy2)
  refine ite_dec (fun h1 => ?_) (fun h1 => ?_)
  · exact named y1 hy1
  · walk_at "y"
    refine ex_ixR (z := .dt (.bool y1.plain)) (box_has (i := 0) rfl hy1.ok) rfl ?_
    refine ⟨_, rfl, _, rfl, ?_⟩
    refine ite_b (fun hp => ?_) (fun hp => ?_)
    · walk_at "1"
      walk_at "1"
      walk_at "1"
      walk_at "1"
      walk_at "1"
      refine ⟨_, rfl, ?_⟩
      refine ite_dec (fun h2 => ?_) (fun h2 => ?_)
      · exact named y1 hy1
      · exact numbered y1 hy1
    · exact numbered y1 hy1
theorem Bx.To.out {x y : Bx} (h : x.To y) : oneOut (boxS x) (boxS y) = boxS y := by
  show (if x.b = y.b then _ else _) = _
  rw [if_pos h.b.symm]
theorem rp_law_agg (as : List SD) (Q : RS → List SD → Prop) (h : sp_law_agg as Q) : rd_law_agg { nx := fun δ => Q (.dt .none) (outs as δ), rt := fun d δ => Q d (outs as δ) } (startD 3 as) := by
  obtain ⟨x, rfl, ok, q⟩ := h
  show rd_law_agg _ [boxS x, .un, .un]
  unfold rd_law_agg
  have out : ∀ (y : Bx) (s s2 : SD), x.To y → outs [boxS x] [boxS y, s, s2] = [boxS y] := fun y s s2 hy => by simp only [outs, hy.out]
  walk_at "y"
  refine take_ok (i := 0) rfl ok (by omega) fun r y1 hr hy1 => ?_
  walk_at "y"
  refine ex_ixR (z := .rf y1.g) (box_has (i := 0) rfl hy1.ok) rfl ?_
  refine ⟨y1.g, _, rfl, box_hasA (i := 0) rfl hy1.ok, ?_⟩
  rw [List.length_map, List.length_map]
  walk_at "y"
  refine ite_dec (fun h1 => ?_) (fun h1 => ?_)
  · walk_at "y"
    refine ex_ixR (z := .rf y1.g) (box_has (i := 0) rfl hy1.ok) rfl ?_
    walk_at "y"
    obtain ⟨j, hj, hj2⟩ : ∃ j : Nat, (1 : Int) + (r : Int) % 3 = (j : Int) ∧ j < 4 := ⟨((1 : Int) + (r : Int) % 3).toNat, by omega, by omega⟩
    rw [hj]
    have hl : j < y1.aggs.length := by omega
    have hm := List.getElem_mem hl
    refine ex_ixR (z := .dt (y1.aggs[j]).enc) (box_hasA (i := 0) rfl hy1.ok) (by rw [atI_cast, List.getElem?_map, List.getElem?_map, List.getElem?_eq_getElem hl]; rfl) ?_
    walk_at "y"
    rw [out y1 _ _ hy1.to]
    exact q _ y1 (hy1.ok.ag _ hm).1 (hy1.ok.ag _ hm).2 hy1.to
  · walk_at "y"
    obtain ⟨f, _, e1⟩ := at_str (ss := ["count", "sum", "min", "max"]) (j := if (r : Int) - 2 > 0 then (r : Int) - 2 else 0) (by split <;> omega) (by show _ < 4; split <;> omega)
    refine st_ixL e1 ?_
    walk_at "y"
    refine box_call (i := 0) rfl fun Q2 hQ2 => ⟨y1, rfl, hy1.ok, fun ds y2 hds hy2 => hQ2 _ _ ?_⟩
    walk_at "u"
    have hy12 := (hy1.trans hy2).to
    have hl2 : y2.aggs.length ≤ 3 := by rw [hy2.ag]; omega
    refine st_ifJ (fun δ => ∃ (t : Tr) (y3 : Bx), δ = [boxS y3, .dt (.int (r : Int)), .dt t.enc] ∧ t.isAgg = true ∧ t.Ok ∧ x.To y3 ∧ y3.aggs.length ≤ 3) (fun N hN => ?_) fun δ' ⟨t, y3, e, ht, htok, hy3, hlen⟩ => ?_
    · have ag1 : Tr.isAgg (.agg1 f ds) = true := rfl
      refine st_if ?_
      walk_at "u"
      refine ite_dec (fun h2 => ?_) (fun h2 => ?_)
      · walk_at "u"
        refine ex_ixR (z := .dt (.int y2.signs)) (box_has (i := 0) rfl hy2.ok) rfl ?_
        walk_at "u"
        refine ite_dec (fun h3 => ?_) (fun h3 => ?_)
        · walk_at "u"
          refine ex_ixR (z := .rf y2.g) (box_has (i := 0) rfl hy2.ok) rfl ?_
          walk_at "u"
          refine ⟨y2.g, _, rfl, box_hasA (i := 0) rfl hy2.ok, ?_⟩
          walk_at "u"
          refine ite_dec (fun h4 => ?_) (fun h4 => ?_)
          · walk_at "y"
            refine ex_ixR (z := .dt (.int y2.signs)) (box_has (i := 0) rfl hy2.ok) rfl ?_
            walk_at "y"
            refine box_put (i := 0) (k := 3) rfl hy2.ok rfl ?_
            have ok1 := head_ok hy2.ok y2.turn y2.plain (y2.signs - 1)
            rw [List.append_nil]
            walk_at "y"
            exact hN _ ⟨.agg0, Bx.mk y2.b y2.g _ y2.n y2.row y2.turn y2.plain (y2.signs - 1) y2.aggs, rfl, rfl, trivial, ⟨hy12.b, ok1⟩, hl2⟩
          · walk_at "y"
            exact hN _ ⟨.agg1 f ds, y2, rfl, rfl, hds, hy12, hl2⟩
        · walk_at "y"
          exact hN _ ⟨.agg1 f ds, y2, rfl, rfl, hds, hy12, hl2⟩
      · walk_at "y"
        exact hN _ ⟨.agg1 f ds, y2, rfl, rfl, hds, hy12, hl2⟩
    · subst e
      walk_at "u"
      refine st_ifJ (fun δ => ∃ (t : Tr) (y3 : Bx), δ = [boxS y3, .dt (.int (r : Int)), .dt t.enc] ∧ t.isAgg = true ∧ t.Ok ∧ x.To y3 ∧ y3.aggs.length ≤ 3) (fun N hN => ?_) fun δ' ⟨t, y3, e, ht, htok, hy3, hlen⟩ => ?_
      · refine st_if ?_
        walk_at "u"
        refine ite_dec (fun h2 => ?_) (fun h2 => ?_)
        · walk_at "u"
          refine ex_ixR (z := .dt (.bool y3.plain)) (box_has (i := 0) rfl hy3.ok) rfl ?_
          walk_at "u"
          refine ite_b (fun h3 => ?_) (fun h3 => ?_)
          · walk_at "y"
            refine take_ok (i := 0) rfl hy3.ok (by omega) fun r2 y4 hr2 hy4 => ?_
            walk_at "y"
            exact hN _ ⟨.aggi r2, y4, rfl, rfl, trivial, hy3.trans hy4.to, by rw [hy4.ag]; exact hlen⟩
          · walk_at "y"
            exact hN _ ⟨t, y3, rfl, ht, htok, hy3, hlen⟩
        · walk_at "y"
          exact hN _ ⟨t, y3, rfl, ht, htok, hy3, hlen⟩
      · subst e
        walk_at "y"
        refine ex_ixR (z := .rf y3.g) (box_has (i := 0) rfl hy3.ok) rfl ?_
        walk_at "y"
        refine ⟨y3.g, _, rfl, box_hasA (i := 0) rfl hy3.ok, Nat.le_trans (agg_sm ht htok).depth (by decide), ?_⟩
        refine ⟨_, rfl, ?_⟩
        refine ite_b (fun hb => ?_) (fun hb => ?_)
        · walk_at "y"
          refine ex_ixR (z := .rf y3.g) (box_has (i := 0) rfl hy3.ok) rfl ?_
          walk_at "y"
          refine ex_has (box_hasA (i := 0) rfl hy3.ok) ?_
          walk_at "y"
          refine ⟨_, by rw [List.length_map, List.length_map]; omega, 0, y3.b, y3.L, y3.n + 1, rfl, hy3.ok.hn, ?_⟩
          walk_at "y"
          rw [List.append_nil]
          have hL := len_L hy3.ok
          have ok4 : (Bx.mk y3.b y3.g (y3.L.set (y3.n + 1) (y3.g, .lst ((y3.aggs.map Tr.enc).map .dt ++ [.dt t.enc]))) y3.n y3.row y3.turn y3.plain y3.signs (y3.aggs ++ [t])).Ok := by
            refine ⟨?_, ?_, ?_, ?_⟩
            · show (y3.L.set _ _)[0]? = _
              rw [List.getElem?_set_ne (by omega)]
              exact hy3.ok.h0
            · show (y3.L.set _ _)[y3.n + 1]? = _
              rw [List.getElem?_set_self hL]
              simp
            · show (y3.aggs ++ [t]).length ≤ 4
              rw [List.length_append, List.length_singleton]
              omega
            · intro u hu
              rcases List.mem_append.mp hu with hu | hu
              · exact hy3.ok.ag u hu
              · rw [List.mem_singleton] at hu
                subst hu
                exact ⟨ht, htok⟩
          have hy4 : x.To (Bx.mk y3.b y3.g (y3.L.set (y3.n + 1) (y3.g, .lst ((y3.aggs.map Tr.enc).map .dt ++ [.dt t.enc]))) y3.n y3.row y3.turn y3.plain y3.signs (y3.aggs ++ [t])) := ⟨hy3.b, ok4⟩
          have := out _ (.dt (.int (r : Int))) (.dt t.enc) hy4
          rw [this]
          exact q t _ ht htok hy4
        · walk_at "y"
          rw [out y3 _ _ hy3]
          exact q t y3 ht htok hy3
theorem es_succ (k : Nat) : es (k + 1) = 2 * es k + 1 := by
  unfold es
  have : 0 < 2 ^ k := Nat.two_pow_pos k
  rw [Nat.pow_succ]
  omega
theorem es_two (k : Nat) : 2 ≤ es k := by
  unfold es
  have : 0 < 2 ^ k := Nat.two_pow_pos k
  omega
theorem cs_succ (k : Nat) : cs (k + 1) = 2 * cs k + 1 := by
  unfold cs
  have : 0 < 2 ^ k := Nat.two_pow_pos k
  rw [Nat.pow_succ]
  omega
theorem cs_48 (k : Nat) : 48 ≤ cs k := by
  unfold cs
  have : 0 < 2 ^ k := Nat.two_pow_pos k
  omega
theorem sm2 {n : Nat} {a b : D} (ha : Sm n a) (hb : Sm n b) : Sm (n + 1) (.tuple [a, b]) := .tup (by simp) fun x hx => by simp at hx; rcases hx with rfl | rfl <;> assumption
theorem sm3 {n : Nat} {a b c : D} (ha : Sm n a) (hb : Sm n b) (hc : Sm n c) : Sm (n + 1) (.tuple [a, b, c]) := .tup (by simp) fun x hx => by simp at hx; rcases hx with rfl | rfl | rfl <;> assumption
theorem sm4 {n : Nat} {a b c d : D} (ha : Sm n a) (hb : Sm n b) (hc : Sm n c) (hd : Sm n d) : Sm (n + 1) (.tuple [a, b, c, d]) := .tup (by simp) fun x hx => by simp at hx; rcases hx with rfl | rfl | rfl | rfl <;> assumption
theorem expr_col {ds : List D} (k : Nat) (h : ColOk ds) : ExprOk k (.col ds) := ⟨h, (colE_sm h).mono (by omega), by have := es_two k; show 1 ≤ _; omega, by show 1 ≤ _; omega⟩
theorem expr_agg {t : Tr} (k : Nat) (h : t.isAgg = true) (ok : t.Ok) : ExprOk k t := by
  refine ⟨ok, (agg_sm h ok).mono (by omega), ?_, ?_⟩
  · have := es_two k
    cases t <;> first | (cases h; done) | (simp only [Tr.size]; omega)
  · cases t <;> first | (cases h; done) | (simp only [Tr.hgt]; omega)
theorem expr_num (k : Nat) (i : Int) : ExprOk k (.num i) := ⟨trivial, (sm2 (n := 0) (.str _) (.int _)).mono (by omega), by have := es_two k; show 1 ≤ _; omega, by show 1 ≤ _; omega⟩
theorem expr_text (k : Nat) (s : Str) : ExprOk k (.text s) := ⟨trivial, (sm2 (n := 0) (.str _) (.str _)).mono (by omega), by have := es_two k; show 1 ≤ _; omega, by show 1 ≤ _; omega⟩
theorem expr_un {k : Nat} {w : Un} {t : Tr} (h : ExprOk k t) : ExprOk (k + 1) (.un w t) := ⟨h.ok, (sm2 (.str _) h.sm).mono (by omega), by
  have := h.size
  rw [es_succ]
  simp only [Tr.size]
  omega, by
  have := h.hgt
  simp only [Tr.hgt]
  omega⟩
theorem expr_bi {k : Nat} {w : Bi} {a b : Tr} (ha : ExprOk k a) (hb : ExprOk k b) : ExprOk (k + 1) (.bi w a b) := ⟨⟨ha.ok, hb.ok⟩, (sm3 (.str _) ha.sm hb.sm).mono (by omega), by
  have := ha.size
  have := hb.size
  rw [es_succ]
  simp only [Tr.size]
  omega, by
  have := ha.hgt
  have := hb.hgt
  simp only [Tr.hgt]
  omega⟩
theorem cond_un {k : Nat} {w : Un} {t : Tr} (h : CondOk k t) : CondOk (k + 1) (.un w t) := ⟨h.ok, (sm2 (.str _) h.sm).mono (by omega), by
  have := h.size
  rw [cs_succ]
  simp only [Tr.size]
  omega, by
  have := h.hgt
  simp only [Tr.hgt]
  omega⟩
theorem cond_bi {k : Nat} {w : Bi} {a b : Tr} (ha : CondOk k a) (hb : CondOk k b) : CondOk (k + 1) (.bi w a b) := ⟨⟨ha.ok, hb.ok⟩, (sm3 (.str _) ha.sm hb.sm).mono (by omega), by
  have := ha.size
  have := hb.size
  rw [cs_succ]
  simp only [Tr.size]
  omega, by
  have := ha.hgt
  have := hb.hgt
  simp only [Tr.hgt]
  omega⟩
theorem Bx.To.out2 {x y : Bx} (h : x.To y) (a : D) (ss : List SD) (s : SD) (hs : oneOut (.dt a) s = .un) : outs [boxS x, .dt a] (boxS y :: s :: ss) = [boxS y, .un] := by
  simp only [outs, h.out, hs]
theorem rp_law_expr (n : Nat) (as : List SD) (Q : RS → List SD → Prop) (h : sp_law_expr (n + 1) as Q) : rd_law_expr n { nx := fun δ => Q (.dt .none) (outs as δ), rt := fun d δ => Q d (outs as δ) } (startD 4 as) := by
  obtain ⟨x, k, rfl, ok, hk, q⟩ := h
  show rd_law_expr n _ [boxS x, .dt (.int (k : Int)), .un, .un]
  unfold rd_law_expr
  have fin : ∀ (t : Tr) (y : Bx) (s2 s3 : SD), ExprOk k t → x.To y → Q (.dt t.enc) (outs [boxS x, .dt (.int (k : Int))] [boxS y, .dt (.int (k : Int)), s2, s3]) := fun t y s2 s3 ht hy => by
    rw [hy.out2 _ _ _ rfl]
    exact q t y ht hy
  walk_at "u"
  refine take_ok (i := 0) rfl ok (by omega) fun r y1 hr hy1 => ?_
  walk_at "u"
  have leaf : ∀ (y1 : Bx), x.To y1 → (sSeq (sIf (dTest (dOp eqD (dVar 2) (dC (.int 1)))) (sRet (dTup (dCons (dC (.str "num")) (dCons (dCallQ xNo sp_law_take (wLend 0 (wCons (dC (.int 720720)) wNil))) dNil)))) sNext) (sSeq (sIf (dTest (dOp eqD (dVar 2) (dC (.int 2)))) (sRet (dTup (dCons (dC (.str "text")) (dCons (dOp ixD (dN (dLst (dCons (dC (.str "")) (dCons (dC (.str "col")) (dCons (dC (.str "agg")) (dCons (dC (.str "t")) (dCons (dC (.str "count")) (dCons (dC (.str "and")) (dCons (dC (.str "exists")) (dCons (dC (.str "in")) dNil)))))))))) (dCallQ xNo sp_law_take (wLend 0 (wCons (dC (.int 8)) wNil)))) dNil)))) sNext) (sSeq (sIf (dTest (dOp gtD (dVar 2) (dC (.int 4)))) (sRet (dCallQ xNo sp_law_agg (wLend 0 wNil))) sNext) (sRet (dCallQ xNo sp_law_col (wLend 0 wNil)))))) { nx := fun δ => Q (.dt .none) (outs [boxS x, .dt (.int (k : Int))] δ), rt := fun d δ => Q d (outs [boxS x, .dt (.int (k : Int))] δ) } [boxS y1, .dt (.int (k : Int)), .dt (.int (r : Int)), .un] := by
    intro y1 hy1
    walk_at "y"
    refine ite_dec (fun h1 => ?_) (fun h1 => ?_)
    · walk_at "y"
      refine take_ok (i := 0) rfl hy1.ok (by omega) fun r2 y2 hr2 hy2 => ?_
      walk_at "y"
      exact fin (.num r2) y2 _ _ (expr_num _ _) (hy1.trans hy2.to)
    · walk_at "y"
      refine ite_dec (fun h2 => ?_) (fun h2 => ?_)
      · walk_at "y"
        refine take_ok (i := 0) rfl hy1.ok (by omega) fun r2 y2 hr2 hy2 => ?_
        obtain ⟨s, _, e1⟩ := at_str (ss := ["", "col", "agg", "t", "count", "and", "exists", "in"]) (j := (r2 : Int)) (by omega) (by show _ < 8; omega)
        refine st_ixL e1 ?_
        walk_at "y"
        exact fin (.text s) y2 _ _ (expr_text _ _) (hy1.trans hy2.to)
      · walk_at "y"
        refine ite_dec (fun h3 => ?_) (fun h3 => ?_)
        · walk_at "y"
          refine box_call (i := 0) rfl fun Q2 hQ2 => ⟨y1, rfl, hy1.ok, fun t y2 ha hok hy2 => hQ2 _ _ ?_⟩
          exact fin t y2 _ _ (expr_agg _ ha hok) (hy1.trans hy2)
        · walk_at "y"
          refine box_call (i := 0) rfl fun Q2 hQ2 => ⟨y1, rfl, hy1.ok, fun ds y2 hok hy2 => hQ2 _ _ ?_⟩
          exact fin (.col ds) y2 _ _ (expr_col _ hok) (hy1.trans hy2.to)
  refine st_if ?_
  walk_at "u"
  refine ite_dec (fun h1 => ?_) (fun h1 => ?_)
  · walk_at "u"
    refine ite_dec (fun h2 => ?_) (fun h2 => ?_)
    · walk_at "u"
      refine ex_ixR (z := .dt (.int y1.signs)) (box_has (i := 0) rfl hy1.ok) rfl ?_
      walk_at "u"
      refine ite_dec (fun h3 => ?_) (fun h3 => ?_)
      · obtain ⟨k', rfl⟩ : ∃ k', k = k' + 1 := ⟨k - 1, by omega⟩
        have ek : ((k' + 1 : Nat) : Int) - 1 = (k' : Int) := by omega
        walk_at "y"
        refine ex_ixR (z := .dt (.int y1.signs)) (box_has (i := 0) rfl hy1.ok) rfl ?_
        walk_at "y"
        refine box_put (i := 0) (k := 3) rfl hy1.ok rfl ?_
        have ok1 := head_ok hy1.ok y1.turn y1.plain (y1.signs - 1)
        rw [List.append_nil]
        have hy2 : x.To (Bx.mk y1.b y1.g (y1.L.set 0 (y1.b, .lst [.dt (.list (y1.row.map .int)), .dt (.int (y1.turn : Int)), .dt (.bool y1.plain), .dt (.int (y1.signs - 1)), .rf y1.g])) y1.n y1.row y1.turn y1.plain (y1.signs - 1) y1.aggs) := ⟨hy1.b, ok1⟩
        walk_at "y"
        refine ite_dec (fun h4 => ?_) (fun h4 => ?_)
        · walk_at "y"
          rw [ek]
          refine box_call1 (i := 0) (x := Bx.mk y1.b y1.g _ y1.n y1.row y1.turn y1.plain (y1.signs - 1) y1.aggs) rfl fun Q2 hQ2 => ⟨_, k', rfl, ok1, by omega, fun t y3 ht hy3 => hQ2 _ _ ?_⟩
          walk_at "y"
          exact fin (.un .neg t) y3 _ _ (expr_un ht) (hy2.trans hy3)
        · walk_at "y"
          rw [ek]
          refine box_call1 (i := 0) (x := Bx.mk y1.b y1.g _ y1.n y1.row y1.turn y1.plain (y1.signs - 1) y1.aggs) rfl fun Q2 hQ2 => ⟨_, k', rfl, ok1, by omega, fun a y3 ha hy3 => hQ2 _ _ ?_⟩
          walk_at "y"
          obtain ⟨s, hs, e1⟩ := at_str (ss := ["add", "sub", "mul", "add"]) (j := (r : Int) - 8) (by omega) (by show _ < 4; omega)
          refine st_ixL e1 ?_
          walk_at "y"
          rw [ek]
          have hy23 := hy2.trans hy3
          refine box_call1 (i := 0) rfl fun Q2 hQ2 => ⟨y3, k', rfl, hy3.ok, by omega, fun b y4 hb hy4 => hQ2 _ _ ?_⟩
          walk_at "y"
          obtain ⟨w, hw⟩ : ∃ w : Bi, w.w = s := by
            simp at hs
            rcases hs with rfl | rfl | rfl | rfl
            · exact ⟨.add, rfl⟩
            · exact ⟨.sub, rfl⟩
            · exact ⟨.mul, rfl⟩
            · exact ⟨.add, rfl⟩
          have := fin (.bi w a b) y4 (.dt (.int (r : Int))) (.dt a.enc) (expr_bi ha hb) (hy23.trans hy4)
          rw [show (Tr.bi w a b).enc = .tuple [.str w.w, a.enc, b.enc] from rfl, hw] at this
          exact this
      · exact leaf y1 hy1.to
    · exact leaf y1 hy1.to
  · exact leaf y1 hy1.to
theorem sm1 {n : Nat} {a : D} (ha : Sm n a) : Sm (n + 1) (.tuple [a]) := .tup (by simp) fun x hx => by simp at hx; subst hx; assumption
theorem rp_law_question (as : List SD) (Q : RS → List SD → Prop) (h : sp_law_question as Q) : rd_law_question 7 { nx := fun δ => Q (.dt .none) (outs as δ), rt := fun d δ => Q d (outs as δ) } (startD 4 as) := by
  obtain ⟨x, rfl, ok, q⟩ := h
  show rd_law_question 7 _ [boxS x, .un, .un, .un]
  unfold rd_law_question
  have fin : ∀ (d : D) (y : Bx) (s1 s2 s3 : SD), Sm 9 d → x.To y → Q (.dt d) (outs [boxS x] [boxS y, s1, s2, s3]) := fun d y s1 s2 s3 hd hy => by
    rw [show outs [boxS x] [boxS y, s1, s2, s3] = [boxS y] from by simp only [outs, hy.out]]
    exact q d y hd hy
  walk_at "u"
  refine box_call1 (i := 0) rfl fun Q2 hQ2 => ⟨x, 1, rfl, ok, by omega, fun t y1 ht hy1 => hQ2 _ _ ?_⟩
  walk_at "u"
  refine st_ifJ (fun δ => ∃ (d : D) (y2 : Bx), δ = [boxS y2, .dt t.enc, .dt d, .un] ∧ Sm 6 d ∧ x.To y2) (fun N hN => ?_) fun δ' ⟨d, y2, e, hd, hy2⟩ => ?_
  · walk_at "y"
    refine take_ok (i := 0) rfl hy1.ok (by omega) fun r y2 hr hy2 => ?_
    walk_at "y"
    refine ite_dec (fun h1 => ?_) (fun h1 => ?_)
    · walk_at "y"
      refine box_call1 (i := 0) rfl fun Q2 hQ2 => ⟨y2, 1, rfl, hy2.ok, by omega, fun u y3 hu hy3 => hQ2 _ _ ?_⟩
      walk_at "y"
      exact hN _ ⟨_, y3, rfl, sm2 (.str _) hu.sm, (hy1.trans hy2.to).trans hy3⟩
    · walk_at "y"
      exact hN _ ⟨_, y2, rfl, .non, hy1.trans hy2.to⟩
  · subst e
    walk_at "y"
    refine box_call (i := 0) rfl fun Q2 hQ2 => ⟨y2, rfl, hy2.ok, fun ds y3 hok hy3 => hQ2 _ _ ?_⟩
    walk_at "y"
    refine fin _ y3 _ _ _ (.tup (by simp) ?_) (hy2.trans hy3.to)
    intro z hz
    simp at hz
    rcases hz with rfl | rfl | rfl | rfl | rfl | rfl | rfl | rfl | rfl | rfl
    · exact .str _
    · exact .tup (by simp) (by simp)
    · exact .bl _
    · exact (sm1 (sm2 ht.sm (.str _))).mono (by omega)
    · exact (sm1 (n := 3) (.tup (by simp) fun w hw => by
        simp at hw
        rcases hw with rfl | rfl | rfl | rfl
        · exact .str _
        · exact .tup (by simp) fun v hv => by simp at hv; rcases hv with rfl | rfl <;> exact .str _
        · exact .str _
        · exact .non)).mono (by omega)
    · exact hd.mono (by omega)
    · exact (sm1 (colE_sm hok)).mono (by omega)
    · exact .non
    · exact .tup (by simp) (by simp)
    · exact .non
theorem at2 {a b : D} {r : Nat} (h : (r : Int) < 2) : ∃ d, atI [a, b] (r : Int) = some d ∧ (d = a ∨ d = b) := by
  rw [atI_cast]
  match r, h with
  | 0, _ => exact ⟨a, rfl, .inl rfl⟩
  | 1, _ => exact ⟨b, rfl, .inr rfl⟩
  | n + 2, h => omega
theorem rp_law_cond (n : Nat) (as : List SD) (Q : RS → List SD → Prop) (h : sp_law_cond (n + 1) as Q) : rd_law_cond n 7 { nx := fun δ => Q (.dt .none) (outs as δ), rt := fun d δ => Q d (outs as δ) } (startD 9 as) := by
  obtain ⟨x, k, rfl, ok, hk, q⟩ := h
  show rd_law_cond n 7 _ [boxS x, .dt (.int (k : Int)), .un, .un, .un, .un, .un, .un, .un]
  unfold rd_law_cond
  have fin : ∀ (t : Tr) (y : Bx) (s2 s3 s4 s5 s6 s7 s8 : SD), CondOk k t → x.To y → Q (.dt t.enc) (outs [boxS x, .dt (.int (k : Int))] [boxS y, .dt (.int (k : Int)), s2, s3, s4, s5, s6, s7, s8]) := fun t y s2 s3 s4 s5 s6 s7 s8 ht hy => by
    rw [hy.out2 _ _ _ rfl]
    exact q t y ht hy
  walk_at "u"
  refine take_ok (i := 0) rfl ok (by omega) fun r y1 hr hy1 => ?_
  walk_at "u"
  have hc48 := cs_48 k
  refine st_ifJ (fun δ => δ = [boxS y1, .dt (.int (k : Int)), .dt (.int (r : Int)), .un, .un, .un, .un, .un, .un]) (fun N hN => ?_) fun δ' e => ?_
  · refine st_if ?_
    walk_at "u"
    refine ite_dec (fun h1 => ?_) (fun h1 => ?_)
    · walk_at "u"
      refine ite_dec (fun h2 => ?_) (fun h2 => ?_)
      · walk_at "u"
        refine ex_ixR (z := .dt (.int y1.signs)) (box_has (i := 0) rfl hy1.ok) rfl ?_
        walk_at "u"
        refine ite_dec (fun h3 => ?_) (fun h3 => ?_)
        · obtain ⟨k', rfl⟩ : ∃ k', k = k' + 1 := ⟨k - 1, by omega⟩
          have ek : ((k' + 1 : Nat) : Int) - 1 = (k' : Int) := by omega
          walk_at "y"
          refine ex_ixR (z := .dt (.int y1.signs)) (box_has (i := 0) rfl hy1.ok) rfl ?_
          walk_at "y"
          refine box_put (i := 0) (k := 3) rfl hy1.ok rfl ?_
          have ok1 := head_ok hy1.ok y1.turn y1.plain (y1.signs - 1)
          rw [List.append_nil]
          have hy2 : x.To (Bx.mk y1.b y1.g (y1.L.set 0 (y1.b, .lst [.dt (.list (y1.row.map .int)), .dt (.int (y1.turn : Int)), .dt (.bool y1.plain), .dt (.int (y1.signs - 1)), .rf y1.g])) y1.n y1.row y1.turn y1.plain (y1.signs - 1) y1.aggs) := ⟨hy1.b, ok1⟩
          walk_at "y"
          refine take_ok (i := 0) (x := Bx.mk y1.b y1.g _ y1.n y1.row y1.turn y1.plain (y1.signs - 1) y1.aggs) rfl ok1 (by omega) fun r2 y2 hr2 hyy2 => ?_
          have hy2 := hy2.trans hyy2.to
          obtain ⟨s, hs, e1⟩ := at_str (ss := ["and", "or"]) (j := (r2 : Int)) (by omega) (by show _ < 2; omega)
          refine st_ixL e1 ?_
          walk_at "y"
          rw [ek]
          refine box_call1 (i := 0) rfl fun Q2 hQ2 => ⟨y2, k', rfl, hy2.ok, by omega, fun a y3 ha hy3 => hQ2 _ _ ?_⟩
          walk_at "y"
          rw [ek]
          refine box_call1 (i := 0) rfl fun Q2 hQ2 => ⟨y3, k', rfl, hy3.ok, by omega, fun b y4 hb hy4 => hQ2 _ _ ?_⟩
          walk_at "y"
          obtain ⟨w, hw⟩ : ∃ w : Bi, w.w = s := by
            simp at hs
            rcases hs with rfl | rfl
            · exact ⟨.and, rfl⟩
            · exact ⟨.or, rfl⟩
          have := fin (.bi w a b) y4 (.dt (.int (r : Int))) (.dt (.str s)) (.dt a.enc) .un .un .un .un (cond_bi ha hb) ((hy2.trans hy3).trans hy4)
          rw [show (Tr.bi w a b).enc = .tuple [.str w.w, a.enc, b.enc] from rfl, hw] at this
          exact this
        · walk_at "y"
          exact hN _ rfl
      · walk_at "y"
        exact hN _ rfl
    · walk_at "y"
      exact hN _ rfl
  · subst e
    walk_at "u"
    refine st_ifJ (fun δ => δ = [boxS y1, .dt (.int (k : Int)), .dt (.int (r : Int)), .un, .un, .un, .un, .un, .un]) (fun N hN => ?_) fun δ' e => ?_
    · refine st_if ?_
      walk_at "u"
      refine ite_dec (fun h1 => ?_) (fun h1 => ?_)
      · walk_at "u"
        refine ite_dec (fun h2 => ?_) (fun h2 => ?_)
        · obtain ⟨k', rfl⟩ : ∃ k', k = k' + 1 := ⟨k - 1, by omega⟩
          have ek : ((k' + 1 : Nat) : Int) - 1 = (k' : Int) := by omega
          walk_at "y"
          obtain ⟨s, hs, e1⟩ := at_str (ss := ["not", "maybe"]) (j := (r : Int) % 2) (by omega) (by show _ < 2; omega)
          refine st_ixL e1 ?_
          walk_at "y"
          rw [ek]
          refine box_call1 (i := 0) rfl fun Q2 hQ2 => ⟨y1, k', rfl, hy1.ok, by omega, fun a y3 ha hy3 => hQ2 _ _ ?_⟩
          walk_at "y"
          obtain ⟨w, hw⟩ : ∃ w : Un, w.w = s := by
            simp at hs
            rcases hs with rfl | rfl
            · exact ⟨.not, rfl⟩
            · exact ⟨.maybe, rfl⟩
          have := fin (.un w a) y3 (.dt (.int (r : Int))) (.dt (.str s)) .un .un .un .un .un (cond_un ha) (hy1.to.trans hy3)
          rw [show (Tr.un w a).enc = .tuple [.str w.w, a.enc] from rfl, hw] at this
          exact this
        · walk_at "y"
          exact hN _ rfl
      · walk_at "y"
        exact hN _ rfl
    · subst e
      walk_at "u"
      refine st_ifJ (fun δ => δ = [boxS y1, .dt (.int (k : Int)), .dt (.int (r : Int)), .un, .un, .un, .un, .un, .un]) (fun N hN => ?_) fun δ' e => ?_
      · refine st_if ?_
        walk_at "u"
        refine ite_dec (fun h1 => ?_) (fun h1 => ?_)
        · walk_at "u"
          refine ite_dec (fun h2 => ?_) (fun h2 => ?_)
          · obtain ⟨k', rfl⟩ : ∃ k', k = k' + 1 := ⟨k - 1, by omega⟩
            have ek : ((k' + 1 : Nat) : Int) - 1 = (k' : Int) := by omega
            walk_at "y"
            refine box_call (i := 0) rfl fun Q2 hQ2 => ⟨y1, rfl, hy1.ok, fun ds y2 hok hy2 => hQ2 _ _ ?_⟩
            walk_at "y"
            refine box_call1 (i := 0) rfl fun Q2 hQ2 => ⟨y2, 1, rfl, hy2.ok, by omega, fun e1 y3 he1 hy3 => hQ2 _ _ ?_⟩
            walk_at "y"
            rw [ek]
            refine box_call1 (i := 0) rfl fun Q2 hQ2 => ⟨y3, k', rfl, hy3.ok, by omega, fun a y4 ha hy4 => hQ2 _ _ ?_⟩
            walk_at "y"
            refine take_ok (i := 0) rfl hy4.ok (by omega) fun r2 y5 hr2 hy5 => ?_
            obtain ⟨dw, e2, hdw0⟩ := at2 (a := .none) (b := a.enc) hr2
            have hdw : Sm (12 + 3 * k') dw := by
              rcases hdw0 with rfl | rfl
              · exact .non
              · exact ha.sm
            refine st_ixL e2 ?_
            walk_at "y"
            refine box_call (i := 0) rfl fun Q2 hQ2 => ⟨y5, rfl, hy5.ok, fun qd y6 hqd hy6 => hQ2 _ _ ?_⟩
            walk_at "y"
            have hy := ((((hy1.to.trans hy2.to).trans hy3).trans hy4).trans hy5.to).trans hy6
            have hon : Sm 6 (.tuple [.str "cmp", .str "<", colE ds, e1.enc]) := sm4 (.str _) (.str _) ((colE_sm hok).mono (by omega)) he1.sm
            refine fin (.ex _ dw) y6 _ _ _ _ _ _ _ ⟨trivial, ?_, by show 1 ≤ _; omega, by show 1 ≤ _; omega⟩ hy
            refine (sm3 (n := 12 + 3 * k') (.str _) ?_ ?_).mono (by omega)
            · refine (sm2 (n := 10) ?_ (sm4 (.str _) hqd (.str _) (hon.mono (by omega)))).mono (by omega)
              refine (sm4 (n := 1) (.str _) (.tup (n := 0) (by simp) fun v hv => by simp at hv; rcases hv with rfl | rfl <;> exact .str _) (.str _) .non).mono (by omega)
            · exact hdw.mono (by omega)
          · walk_at "y"
            exact hN _ rfl
        · walk_at "y"
          exact hN _ rfl
      · subst e
        walk_at "u"
        refine st_ifJ (fun δ => δ = [boxS y1, .dt (.int (k : Int)), .dt (.int (r : Int)), .un, .un, .un, .un, .un, .un]) (fun N hN => ?_) fun δ' e => ?_
        · have body : (sRet (dTup (dCons (dC (.str "in")) (dCons (dCallQ xNo (sp_law_expr 7) (wLend 0 (wCons (dC (.int 2)) wNil))) (dCons (dCallQ xNo sp_law_question (wLend 0 wNil)) dNil))))) { nx := N, rt := fun d δ => Q d (outs [boxS x, .dt (.int (k : Int))] δ) } [boxS y1, .dt (.int (k : Int)), .dt (.int (r : Int)), .un, .un, .un, .un, .un, .un] := by
            walk_at "y"
            refine box_call1 (i := 0) rfl fun Q2 hQ2 => ⟨y1, 2, rfl, hy1.ok, by omega, fun a y2 ha hy2 => hQ2 _ _ ?_⟩
            walk_at "y"
            refine box_call (i := 0) rfl fun Q2 hQ2 => ⟨y2, rfl, hy2.ok, fun qd y3 hqd hy3 => hQ2 _ _ ?_⟩
            walk_at "y"
            have h1 := ha.size
            have h2 := ha.hgt
            rw [show es 2 = 11 from rfl] at h1
            exact fin (.inq a qd) y3 _ _ _ _ _ _ _ ⟨ha.ok, (sm3 (n := 9) (.str _) (ha.sm.mono (by omega)) hqd).mono (by omega), by simp only [Tr.size]; omega, by simp only [Tr.hgt]; omega⟩ ((hy1.to.trans hy2).trans hy3)
          refine st_if ?_
          walk_at "u"
          refine ite_dec (fun h1 => ?_) (fun h1 => ?_)
          · exact body
          · walk_at "u"
            refine ite_dec (fun h2 => ?_) (fun h2 => ?_)
            · exact body
            · walk_at "y"
              exact hN _ rfl
        · subst e
          walk_at "y"
          refine ite_dec (fun h1 => ?_) (fun h1 => ?_)
          · walk_at "y"
            refine box_call1 (i := 0) rfl fun Q2 hQ2 => ⟨y1, 4, rfl, hy1.ok, by omega, fun a y2 ha hy2 => hQ2 _ _ ?_⟩
            walk_at "y"
            have h1 := ha.size
            have h2 := ha.hgt
            rw [show es 4 = 47 from rfl] at h1
            exact fin (.un .null a) y2 _ _ _ _ _ _ _ ⟨ha.ok, (sm2 (n := 8) (.str _) (ha.sm.mono (by omega))).mono (by omega), by simp only [Tr.size]; omega, by simp only [Tr.hgt]; omega⟩ (hy1.to.trans hy2)
          · walk_at "y"
            refine box_call1 (i := 0) rfl fun Q2 hQ2 => ⟨y1, 3, rfl, hy1.ok, by omega, fun a y2 ha hy2 => hQ2 _ _ ?_⟩
            walk_at "y"
            refine take_ok (i := 0) rfl hy2.ok (by omega) fun r2 y3 hr2 hy3 => ?_
            obtain ⟨s, hs, e1⟩ := at_str (ss := ["=", "<>", "<", "<=", ">", ">="]) (j := (r2 : Int)) (by omega) (by show _ < 6; omega)
            refine st_ixL e1 ?_
            walk_at "y"
            refine box_call1 (i := 0) rfl fun Q2 hQ2 => ⟨y3, 3, rfl, hy3.ok, by omega, fun b y4 hb hy4 => hQ2 _ _ ?_⟩
            walk_at "y"
            have h1 := ha.size
            have h2 := ha.hgt
            have h3 := hb.size
            have h4 := hb.hgt
            rw [show es 3 = 23 from rfl] at h1 h3
            exact fin (.cmp s a b) y4 _ _ _ _ _ _ _ ⟨⟨ha.ok, hb.ok⟩, (sm4 (n := 7) (.str _) (.str _) ha.sm hb.sm).mono (by omega), by simp only [Tr.size]; omega, by simp only [Tr.hgt]; omega⟩ (((hy1.to.trans hy2).trans hy3.to).trans hy4)
def numBody : TDS := (sSeq (sAsg (dOp modD (dCall toIntD (dCons (dOp addD (dOp addD (dOp mulD (dVar 6) (dC (.int 48271))) (dOp mulD (dVar 7) (dC (.int 907)))) (dC (.int 4242))) dNil)) (dC (.int 2147483647))) (dgName 6)) (sSeq (sIf (dNot (dTest (dVar 5))) (sApp 1 (dOp fdivD (dOp modD (dCall toIntD (dCons (dOp addD (dOp addD (dOp mulD (dVar 6) (dVar 6)) (dOp mulD (dVar 3) (dC (.int 911)))) (dVar 7)) dNil)) (dC (.int 2147483629))) (dC (.int 64)))) (sIf (dTest (dOp gtD (dVar 4) (dC (.int 0)))) (sApp 1 (dOp modD (dCall toIntD (dCons (dVar 4) dNil)) (dC (.int 720720)))) sNext)) (sAsg (dOp fdivD (dVar 4) (dC (.int 720720))) (dgName 4))))
theorem num_inner {ns : List Int} {p1 : Addr} {k : Nat} {seed z : Int} {g : Bool} {De : DEnds} (m : Nat) (row : List Int) (one left : Int) (s7 : SD) (hm : m ≤ 60) (hr : row.length ≤ 60 * k) (hk : k ≤ 63)
    (q : ∀ (row' : List Int) (s4 s6 s7 : SD), row'.length ≤ 60 * (k + 1) → De.nx [.dt (.list (ns.map .int)), .ow p1 (.lst (row'.map .int)), .dt (.int seed), .dt (.int z), s4, .dt (.bool g), s6, s7]) :
    sForGo (dgName 7) numBody De (rngD 0 m) [.dt (.list (ns.map .int)), .ow p1 (.lst (row.map .int)), .dt (.int seed), .dt (.int z), .dt (.int left), .dt (.bool g), .dt (.int one), s7] := by
  refine for_rng (lo := 0) (n := m) (fun j δ => ∃ (row' : List Int) (one left : Int) (s7 : SD), δ = [.dt (.list (ns.map .int)), .ow p1 (.lst (row'.map .int)), .dt (.int seed), .dt (.int z), .dt (.int left), .dt (.bool g), .dt (.int one), s7] ∧ row'.length ≤ 60 * k + j) ⟨row, one, left, s7, rfl, hr⟩ (fun j δ' N hj ⟨row', one, left, s7, e, hl⟩ hN => ?_) fun δ' ⟨row', one, left, s7, e, hl⟩ => ?_
  · subst e
    unfold numBody
    walk_at "u"
    have h1 := Int.emod_nonneg (one * 48271 + (0 + (j : Int)) * 907 + 4242) (show (2147483647 : Int) ≠ 0 by decide)
    have h2 := Int.emod_lt_of_pos (one * 48271 + (0 + (j : Int)) * 907 + 4242) (show (0 : Int) < 2147483647 by decide)
    refine st_ifJ (fun δ => ∃ (row' : List Int) (s6 : Int), δ = [.dt (.list (ns.map .int)), .ow p1 (.lst (row'.map .int)), .dt (.int seed), .dt (.int z), .dt (.int left), .dt (.bool g), .dt (.int s6), .dt (.int (0 + (j : Int)))] ∧ row'.length ≤ 60 * k + (j + 1)) (fun N' hN' => ?_) fun δ' ⟨row', s6, e, hl⟩ => ?_
    · walk_at "y"
      cases g with
      | false =>
        walk_at "y"
        refine st_mulL ⟨?_, ?_⟩ ?_
        · show -18446744073709551616 < (_ % 2147483647 : Int)
          omega
        · show (_ % 2147483647 : Int) < 18446744073709551616
          omega
        walk_at "y"
        refine ex_app1 rfl (by rw [List.length_map]; omega) ?_
        exact hN' _ ⟨row' ++ [_], _, by rw [List.map_append]; rfl, by rw [List.length_append, List.length_singleton]; omega⟩
      | true =>
        walk_at "y"
        refine ite_dec (fun h => ?_) (fun h => ?_)
        · walk_at "y"
          refine ex_app1 rfl (by rw [List.length_map]; omega) ?_
          exact hN' _ ⟨row' ++ [_], _, by rw [List.map_append]; rfl, by rw [List.length_append, List.length_singleton]; omega⟩
        · walk_at "y"
          exact hN' _ ⟨row', _, rfl, by omega⟩
    · subst e
      walk_at "y"
      exact hN _ ⟨row', _, _, _, rfl, hl⟩
  · subst e
    exact q row' _ _ _ (by omega)
theorem rp_law_numbers (as : List SD) (Q : RS → List SD → Prop) (h : sp_law_numbers as Q) : rd_law_numbers { nx := fun δ => Q (.dt .none) (outs as δ), rt := fun d δ => Q d (outs as δ) } (startD 8 as) := by
  obtain ⟨ns, rfl, hl, q⟩ := h
  show rd_law_numbers _ [.dt (.list (ns.map .int)), .un, .un, .un, .un, .un, .un, .un]
  unfold rd_law_numbers
  walk_at "y"
  rename_i p1
  refine ⟨(ns.length : Int), by rw [List.length_map], by omega, by omega, ?_⟩
  refine for_rng (lo := 0) (n := ((ns.length : Int)).toNat) (fun i δ => ∃ (row : List Int) (seed : Int) (s3 s4 s5 s6 s7 : SD), δ = [.dt (.list (ns.map .int)), .ow p1 (.lst (row.map .int)), .dt (.int seed), s3, s4, s5, s6, s7] ∧ row.length ≤ 60 * i) ⟨[], 31337, _, _, _, _, _, rfl, Nat.zero_le _⟩ (fun i δ' N hi ⟨row, seed, s3, s4, s5, s6, s7, e, hr⟩ hN => ?_) fun δ' ⟨row, seed, s3, s4, s5, s6, s7, e, hr⟩ => ?_
  · subst e
    have hi2 : i < ns.length := by omega
    have hix : atI (ns.map PyData.int) (0 + (i : Int)) = some (.int ns[i]) := by
      rw [Int.zero_add, atI_cast, List.getElem?_map, List.getElem?_eq_getElem hi2]
      rfl
    walk_at "y"
    refine st_ixL hix ?_
    walk_at "y"
    refine st_ixL hix ?_
    walk_at "y"
    generalize decide (10 ^ Int.toNat 18 ≤ if ns[i] < 0 then -ns[i] else ns[i]) = g
    obtain ⟨m, hm, e1⟩ : ∃ m : Nat, m ≤ 60 ∧ atI [PyData.int 7, PyData.int 60] (if g = true then 1 else 0) = some (.int (m : Int)) := by
      cases g with
      | true => exact ⟨60, by omega, rfl⟩
      | false => exact ⟨7, by omega, rfl⟩
    refine st_ixL e1 ?_
    walk_at "y"
    refine ⟨(m : Int), rfl, by omega, by omega, ?_⟩
    rw [Int.toNat_natCast]
    exact num_inner (k := i) m row _ _ _ hm hr (by omega) fun row' s4 s6 s7 h => hN _ ⟨row', _, _, _, _, _, _, rfl, h⟩
  · subst e
    have hr2 : row.length ≤ 4000 := by omega
    walk_at "y"
    refine ⟨_, rfl, by split <;> omega, by split <;> omega, ?_⟩
    refine for_rng (lo := 0) (n := (if 300 - (((row.map PyData.int).length : Nat) : Int) > 0 then 300 - (((row.map PyData.int).length : Nat) : Int) else 0).toNat) (fun j δ => ∃ (row : List Int) (seed : Int) (s7 : SD), δ = [.dt (.list (ns.map .int)), .ow p1 (.lst (row.map .int)), .dt (.int seed), s3, s4, s5, s6, s7] ∧ row.length ≤ 4000 + j) ⟨row, seed, s7, rfl, hr2⟩ (fun j δ' N hj ⟨row, seed, s7, e, hl⟩ hN => ?_) fun δ' ⟨row, seed, s7, e, hl⟩ => ?_
    · subst e
      have hj2 : j < 300 := by
        refine Nat.lt_of_lt_of_le hj ?_
        split <;> omega
      walk_at "y"
      refine st_mulL ⟨?_, ?_⟩ ?_
      · have := Int.emod_nonneg (seed * 39373 + (0 + (j : Int)) * 77 + 5) (show (2147483647 : Int) ≠ 0 by decide)
        show -18446744073709551616 < (_ % 2147483647 : Int)
        omega
      · have := Int.emod_lt_of_pos (seed * 39373 + (0 + (j : Int)) * 77 + 5) (show (0 : Int) < 2147483647 by decide)
        show (_ % 2147483647 : Int) < 18446744073709551616
        omega
      walk_at "y"
      refine ex_app1 rfl (by rw [List.length_map]; omega) ?_
      exact hN _ ⟨row ++ [_], _, _, by rw [List.map_append]; rfl, by rw [List.length_append, List.length_singleton]; omega⟩
    · subst e
      walk_at "y"
      refine ⟨p1, _, rfl, ?_⟩
      rw [show (300 : Int) = ((300 : Nat) : Int) from rfl, cut_take, ← List.map_take]
      walk_at "o"
      exact q _ (by rw [List.length_take]; omega)
theorem rp_law_same (n : Nat) (as : List SD) (Q : RS → List SD → Prop) (h : sp_law_same (n + 1) as Q) : rd_law_same n { nx := fun δ => Q (.dt .none) (outs as δ), rt := fun d δ => Q d (outs as δ) } (startD 3 as) := by
  obtain ⟨d, m, rfl, hm, hsm, q⟩ := h
  show rd_law_same n _ [.dt d, .dt d, .un]
  unfold rd_law_same
  cases hsm with
  | non =>
    walk_at "y"
    walk_at "o"
    exact q
  | bl b =>
    walk_at "y"
    walk_at "o"
    rw [show (b == b) = true from by simp]
    exact q
  | int i =>
    walk_at "y"
    walk_at "o"
    rw [show decide True = true from rfl]
    exact q
  | str s =>
    walk_at "y"
    walk_at "o"
    rw [show decide True = true from rfl]
    exact q
  | @tup m' xs h1 h2 =>
    walk_at "y"
    refine ite_b (fun hz => ?_) (fun hz => ?_)
    · simp at hz
    · walk_at "y"
      refine st_lc (own1 rfl rfl) ?_
      walk_at "y"
      refine ⟨(xs.length : Int), rfl, by omega, by omega, ?_⟩
      refine ⟨own1 rfl rfl, lc_pure (fun _ => .bool true) .un rfl (by rw [rngD_len]; omega) (fun x hx N hN => ?_) ?_⟩
      · obtain ⟨i, hi⟩ := List.getElem?_of_mem hx
        obtain ⟨hi1, rfl⟩ := rngD_get hi
        have hi2 : i < xs.length := by omega
        have hix : atI xs (0 + (i : Int)) = some xs[i] := by
          rw [Int.zero_add, atI_cast, List.getElem?_eq_getElem hi2]
        walk_at "y"
        refine st_ixT hix ?_
        walk_at "y"
        refine st_ixT hix ?_
        walk_at "y"
        refine call_ok (by simp [bors]) (by simp [bors]) fun Q2 hQ => ⟨xs[i], m', rfl, by omega, h2 _ (List.getElem_mem hi2), hQ _ _ rfl ?_⟩
        walk_at "s"
        exact hN
      · walk_at "y"
        refine boolsD_ok (List.replicate (xs.length : Int).toNat true) ?_ ?_
        · refine List.ext_getElem? fun j => ?_
          by_cases hj : j < (xs.length : Int).toNat
          · rw [List.getElem?_map, List.getElem?_map, List.getElem?_replicate, if_pos hj, List.getElem?_eq_getElem (by rw [rngD_len]; exact hj)]
            rfl
          · rw [List.getElem?_eq_none (by rw [List.length_map, rngD_len]; omega), List.getElem?_eq_none (by rw [List.length_map, List.length_replicate]; omega)]
        · walk_at "o"
          rw [show (List.replicate (xs.length : Int).toNat true).all id = true from by simp]
          exact q
theorem putN_ok {kvs : List (D × D)} {kd d : D} {k : NestedKey} (h : KvOk kvs) (hk : KeyD kd k) (h1 : Sm 8 kd) (h2 : Sm 8 d) (hl : kvs.length < 90000) : KvOk (putN kvs kd k d) ∧ (putN kvs kd k d).length ≤ kvs.length + 1 := by
  unfold putN
  by_cases hs : (getN kvs k).isSome = true
  · rw [if_pos hs]
    have ek : (kvs.map fun kv => if nkOf kv.1 = some k then (kv.1, d) else kv).map (fun kv => nkOf kv.1) = kvs.map fun kv => nkOf kv.1 := by
      rw [List.map_map]
      refine List.map_congr_left fun kv _ => ?_
      show nkOf (if nkOf kv.1 = some k then (kv.1, d) else kv).1 = _
      split <;> rfl
    refine ⟨⟨fun kv hkv => ?_, by rw [ek]; exact h.nd, fun kv hkv => ?_, by rw [List.length_map]; exact h.few⟩, by rw [List.length_map]; omega⟩
    · obtain ⟨kv', hm, rfl⟩ := List.mem_map.mp hkv
      split
      · exact h.keys kv' hm
      · exact h.keys kv' hm
    · obtain ⟨kv', hm, rfl⟩ := List.mem_map.mp hkv
      split
      · exact ⟨(h.sm kv' hm).1, h2⟩
      · exact h.sm kv' hm
  · rw [if_neg hs]
    refine ⟨⟨fun kv hkv => ?_, ?_, fun kv hkv => ?_, by rw [List.length_append, List.length_singleton]; omega⟩, by rw [List.length_append, List.length_singleton]; omega⟩
    · rcases List.mem_append.mp hkv with hm | hm
      · exact h.keys kv hm
      · rw [List.mem_singleton] at hm
        subst hm
        exact ⟨k, hk⟩
    · rw [List.map_append, List.nodup_append]
      refine ⟨h.nd, by simp, fun a ha b hb e => ?_⟩
      simp at hb
      subst hb
      rw [hk.1] at e
      subst e
      obtain ⟨kv, hm, he⟩ := List.mem_map.mp ha
      refine hs ?_
      unfold getN
      rw [Option.isSome_map, List.find?_isSome]
      exact ⟨kv, hm, by simpa using he⟩
    · rcases List.mem_append.mp hkv with hm | hm
      · exact h.sm kv hm
      · rw [List.mem_singleton] at hm
        subst hm
        exact ⟨h1, h2⟩
theorem sm2' {n m : Nat} {a b : D} (ha : Sm n a) (hb : Sm n b) (h : n + 1 ≤ m) : Sm m (.tuple [a, b]) := (Sm.tup (by simp) fun x hx => by simp at hx; rcases hx with rfl | rfl <;> assumption : Sm (n + 1) _).mono h
theorem sm3' {n m : Nat} {a b c : D} (ha : Sm n a) (hb : Sm n b) (hc : Sm n c) (h : n + 1 ≤ m) : Sm m (.tuple [a, b, c]) := (Sm.tup (by simp) fun x hx => by simp at hx; rcases hx with rfl | rfl | rfl <;> assumption : Sm (n + 1) _).mono h
section
variable {P : Program} {w : World}
theorem rp_law_table (as : List SD) (Q : RS → List SD → Prop) (h : sp_law_table P w as Q) : rd_law_table P w { nx := fun δ => Q (.dt .none) (outs as δ), rt := fun d δ => Q d (outs as δ) } (startD 5 as) := by
  obtain ⟨x, o, rfl, ok, ho, q⟩ := h
  show rd_law_table P w _ [boxS x, .dt (encO o), .un, .un, .un]
  unfold rd_law_table
  walk_at "y"
  rename_i p
  have hs := ho.size
  have okk : ∀ t ∈ preO o, t.Ok := fun t ht => by
    cases o with
    | none => simp [preO] at ht
    | some u => exact pre_ok (ho.ok u rfl) t (by simpa [preO] using ht)
  have dep : ∀ (x : Str), (x = "col" ∨ x = "agg") → ∀ t ∈ preO o, t.word = x → t.enc.depth ≤ 150 := fun x hx t ht hw => Nat.le_trans (key_sm (key_word (by rw [hw]; exact hx)) (okk t ht)).depth (by decide)
  refine call_ok (by simp [bors]) (by simp [bors]) fun Q2 hQ => ⟨o, "col", rfl, by omega, ho.ok, dep _ (.inl rfl), hQ _ _ rfl ?_⟩
  walk_at "s"
  walk_at "y"
  refine call_ok (by simp [bors]) (by simp [bors]) fun Q2 hQ => ⟨o, "agg", rfl, by omega, ho.ok, dep _ (.inr rfl), hQ _ _ rfl ?_⟩
  walk_at "s"
  have hlen : ∀ f : Tr → Bool, (uniq (((preO o).filter f).map Tr.enc)).length ≤ 8000 := fun f => by
    have h1 := uniq_len (((preO o).filter f).map Tr.enc) []
    have h2 := List.length_filter_le f (preO o)
    have h3 := preO_len o
    rw [List.length_map, List.length_nil] at h1
    unfold uniq
    omega
  have hl1 := hlen fun t => decide (t.word = ("col" : Str))
  have hl2 := hlen fun t => decide (t.word = ("agg" : Str))
  refine ⟨by omega, ?_⟩
  walk_at "y"
  have keys : ∀ d ∈ uniq (((preO o).filter fun t => decide (t.word = ("col" : Str))).map Tr.enc) ++ uniq (((preO o).filter fun t => decide (t.word = ("agg" : Str))).map Tr.enc), ∃ k, KeyD d k ∧ Sm 2 d := by
    intro d hd
    have : ∃ x : Str, (x = "col" ∨ x = "agg") ∧ d ∈ uniq (((preO o).filter fun t => decide (t.word = x)).map Tr.enc) := by
      rcases List.mem_append.mp hd with hd | hd
      · exact ⟨_, .inl rfl, hd⟩
      · exact ⟨_, .inr rfl, hd⟩
    obtain ⟨x, hx, hd⟩ := this
    rcases mem_uniq _ _ hd with hd | hd
    · simp at hd
    · obtain ⟨t, ht, rfl⟩ := List.mem_map.mp hd
      obtain ⟨ht1, ht2⟩ := List.mem_filter.mp ht
      have hk := key_word (t := t) (by rw [of_decide_eq_true ht2]; exact hx)
      obtain ⟨k, hk2⟩ := key_of hk (okk t ht1)
      exact ⟨k, hk2, key_sm hk (okk t ht1)⟩
  generalize hL : uniq (((preO o).filter fun t => decide (t.word = ("col" : Str))).map Tr.enc) ++ uniq (((preO o).filter fun t => decide (t.word = ("agg" : Str))).map Tr.enc) = L at keys ⊢
  have hLl : L.length ≤ 16000 := by
    rw [← hL, List.length_append]
    omega
  refine for_inv (fun i δ => ∃ (kvs : List (D × D)) (y : Bx) (s3 s4 : SD), δ = [boxS y, .dt (encO o), .ow p (OD.dn P w p kvs), s3, s4] ∧ KvOk kvs ∧ x.To y ∧ kvs.length ≤ 4 * i) ⟨[], x, _, _, rfl, ⟨fun kv h => by simp at h, List.nodup_nil, fun kv h => by simp at h, Nat.zero_le _⟩, .refl ok, Nat.zero_le _⟩ (fun i kd δ' N hx ⟨kvs, y0, s3, s4, e, hkv, hy0, hl⟩ hN => ?_) fun δ' ⟨kvs, y, s3, s4, e, hkv, hy, hl⟩ => ?_
  · subst e
    have hil := lt_of_get hx
    obtain ⟨k, hk, hks⟩ := keys kd (List.mem_of_getElem? hx)
    walk_at "u"
    refine take_ok (i := 0) rfl hy0.ok (by omega) fun r y hr hy1 => ?_
    have hy := hy0.trans hy1.to
    walk_at "u"
    refine st_ifJ (fun δ => ∃ (kvs : List (D × D)) (y : Bx), δ = [boxS y, .dt (encO o), .ow p (OD.dn P w p kvs), .dt kd, .dt (.int (r : Int))] ∧ KvOk kvs ∧ x.To y ∧ kvs.length ≤ 4 * i + 1) (fun N' hN' => ?_) fun δ' ⟨kvs, y, e, hkv, hy, hl⟩ => ?_
    · walk_at "y"
      refine ite_dec (fun h1 => ?_) (fun h1 => ?_)
      · walk_at "y"
        refine ⟨p, _, _, rfl, hk, by omega, ?_⟩
        have pk := putN_ok hkv hk (hks.mono (by omega)) (sm3' (n := 2) (.str "add") hks (sm2' (n := 0) (.str "num") (.int 1) (by omega)) (by omega)) (by omega)
        exact hN' _ ⟨_, y, rfl, pk.1, hy, Nat.le_trans pk.2 (by omega)⟩
      · walk_at "y"
        exact hN' _ ⟨kvs, y, rfl, hkv, hy, by omega⟩
    subst e
    walk_at "u"
    refine st_ifJ (fun δ => ∃ (kvs : List (D × D)) (y : Bx), δ = [boxS y, .dt (encO o), .ow p (OD.dn P w p kvs), .dt kd, .dt (.int (r : Int))] ∧ KvOk kvs ∧ x.To y ∧ kvs.length ≤ 4 * i + 2) (fun N' hN' => ?_) fun δ' ⟨kvs, y, e, hkv, hy, hl⟩ => ?_
    · walk_at "y"
      refine ite_dec (fun h1 => ?_) (fun h1 => ?_)
      · walk_at "y"
        refine box_call (i := 0) rfl fun Q2 hQ2 => ⟨y, rfl, hy.ok, fun ds y2 hds hy2 => hQ2 _ _ ?_⟩
        walk_at "y"
        refine ⟨p, _, _, rfl, hk, by omega, ?_⟩
        have pk := putN_ok hkv hk (hks.mono (by omega)) ((colE_sm hds).mono (by omega)) (by omega)
        exact hN' _ ⟨_, y2, rfl, pk.1, hy.trans hy2.to, Nat.le_trans pk.2 (by omega)⟩
      · walk_at "y"
        exact hN' _ ⟨kvs, y, rfl, hkv, hy, by omega⟩
    subst e
    walk_at "u"
    refine st_ifJ (fun δ => ∃ (kvs : List (D × D)) (y : Bx), δ = [boxS y, .dt (encO o), .ow p (OD.dn P w p kvs), .dt kd, .dt (.int (r : Int))] ∧ KvOk kvs ∧ x.To y ∧ kvs.length ≤ 4 * i + 3) (fun N' hN' => ?_) fun δ' ⟨kvs, y, e, hkv, hy, hl⟩ => ?_
    · walk_at "y"
      refine ite_dec (fun h1 => ?_) (fun h1 => ?_)
      · walk_at "y"
        refine ⟨p, _, _, rfl, hk, by omega, ?_⟩
        have pk := putN_ok hkv hk (hks.mono (by omega)) (sm2' (n := 2) (.str "neg") (sm3' (n := 1) (.str "agg") (.str "sum") (sm3' (n := 0) (.str "col") (.str "t") (.str "a") (by omega)) (by omega)) (by omega)) (by omega)
        exact hN' _ ⟨_, y, rfl, pk.1, hy, Nat.le_trans pk.2 (by omega)⟩
      · walk_at "y"
        exact hN' _ ⟨kvs, y, rfl, hkv, hy, by omega⟩
    subst e
    walk_at "u"
    refine st_if ?_
    walk_at "y"
    refine ite_dec (fun h1 => ?_) (fun h1 => ?_)
    · walk_at "y"
      refine take_ok (i := 0) rfl hy.ok (by omega) fun r2 y2 hr2 hy2 => ?_
      walk_at "y"
      refine ⟨p, _, _, rfl, hk, by omega, ?_⟩
      have pk := putN_ok hkv hk (hks.mono (by omega)) (sm2' (n := 0) (.str "agg") (.int (r2 : Int)) (by omega)) (by omega)
      exact hN _ ⟨_, y2, _, _, rfl, pk.1, hy.trans hy2.to, Nat.le_trans pk.2 (by omega)⟩
    · walk_at "y"
      exact hN _ ⟨kvs, y, _, _, rfl, hkv, hy, by omega⟩
  · subst e
    walk_at "y"
    refine box_call (i := 0) rfl fun Q2 hQ2 => ⟨y, rfl, hy.ok, fun ds y2 hds hy2 => hQ2 _ _ ?_⟩
    walk_at "y"
    obtain ⟨k, hk, _⟩ := colE_key hds
    refine ⟨p, _, _, rfl, hk, by omega, ?_⟩
    have pk := putN_ok hkv hk ((colE_sm hds).mono (by omega)) (sm2' (n := 0) (.str "num") (.int 0) (by omega)) (by omega)
    obtain ⟨h1, h2⟩ := pk
    generalize putN _ _ _ _ = kvs2 at h1 h2 ⊢
    walk_at "y"
    refine box_call (i := 0) rfl fun Q2 hQ2 => ⟨y2, rfl, hy2.ok, fun t y3 hag hok hy3 => hQ2 _ _ ?_⟩
    walk_at "y"
    obtain ⟨k3, hk3⟩ := agg_key hag hok
    refine ⟨p, _, _, rfl, hk3, by omega, ?_⟩
    have pk := putN_ok h1 hk3 ((agg_sm hag hok).mono (by omega)) (sm3' (n := 0) (.str "col") (.str "s") (.str "b") (by omega)) (by omega)
    obtain ⟨h3, h4⟩ := pk
    generalize putN _ _ _ _ = kvs3 at h3 h4 ⊢
    walk_at "y"
    have hy3 := (hy.trans hy2.to).trans hy3
    rw [show outs [boxS x, .dt (encO o)] [boxS y3, .dt (encO o), .un, s3, s4] = [boxS y3, .un] from hy3.out2 _ _ _ rfl]
    exact q p kvs3 y3 h3 hy3
end
theorem perm1 {α : Type} (a : α) : permL [0] [a] = [a] := rfl
theorem rep_sm {kvs : List (D × D)} (hk : KvOk kvs) {n : Nat} : ∀ {t : Tr}, Sm n t.enc → Sm (n + 8) (t.rep kvs) := by
  have lkS : ∀ d z, lk kvs d = some z → Sm 8 z := by
    intro d z h
    unfold lk at h
    cases e : nkOf d with
    | none => rw [e] at h; cases h
    | some k =>
      rw [e] at h
      have h : getN kvs k = some z := h
      unfold getN at h
      cases e2 : kvs.find? (fun kv => decide (nkOf kv.1 = some k)) with
      | none => rw [e2] at h; cases h
      | some kv =>
        rw [e2] at h
        cases h
        exact (hk.sm kv (List.mem_of_find?_eq_some e2)).2
  have getS : ∀ d e m, Sm m e → Sm (m + 8) ((lk kvs d).getD e) := by
    intro d e m h
    cases hd : lk kvs d with
    | none => exact h.mono (by omega)
    | some z => exact (lkS d z hd).mono (by omega)
  intro t
  induction t generalizing n with
  | col ds => intro h; exact getS _ _ _ h
  | agg0 => intro h; exact getS _ _ _ h
  | aggi i => intro h; exact getS _ _ _ h
  | agg1 f ds =>
    intro h
    obtain ⟨m, rfl, h2⟩ := Sm.of (show Sm n (.tuple [.str "agg", .str f, colE ds]) from h)
    have h3 : Sm (m + 8) ((lk kvs (colE ds)).getD (colE ds)) := getS _ _ _ (h2 _ (by simp))
    show Sm _ ((lk kvs (Tr.enc (.agg1 f ds))).getD (.tuple [.str "agg", .str f, (lk kvs (colE ds)).getD (colE ds)]))
    cases hd : lk kvs (Tr.enc (.agg1 f ds)) with
    | none => exact (sm3' (.str _) (.str _) h3 (by omega))
    | some z => exact (lkS _ z hd).mono (by omega)
  | num i => intro h; exact h.mono (by omega)
  | text s => intro h; exact h.mono (by omega)
  | ex s w => intro h; exact h.mono (by omega)
  | un w a ih =>
    intro h
    obtain ⟨m, rfl, h2⟩ := Sm.of (show Sm n (.tuple [.str w.w, a.enc]) from h)
    exact sm2' (.str _) (ih (h2 _ (by simp))) (by omega)
  | bi w a b iha ihb =>
    intro h
    obtain ⟨m, rfl, h2⟩ := Sm.of (show Sm n (.tuple [.str w.w, a.enc, b.enc]) from h)
    exact sm3' (.str _) (iha (h2 _ (by simp))) (ihb (h2 _ (by simp))) (by omega)
  | cmp op a b iha ihb =>
    intro h
    obtain ⟨m, rfl, h2⟩ := Sm.of (show Sm n (.tuple [.str "cmp", .str op, a.enc, b.enc]) from h)
    exact (sm4 (.str _) (.str _) (iha (h2 _ (by simp))) (ihb (h2 _ (by simp)))).mono (by omega)
  | inq a q ih =>
    intro h
    obtain ⟨m, rfl, h2⟩ := Sm.of (show Sm n (.tuple [.str "in", a.enc, q]) from h)
    exact sm3' (.str _) (ih (h2 _ (by simp))) ((h2 _ (by simp)).mono (by omega)) (by omega)
theorem repO_sm {kvs : List (D × D)} (hk : KvOk kvs) {n : Nat} {o : Option Tr} (h : Sm n (encO o)) : Sm (n + 8) (repO kvs o) := by
  cases o with
  | none => exact .non
  | some t => exact rep_sm hk h
theorem lk_nil (d : D) : lk [] d = none := by
  unfold lk
  cases nkOf d <;> rfl
theorem rep_nil (t : Tr) : t.rep [] = t.enc := by
  induction t with
  | un w a ih => simp only [Tr.rep, Tr.enc, ih]
  | bi w a b iha ihb => simp only [Tr.rep, Tr.enc, iha, ihb]
  | cmp w a b iha ihb => simp only [Tr.rep, Tr.enc, iha, ihb]
  | inq a q ih => simp only [Tr.rep, Tr.enc, ih]
  | col ds => simp only [Tr.rep, lk_nil]; rfl
  | agg0 => simp only [Tr.rep, lk_nil]; rfl
  | aggi i => simp only [Tr.rep, lk_nil]; rfl
  | agg1 f ds => simp only [Tr.rep, lk_nil]; rfl
  | num i => rfl
  | text s => rfl
  | ex s w => rfl
theorem repO_nil (o : Option Tr) : repO [] o = encO o := by
  cases o with
  | none => rfl
  | some t => exact rep_nil t
theorem getN_of {kvs : List (D × D)} (nd : (kvs.map fun kv => nkOf kv.1).Nodup) {kv : D × D} {k : NestedKey} (hm : kv ∈ kvs) (hk : nkOf kv.1 = some k) : getN kvs k = some kv.2 := by
  induction kvs with
  | nil => simp at hm
  | cons x kvs ih =>
    rw [List.map_cons, List.nodup_cons] at nd
    unfold getN
    rw [List.find?_cons]
    rcases List.mem_cons.mp hm with rfl | hm
    · rw [decide_eq_true hk]
      rfl
    · have hx : ¬ nkOf x.1 = some k := fun z => nd.1 (List.mem_map.mpr ⟨kv, hm, by rw [hk, z]⟩)
      rw [decide_eq_false hx]
      exact ih nd.2 hm
theorem getN_none {kvs : List (D × D)} {k : NestedKey} (h : some k ∉ kvs.map fun kv => nkOf kv.1) : getN kvs k = none := by
  unfold getN
  rw [Option.map_eq_none_iff, List.find?_eq_none]
  intro kv hkv hd
  exact h (List.mem_map.mpr ⟨kv, hkv, of_decide_eq_true hd⟩)
theorem merge_go : ∀ {kvs acc : List (D × D)}, (∀ kv ∈ kvs, ∃ k, KeyD kv.1 k) → ((acc ++ kvs).map fun kv => nkOf kv.1).Nodup → kvs.foldl (fun acc kv => match nkOf kv.1 with | some k => putN acc kv.1 k kv.2 | none => acc) acc = acc ++ kvs
  | [], acc, _, _ => by simp
  | kv :: kvs, acc, h, nd => by
    obtain ⟨k, hk⟩ := h kv List.mem_cons_self
    rw [List.foldl_cons]
    simp only [hk.1]
    have hn : getN acc k = none := getN_none fun z => by
      rw [List.map_append, List.nodup_append] at nd
      exact nd.2.2 (some k) z (some k) (by rw [List.map_cons, hk.1]; exact List.mem_cons_self) rfl
    have e : putN acc kv.1 k kv.2 = acc ++ [kv] := by
      unfold putN
      rw [hn]
      rfl
    rw [e, merge_go (fun x hx => h x (List.mem_cons_of_mem _ hx)) (by rw [List.append_assoc]; exact nd), List.append_assoc]
    rfl
theorem merge_nd {kvs : List (D × D)} (h : KvOk kvs) : mergeN kvs = kvs := merge_go (acc := []) h.keys (by simpa using h.nd)
theorem uniq_sm {o : Option Tr} (ho : ThOk o) {x : Str} (hx : x = "col" ∨ x = "agg") : Sm 3 (.tuple (uniq (((preO o).filter fun t => decide (t.word = x)).map Tr.enc))) := by
  have okk : ∀ t ∈ preO o, t.Ok := fun t ht => by
    cases o with
    | none => simp [preO] at ht
    | some u => exact pre_ok (ho.ok u rfl) t (by simpa [preO] using ht)
  refine .tup ?_ fun d hd => ?_
  · have h1 := uniq_len (((preO o).filter fun t => decide (t.word = x)).map Tr.enc) []
    have h2 := List.length_filter_le (fun t : Tr => decide (t.word = x)) (preO o)
    have h3 := preO_len o
    have := ho.size
    rw [List.length_map, List.length_nil] at h1
    unfold uniq
    omega
  · rcases mem_uniq _ _ hd with hd | hd
    · simp at hd
    · obtain ⟨t, ht, rfl⟩ := List.mem_map.mp hd
      obtain ⟨ht1, ht2⟩ := List.mem_filter.mp ht
      exact key_sm (key_word (by rw [of_decide_eq_true ht2]; exact hx)) (okk t ht1)
section
variable {P : Program} {w : World}
theorem rp_law_is_right (as : List SD) (Q : RS → List SD → Prop) (h : sp_law_is_right as Q) : rd_law_is_right P w 100 100 100 { nx := fun δ => Q (.dt .none) (outs as δ), rt := fun d δ => Q d (outs as δ) } (startD 6 as) := by
  obtain ⟨x, o, rfl, ok, ho, q⟩ := h
  show rd_law_is_right P w 100 100 100 _ [boxS x, .dt (encO o), .un, .un, .un, .un]
  unfold rd_law_is_right
  have hs := ho.size
  have okk : ∀ t ∈ preO o, t.Ok := fun t ht => by
    cases o with
    | none => simp [preO] at ht
    | some u => exact pre_ok (ho.ok u rfl) t (by simpa [preO] using ht)
  have dep : ∀ (x : Str), (x = "col" ∨ x = "agg") → ∀ t ∈ preO o, t.word = x → t.enc.depth ≤ 150 := fun x hx t ht hw => Nat.le_trans (key_sm (key_word (by rw [hw]; exact hx)) (okk t ht)).depth (by decide)
  walk_at "y"
  refine call_ok (by simp [bors]) (by simp [bors]) fun Q2 hQ => ⟨o, rfl, by omega, ho.ok, hQ _ _ rfl ?_⟩
  walk_at "s"
  walk_at "y"
  refine call_ok (by simp [bors]) (by simp [bors]) fun Q2 hQ => ⟨o, "col", rfl, by omega, ho.ok, dep _ (.inl rfl), hQ _ _ rfl ?_⟩
  walk_at "s"
  walk_at "y"
  rw [colsO_two]
  refine call_ok (by simp [bors]) (by simp [bors]) fun Q2 hQ => ⟨_, 3, rfl, by omega, uniq_sm ho (.inl rfl), hQ _ _ rfl ?_⟩
  walk_at "s"
  walk_at "y"
  refine ⟨rfl, ?_⟩
  rw [perm1]
  refine call_ok (by simp [bors]) (by simp [bors]) fun Q2 hQ => ⟨o, rfl, by omega, ho.ok, hQ _ _ rfl ?_⟩
  walk_at "s"
  walk_at "y"
  refine call_ok (by simp [bors]) (by simp [bors]) fun Q2 hQ => ⟨o, "agg", rfl, by omega, ho.ok, dep _ (.inr rfl), hQ _ _ rfl ?_⟩
  walk_at "s"
  walk_at "y"
  rw [aggsO_two]
  refine call_ok (by simp [bors]) (by simp [bors]) fun Q2 hQ => ⟨_, 3, rfl, by omega, uniq_sm ho (.inr rfl), hQ _ _ rfl ?_⟩
  walk_at "s"
  walk_at "u"
  refine st_ifJ (fun δ => δ = [boxS x, .dt (encO o), .un, .un, .un, .un]) (fun N hN => ?_) fun δ' e => ?_
  · walk_at "y"
    refine ex_ixR (z := .dt (.bool x.plain)) (box_has (i := 0) rfl ok) rfl ?_
    refine ⟨_, rfl, _, rfl, ?_⟩
    refine ite_b (fun hp => ?_) (fun hp => ?_)
    · walk_at "y"
      refine ⟨rfl, ?_⟩
      rw [perm1]
      refine call_ok (by simp [bors]) (by simp [bors]) fun Q2 hQ => ⟨o, rfl, by omega, hQ _ _ rfl ?_⟩
      walk_at "s"
      walk_at "y"
      have hh := ho.hgt
      refine call_ok (by simp [bors]) (by simp [bors]) fun Q2 hQ => ⟨o, rfl, by omega, by omega, ho.ok, hQ _ _ rfl ?_⟩
      walk_at "s"
      walk_at "y"
      refine call_ok (by simp [bors]) (by simp [bors]) fun Q2 hQ => ⟨_, 0, rfl, by omega, .int _, hQ _ _ rfl ?_⟩
      walk_at "s"
      walk_at "y"
      exact hN _ rfl
    · walk_at "y"
      exact hN _ rfl
  · subst e
    walk_at "y"
    refine ⟨⟨by simp [borsW], by simp [borsW]⟩, fun Q2 _ hQ2 _ => ⟨x, o, rfl, ok, ho, fun p kvs y hk hy => hQ2 _ _ _ rfl ?_⟩⟩
    walk_at "b"
    walk_at "u"
    refine st_lc (own1 rfl rfl) ?_
    walk_at "u"
    have got : ∀ kv ∈ kvs, ∃ k, KeyD kv.1 k ∧ getN kvs k = some kv.2 ∧ lk kvs kv.1 = some kv.2 := fun kv hkv => by
      obtain ⟨k, hk2⟩ := hk.keys kv hkv
      have := getN_of hk.nd hkv hk2.1
      exact ⟨k, hk2, this, by rw [lk_key hk2, this]⟩
    have few := hk.few
    let f : D → D := fun d => .tuple [d, (lk kvs d).getD .none]
    have hf : (kvs.map (·.1)).map f = kvs.map pairT := by
      rw [List.map_map]
      refine List.map_congr_left fun kv hkv => ?_
      obtain ⟨k, _, _, h3⟩ := got kv hkv
      show PyData.tuple [kv.1, (lk kvs kv.1).getD .none] = _
      rw [h3]
      rfl
    have lcs : ∀ (s3 s4 : SD) (Qk : List D → Dl → Prop), Qk (kvs.map pairT) [boxS y, .dt (encO o), .ow p (OD.dnF P w p kvs), s3, s4, .un] → dLcGo (dgName 5) dYes (dTup (dCons (dVar 5) (dCons (dIxF P w 2 (dVar 5)) dNil))) [5] Qk (kvs.map (·.1)) [] [boxS y, .dt (encO o), .ow p (OD.dnF P w p kvs), s3, s4, .un] := by
      intro s3 s4 Qk hQk
      refine lc_pure f .un rfl (by rw [List.length_map]; omega) (fun d hd N hN => ?_) (by rw [hf]; exact hQk)
      obtain ⟨kv, hkv, rfl⟩ := List.mem_map.mp hd
      obtain ⟨k, h1, h2, h3⟩ := got kv hkv
      walk_at "y"
      refine ⟨p, kvs, k, kv.2, rfl, h1, h2, ?_⟩
      walk_at "y"
      have hN : N (PyData.tuple [kv.1, (lk kvs kv.1).getD .none]) _ := hN
      rw [h3] at hN
      exact hN
    refine ⟨own1 rfl rfl, lcs _ _ _ ?_⟩
    walk_at "y"
    have hsr := repO_sm hk ho.sm
    refine ⟨⟨by simp [borsW], by simp [borsW]⟩, fun Q2 hQ2 _ => ⟨o, _, p, kvs, 80, rfl, by omega, ho.sm, ho.ok, .inl rfl, hQ2 _ _ rfl ?_⟩⟩
    walk_at "b"
    walk_at "y"
    refine ⟨kvs, rfl, hk.keys, by omega, fun p2 => ?_⟩
    rw [merge_nd hk]
    walk_at "y"
    refine ⟨⟨by simp [borsW], by simp [borsW]⟩, fun Q2 hQ2 _ => ⟨o, _, p2, kvs, 80, rfl, by omega, ho.sm, ho.ok, .inr rfl, hQ2 _ _ rfl ?_⟩⟩
    walk_at "b"
    walk_at "y"
    refine call_ok (by simp [bors]) (by simp [bors]) fun Q2 hQ => ⟨_, 88, rfl, by omega, hsr, hQ _ _ rfl ?_⟩
    walk_at "s"
    walk_at "y"
    refine st_lc (own1 rfl rfl) ?_
    walk_at "u"
    refine ⟨own1 rfl rfl, lcs _ _ _ ?_⟩
    walk_at "y"
    have hsp : Sm 10 (.tuple (kvs.map pairT)) := (Sm.tup (n := 9) (by rw [List.length_map]; omega) fun d hd => by
      obtain ⟨kv, hkv, rfl⟩ := List.mem_map.mp hd
      exact sm2 (hk.sm kv hkv).1 (hk.sm kv hkv).2)
    refine call_ok (by simp [bors]) (by simp [bors]) fun Q2 hQ => ⟨_, 10, rfl, by omega, hsp, hQ _ _ rfl ?_⟩
    walk_at "s"
    walk_at "y"
    refine call_ok (by simp [bors]) (by simp [bors]) fun Q2 hQ => ⟨o, "col", rfl, by omega, ho.ok, dep _ (.inl rfl), hQ _ _ rfl ?_⟩
    walk_at "s"
    walk_at "y"
    rename_i p3
    refine ⟨_, _, rfl, ⟨0, encO o, .inr rfl⟩, ?_⟩
    refine ⟨⟨by simp [borsW], by simp [borsW]⟩, fun Q2 hQ2 _ => ⟨o, _, p3, [], 80, rfl, by omega, ho.sm, ho.ok, .inr rfl, hQ2 _ _ rfl ?_⟩⟩
    walk_at "b"
    walk_at "y"
    refine ⟨rfl, ?_⟩
    rw [perm1]
    refine call_ok (by simp [bors]) (by simp [bors]) fun Q2 hQ => ⟨o, rfl, by omega, ho.ok, hQ _ _ rfl ?_⟩
    walk_at "s"
    walk_at "y"
    rw [repO_nil, colsO_two]
    refine call_ok (by simp [bors]) (by simp [bors]) fun Q2 hQ => ⟨_, 81, rfl, by omega, sm2' ho.sm ((uniq_sm ho (.inl rfl)).mono (by omega)) (by omega), hQ _ _ rfl ?_⟩
    walk_at "s"
    rw [hy.out2 _ _ _ rfl]
    exact q y hy
end
theorem joinT_snoc (ts : List Tr) (t : Tr) : joinT (ts ++ [t]) = match joinT ts with | none => some t | some a => some (.bi .and a t) := by
  unfold joinT
  rw [List.foldl_append]
  rfl
theorem joinT_ind {ts : List Tr} (F : List Tr → Option Tr → Prop) (h0 : F [] none) (hs : ∀ (l : List Tr) (t : Tr), t ∈ ts → F l (joinT l) → F (l ++ [t]) (match joinT l with | none => some t | some a => some (.bi .and a t))) : F ts (joinT ts) := by
  have key : ∀ k, k ≤ ts.length → F (ts.take k) (joinT (ts.take k)) := by
    intro k
    induction k with
    | zero => intro _; rw [List.take_zero]; exact h0
    | succ k ih =>
      intro hk
      have hk2 : k < ts.length := by omega
      rw [List.take_add_one, List.getElem?_eq_getElem hk2, Option.toList_some, joinT_snoc]
      exact hs _ _ (List.getElem_mem hk2) (ih (by omega))
  have := key ts.length (Nat.le_refl _)
  rwa [List.take_length] at this
theorem joinT_ands (ts : List Tr) : andsO (joinT ts) = ts.flatMap Tr.ands := by
  refine joinT_ind (fun l o => andsO o = l.flatMap Tr.ands) rfl fun l t _ h => ?_
  cases hj : joinT l with
  | none =>
    rw [hj] at h
    rw [List.flatMap_append, ← h]
    simp [andsO]
  | some a =>
    rw [hj] at h
    rw [List.flatMap_append, ← h]
    simp [andsO, Tr.ands]
theorem joinT_size (ts : List Tr) : sizeO (joinT ts) ≤ 1 + szs ts + ts.length := by
  refine joinT_ind (fun l o => sizeO o ≤ 1 + szs l + l.length) (Nat.le_refl _) fun l t _ h => ?_
  rw [szs_app, szs_one, List.length_append, List.length_singleton]
  cases hj : joinT l with
  | none => show t.size ≤ _; omega
  | some a =>
    rw [hj] at h
    have h : a.size ≤ _ := h
    show 1 + a.size + t.size ≤ _
    omega
theorem joinT_sm {n : Nat} {ts : List Tr} (h : ∀ t ∈ ts, Sm n t.enc) : Sm (n + ts.length) (encO (joinT ts)) := by
  refine joinT_ind (fun l o => Sm (n + l.length) (encO o)) .non fun l t ht ih => ?_
  rw [List.length_append, List.length_singleton]
  cases hj : joinT l with
  | none => exact (h t ht).mono (by omega)
  | some a =>
    rw [hj] at ih
    exact sm3' (.str _) ih ((h t ht).mono (by omega)) (by omega)
theorem joinT_hgt {n : Nat} {ts : List Tr} (h : ∀ t ∈ ts, t.hgt ≤ n) : hgtO (joinT ts) ≤ n + ts.length := by
  refine joinT_ind (fun l o => hgtO o ≤ n + l.length) (Nat.zero_le _) fun l t ht ih => ?_
  rw [List.length_append, List.length_singleton]
  have h1 := h t ht
  cases hj : joinT l with
  | none => show t.hgt ≤ _; omega
  | some a =>
    rw [hj] at ih
    have ih : a.hgt ≤ _ := ih
    show 1 + max a.hgt t.hgt ≤ _
    omega
theorem joinT_ok {ts : List Tr} (h : ∀ t ∈ ts, t.Ok) : OkO (joinT ts) := by
  refine joinT_ind (fun _ o => OkO o) (fun t z => by cases z) fun l t ht ih => ?_
  cases hj : joinT l with
  | none => intro u hu; cases hu; exact h t ht
  | some a =>
    rw [hj] at ih
    intro u hu
    cases hu
    exact ⟨ih a rfl, h t ht⟩
theorem ands_one {t : Tr} : ∀ u ∈ t.ands, u.ands = [u] := by
  induction t with
  | bi w a b iha ihb =>
    by_cases hw : (Tr.bi w a b).word = "and"
    · obtain ⟨a', b', e⟩ := and_word hw
      cases e
      intro u hu
      rcases List.mem_append.mp hu with hu | hu
      · exact iha u hu
      · exact ihb u hu
    · intro u hu
      rw [ands_not hw, List.mem_singleton] at hu
      subst hu
      exact ands_not hw
  | _ =>
    intro u hu
    simp only [Tr.ands, List.mem_singleton] at hu
    subst hu
    rfl
theorem ands_sm {n : Nat} {t : Tr} : Sm n t.enc → ∀ u ∈ t.ands, Sm n u.enc := by
  induction t generalizing n with
  | bi w a b iha ihb =>
    intro h
    by_cases hw : (Tr.bi w a b).word = "and"
    · obtain ⟨a', b', e⟩ := and_word hw
      cases e
      obtain ⟨m, rfl, h2⟩ := Sm.of (show Sm n (.tuple [.str Bi.and.w, a.enc, b.enc]) from h)
      intro u hu
      rcases List.mem_append.mp hu with hu | hu
      · exact (iha (h2 _ (by simp)) u hu).mono (by omega)
      · exact (ihb (h2 _ (by simp)) u hu).mono (by omega)
    · intro u hu
      rw [ands_not hw, List.mem_singleton] at hu
      subst hu
      exact h
  | _ =>
    intro h u hu
    simp only [Tr.ands, List.mem_singleton] at hu
    subst hu
    exact h
theorem flat_ands {L : List Tr} (h : ∀ u ∈ L, u.ands = [u]) : L.flatMap Tr.ands = L := by
  induction L with
  | nil => rfl
  | cons u L ih =>
    rw [List.flatMap_cons, h u List.mem_cons_self, ih fun v hv => h v (List.mem_cons_of_mem u hv)]
    rfl
theorem szs_ands (ts : List Tr) : szs (ts.flatMap Tr.ands) ≤ szs ts := by
  induction ts with
  | nil => exact Nat.le_refl _
  | cons t ts ih =>
    rw [List.flatMap_cons, szs_app, szs_cons]
    have := ands_szs t
    omega
theorem szs_le {n : Nat} {ts : List Tr} (h : ∀ t ∈ ts, t.size ≤ n) : szs ts ≤ n * ts.length := by
  induction ts with
  | nil => exact Nat.le_refl _
  | cons t ts ih =>
    have h1 := h t List.mem_cons_self
    have h2 := ih fun u hu => h u (List.mem_cons_of_mem t hu)
    rw [szs_cons, List.length_cons, Nat.mul_succ]
    omega
theorem rp_law_conds_right (as : List SD) (Q : RS → List SD → Prop) (h : sp_law_conds_right as Q) : rd_law_conds_right 100 { nx := fun δ => Q (.dt .none) (outs as δ), rt := fun d δ => Q d (outs as δ) } (startD 6 as) := by
  obtain ⟨x, ts, rfl, ok, hl, hts, q⟩ := h
  show rd_law_conds_right 100 _ [boxS x, .dt (.list (ts.map Tr.enc)), .un, .un, .un, .un]
  unfold rd_law_conds_right
  have hsz : ∀ t ∈ ts, t.size ≤ 195 := fun t ht => (hts t ht).size
  have hz := szs_le hsz
  have hza := szs_ands ts
  have hzl := szs_len (ts.flatMap Tr.ands)
  have hall : szs ts ≤ 7800 := by
    refine Nat.le_trans hz ?_
    omega
  walk_at "u"
  refine for_inv (fun i δ => ∃ s3, δ = [boxS x, .dt (.list (ts.map Tr.enc)), .dt (encO (joinT (ts.take i))), s3, .un, .un]) ⟨_, rfl⟩ (fun i d δ' N hx ⟨s3, e⟩ hN => ?_) fun δ' ⟨s3, e⟩ => ?_
  · subst e
    rw [List.getElem?_map] at hx
    obtain ⟨t, ht, rfl⟩ := Option.map_eq_some_iff.mp hx
    have e2 : joinT (ts.take (i + 1)) = match joinT (ts.take i) with | none => some t | some a => some (.bi .and a t) := by
      rw [List.take_add_one, ht, Option.toList_some, joinT_snoc]
    cases hj : joinT (ts.take i) with
    | none =>
      rw [hj] at e2
      walk_at "y"
      exact hN _ ⟨_, by rw [e2]; rfl⟩
    | some a =>
      rw [hj] at e2
      walk_at "y"
      refine ite_kF (enc_none a) ?_
      walk_at "y"
      exact hN _ ⟨_, by rw [e2]; rfl⟩
  · subst e
    have e1 : ts.take (ts.map Tr.enc).length = ts := by rw [List.length_map, List.take_length]
    rw [e1]
    walk_at "u"
    refine for_inv (fun i δ => ∃ s3, δ = [boxS x, .dt (.list (ts.map Tr.enc)), .dt (encO (joinT ts)), s3, .dt (.list (((ts.take i).flatMap Tr.ands).map Tr.enc)), .un]) ⟨_, rfl⟩ (fun i d δ' N hx ⟨s3, e⟩ hN => ?_) fun δ' ⟨s3, e⟩ => ?_
    · subst e
      rw [List.getElem?_map] at hx
      obtain ⟨t, ht, rfl⟩ := Option.map_eq_some_iff.mp hx
      have e2 : (ts.take (i + 1)).flatMap Tr.ands = (ts.take i).flatMap Tr.ands ++ t.ands := by
        rw [List.take_add_one, ht, Option.toList_some, List.flatMap_append]
        simp
      have htm := List.mem_of_getElem? ht
      have h1 := hsz t htm
      have h2 := ands_szs t
      have h3 := szs_len t.ands
      have h4 := szs_len ((ts.take i).flatMap Tr.ands)
      have h5 := szs_ands (ts.take i)
      have h6 : szs ts = szs (ts.take i) + szs (ts.drop i) := by rw [← szs_app, List.take_append_drop]
      walk_at "y"
      refine call_ok (by simp [bors]) (by simp [bors]) fun Q2 hQ => ⟨t, rfl, by omega, hQ _ _ rfl ?_⟩
      walk_at "s"
      walk_at "y"
      refine st_addL (by rw [List.length_map, List.length_map]; omega) ?_
      walk_at "y"
      exact hN _ ⟨_, by rw [e2, List.map_append]⟩
    · subst e
      rw [e1]
      have jz := joinT_size ts
      have jl : sizeO (joinT ts) ≤ 8000 := by omega
      have hL1 : ∀ u ∈ ts.flatMap Tr.ands, u.ands = [u] := fun u hu => by
        obtain ⟨t, _, hut⟩ := List.mem_flatMap.mp hu
        exact ands_one u hut
      have hLs : Sm 19 (.tuple ((ts.flatMap Tr.ands).map Tr.enc)) := (Sm.tup (n := 18) (by rw [List.length_map]; omega) fun d hd => by
        obtain ⟨u, hu, rfl⟩ := List.mem_map.mp hd
        obtain ⟨t, ht, hut⟩ := List.mem_flatMap.mp hu
        exact ands_sm (hts t ht).sm u hut)
      have jsm : Sm 58 (encO (joinT ts)) := (joinT_sm (n := 18) fun t ht => (hts t ht).sm).mono (by omega)
      walk_at "u"
      refine st_ifJ (fun δ => ∃ s3, δ = [boxS x, .dt (.list (ts.map Tr.enc)), .dt (encO (joinT ts)), s3, .dt (.list ((ts.flatMap Tr.ands).map Tr.enc)), .un]) (fun N hN => ?_) fun δ' ⟨s3, e⟩ => ?_
      · walk_at "y"
        refine ⟨rfl, ?_⟩
        rw [perm1]
        refine call_ok (by simp [bors]) (by simp [bors]) fun Q2 hQ => ⟨ts, rfl, hQ _ _ rfl ?_⟩
        walk_at "s"
        walk_at "y"
        refine call_ok (by simp [bors]) (by simp [bors]) fun Q2 hQ => ⟨_, 58, rfl, by omega, jsm, hQ _ _ rfl ?_⟩
        walk_at "s"
        walk_at "y"
        refine ⟨rfl, ?_⟩
        rw [perm1]
        refine call_ok (by simp [bors]) (by simp [bors]) fun Q2 hQ => ⟨joinT ts, rfl, by omega, hQ _ _ rfl ?_⟩
        walk_at "s"
        walk_at "y"
        rw [joinT_ands]
        refine call_ok (by simp [bors]) (by simp [bors]) fun Q2 hQ => ⟨_, 19, rfl, by omega, hLs, hQ _ _ rfl ?_⟩
        walk_at "s"
        walk_at "y"
        exact hN _ ⟨_, rfl⟩
      · subst e
        walk_at "y"
        refine call_ok (by simp [bors]) (by simp [bors]) fun Q2 hQ => ⟨joinT ts, rfl, by omega, hQ _ _ rfl ?_⟩
        walk_at "s"
        walk_at "y"
        rw [joinT_ands]
        refine call_ok (by simp [bors]) (by simp [bors]) fun Q2 hQ => ⟨ts.flatMap Tr.ands, rfl, hQ _ _ rfl ?_⟩
        walk_at "s"
        walk_at "y"
        have jz2 := joinT_size (ts.flatMap Tr.ands)
        refine call_ok (by simp [bors]) (by simp [bors]) fun Q2 hQ => ⟨joinT (ts.flatMap Tr.ands), rfl, by omega, hQ _ _ rfl ?_⟩
        walk_at "s"
        walk_at "y"
        rw [joinT_ands, flat_ands hL1]
        refine call_ok (by simp [bors]) (by simp [bors]) fun Q2 hQ => ⟨_, 19, rfl, by omega, hLs, hQ _ _ rfl ?_⟩
        walk_at "s"
        walk_at "y"
        have jh := joinT_hgt (n := 8) fun t ht => (hts t ht).hgt
        refine box_call1 (i := 0) rfl fun Q2 hQ2 => ⟨x, joinT ts, rfl, ok, ⟨joinT_ok fun t ht => (hts t ht).ok, jsm.mono (by omega), jl, by omega⟩, fun y hy => hQ2 _ _ ?_⟩
        walk_at "y"
        rw [hy.out2 _ _ _ rfl]
        exact q y hy
theorem expr_th {k : Nat} {t : Tr} (hk : k ≤ 6) (h : ExprOk k t) : ThOk (some t) := by
  have h1 := h.size
  have h2 := h.hgt
  refine ⟨fun u hu => by cases hu; exact h.ok, h.sm.mono (by omega), ?_, by show t.hgt ≤ _; omega⟩
  show t.size ≤ 8000
  have : es k ≤ es 6 := by
    unfold es
    have := Nat.pow_le_pow_right (show 0 < 2 by decide) hk
    omega
  rw [show es 6 = 191 from rfl] at this
  omega
theorem cs_le {k m : Nat} (h : k ≤ m) : cs k ≤ cs m := by
  unfold cs
  have := Nat.pow_le_pow_right (show 0 < 2 by decide) h
  omega
theorem cond_th {k : Nat} {t : Tr} (hk : k ≤ 5) (h : CondOk k t) : ThOk (some t) := by
  have h1 := h.size
  have h2 := h.hgt
  refine ⟨fun u hu => by cases hu; exact h.ok, h.sm.mono (by omega), ?_, by show t.hgt ≤ _; omega⟩
  show t.size ≤ 8000
  have := cs_le hk
  rw [show cs 5 = 1567 from rfl] at this
  omega
theorem cond_up {k m : Nat} {t : Tr} (hk : k ≤ m) (h : CondOk k t) : CondOk m t := by
  have h1 := h.size
  have h2 := h.hgt
  have := cs_le hk
  exact ⟨h.ok, h.sm.mono (by omega), by omega, by omega⟩
theorem th_none : ThOk none := ⟨fun t z => (by cases z), .non, (by show 1 ≤ 8000; decide), (by show 0 ≤ 300; decide)⟩
theorem right_ok {x : Bx} {δ : Dl} {i : Nat} {o : Option Tr} {k : D → Dl → Prop} (h : δ[i]? = some (boxS x)) (ok : x.Ok) (ho : ThOk o) (q : ∀ y : Bx, y.Ok → k (.bool true) (δ.set i (boxS y))) :
    CallOk [.sl i, .dt (encO o)] δ ∧ ∀ Q2 : RS → List SD → Prop, (∀ d as', as'.length = ([.sl i, .dt (encO o)] : List Ev).length → BackW [.sl i, .dt (encO o)] as' δ (k d) → Q2 (.dt d) as') → (∀ e as', as'.length = ([.sl i, .dt (encO o)] : List Ev).length → BackW [.sl i, .dt (encO o)] as' δ (xNo e) → Q2 (.exn e) as') → sp_law_is_right (([.sl i, .dt (encO o)] : List Ev).map (resW δ)) Q2 :=
  box_call1 h fun Q2 hQ2 => ⟨x, o, rfl, ok, ho, fun y hy => hQ2 _ _ (q y hy.ok)⟩
theorem begun_ok {x : Bx} {δ : Dl} {i : Nat} {b : Bool} {s : Int} {k : D → Dl → Prop} (h : δ[i]? = some (boxS x)) (ok : x.Ok) (q : ∀ y : Bx, y.Ok → k .none (δ.set i (boxS y))) :
    CallOk [.sl i, .dt (.bool b), .dt (.int s)] δ ∧ ∀ Q2 : RS → List SD → Prop, (∀ d as', as'.length = ([.sl i, .dt (.bool b), .dt (.int s)] : List Ev).length → BackW [.sl i, .dt (.bool b), .dt (.int s)] as' δ (k d) → Q2 (.dt d) as') → (∀ e as', as'.length = ([.sl i, .dt (.bool b), .dt (.int s)] : List Ev).length → BackW [.sl i, .dt (.bool b), .dt (.int s)] as' δ (xNo e) → Q2 (.exn e) as') → sp_law_begun (([.sl i, .dt (.bool b), .dt (.int s)] : List Ev).map (resW δ)) Q2 := by
  refine ⟨⟨by simp [borsW], fun j hj => ?_⟩, fun Q2 hQ2 _ => ⟨x, b, s, ?_, ok, fun y hy => hQ2 _ _ rfl ?_⟩⟩
  · simp [borsW] at hj
    subst hj
    exact lt_of_get h
  · show [(δ[i]?).getD .un, _, _] = _
    rw [h]
    rfl
  · exact q y hy.ok
theorem rp_law (as : List SD) (Q : RS → List SD → Prop) (h : spLaw as Q) : rd_law 6 100 7 { nx := fun δ => Q (.dt .none) (outs as δ), rt := fun d δ => Q d (outs as δ) } (startD 7 as) := by
  obtain ⟨ns, rfl, hl, q⟩ := h
  show rd_law 6 100 7 _ [.dt (.list (ns.map .int)), .un, .un, .un, .un, .un, .un]
  unfold rd_law
  walk_at "y"
  refine call_ok (by simp [bors]) (by simp [bors]) fun Q2 hQ => ⟨ns, rfl, hl, fun row hrow => hQ _ _ rfl ?_⟩
  walk_at "s"
  walk_at "y"
  rename_i g b
  refine ⟨b, _, [(b, .lst [.dt (.list (row.map .int)), .dt (.int 0), .dt (.bool true), .dt (.int 40), .rf g]), (g, .lst [])], rfl, ?_, ?_⟩
  · exact List.Perm.swap _ _ _
  have ok0 : (Bx.mk b g [(b, .lst [.dt (.list (row.map .int)), .dt (.int 0), .dt (.bool true), .dt (.int 40), .rf g]), (g, .lst [])] 0 row 0 true 40 []).Ok := ⟨rfl, rfl, by show 0 ≤ 4; decide, fun t ht => by simp at ht⟩
  have fin : ∀ d δ', δ'[0]? = some (.dt (.list (ns.map .int))) → Q d [.un] → Q d (outs [.dt (.list (ns.map .int))] δ') := by
    intro d δ' h hq
    cases δ' with
    | nil => simp at h
    | cons s ss =>
      simp at h
      subst h
      exact hq
  generalize hx0 : (Bx.mk b g [(b, .lst [.dt (.list (row.map .int)), .dt (.int 0), .dt (.bool true), .dt (.int 40), .rf g]), (g, .lst [])] 0 row 0 true 40 []) = x0 at ok0
  have e0 : (.ow b (OD.rg [(b, .lst [.dt (.list (row.map .int)), .dt (.int 0), .dt (.bool true), .dt (.int 40), .rf g]), (g, .lst [])]) : SD) = boxS x0 := by rw [← hx0]
  show (sSeq _ _) _ [_, _, _, _, _, _, _]
  rw [e0]
  walk_at "u"
  refine box_call1 (i := 1) rfl fun Q2 hQ2 => ⟨x0, 5, rfl, ok0, by omega, fun t0 x1 ht0 hx1 => hQ2 _ _ ?_⟩
  have ok1 := hx1.ok
  have th0 := cond_th (by omega) ht0
  walk_at "y"
  refine box_call1 (i := 1) rfl fun Q2 hQ2 => ⟨x1, [], rfl, ok1, by simp, fun t ht => by simp at ht, fun x2 hx2 => hQ2 _ _ ?_⟩
  walk_at "y"
  refine call_ok (by simp [bors]) (by simp [bors]) fun Q2 hQ => ⟨none, rfl, by show 1 ≤ _; omega, hQ _ _ rfl ?_⟩
  walk_at "s"
  walk_at "y"
  refine call_ok (by simp [bors]) (by simp [bors]) fun Q2 hQ => ⟨.tuple [], 1, rfl, by omega, .tup (by simp) (by simp), hQ _ _ rfl ?_⟩
  walk_at "s"
  walk_at "y"
  refine right_ok (i := 1) (o := none) rfl hx2.ok th_none fun x3 ok3 => ?_
  walk_at "y"
  refine right_ok (i := 1) (o := some t0) rfl ok3 th0 fun x4 ok4 => ?_
  walk_at "y"
  have hs0 : t0.size ≤ 8000 := th0.size
  have e1 : andsO (some t0) = t0.ands := by simp [andsO]
  have sm0 : Sm 81 (.tuple (t0.ands.map Tr.enc)) := .tup (n := 80) (by
    have h3 := szs_len t0.ands
    have h4 := ands_szs t0
    rw [List.length_map]
    omega) fun d hd => by
    obtain ⟨u, hu, rfl⟩ := List.mem_map.mp hd
    exact ands_sm th0.sm u hu
  refine call_ok (by simp [bors]) (by simp [bors]) fun Q2 hQ => ⟨some t0, rfl, by show t0.size ≤ _; omega, hQ _ _ rfl ?_⟩
  walk_at "s"
  walk_at "y"
  refine call_ok (by simp [bors]) (by simp [bors]) fun Q2 hQ => ⟨t0, rfl, by omega, hQ _ _ rfl ?_⟩
  walk_at "s"
  walk_at "y"
  rw [e1]
  refine call_ok (by simp [bors]) (by simp [bors]) fun Q2 hQ => ⟨_, 81, rfl, by omega, sm0, hQ _ _ rfl ?_⟩
  walk_at "s"
  walk_at "u"
  refine for_inv (fun i δ => ∃ (x : Bx) (s3 s4 s5 : SD), δ = [.dt (.list (ns.map .int)), boxS x, .dt t0.enc, s3, s4, s5, .un] ∧ x.Ok) ⟨x4, _, _, _, rfl, ok4⟩ (fun i d δ' N hx ⟨x, s3, s4, s5, e, ok⟩ hN => ?_) fun δ' ⟨x, s3, s4, s5, e, ok⟩ => ?_
  · subst e
    obtain ⟨kk, rfl, hk⟩ : ∃ kk : Nat, d = .int (kk : Int) ∧ kk ≤ 6 := by
      have := List.mem_of_getElem? hx
      simp at this
      rcases this with rfl | rfl | rfl | rfl
      · exact ⟨4, rfl, by omega⟩
      · exact ⟨5, rfl, by omega⟩
      · exact ⟨2, rfl, by omega⟩
      · exact ⟨6, rfl, by omega⟩
    walk_at "y"
    refine take_ok (i := 1) rfl ok (by omega) fun r y hr hy => ?_
    walk_at "y"
    refine begun_ok (i := 1) rfl hy.ok fun y2 oky2 => ?_
    walk_at "y"
    refine box_call1 (i := 1) rfl fun Q2 hQ2 => ⟨y2, kk, rfl, oky2, by omega, fun t y3 ht hy3 => hQ2 _ _ ?_⟩
    walk_at "y"
    refine right_ok (i := 1) (o := some t) rfl hy3.ok (expr_th hk ht) fun y4 oky4 => ?_
    walk_at "y"
    exact hN _ ⟨y4, _, _, _, rfl, oky4⟩
  · subst e
    walk_at "u"
    refine for_inv (fun i δ => ∃ (x : Bx) (s3 s4 s5 : SD), δ = [.dt (.list (ns.map .int)), boxS x, .dt t0.enc, s3, s4, s5, .un] ∧ x.Ok) ⟨x, _, _, _, rfl, ok⟩ (fun i d δ' N hx ⟨x, s3, s4, s5, e, ok⟩ hN => ?_) fun δ' ⟨x, s3, s4, s5, e, ok⟩ => ?_
    · subst e
      obtain ⟨kk, rfl, hk⟩ : ∃ kk : Nat, d = .int (kk : Int) ∧ kk ≤ 5 := by
        have := List.mem_of_getElem? hx
        simp at this
        rcases this with rfl | rfl
        · exact ⟨5, rfl, by omega⟩
        · exact ⟨2, rfl, by omega⟩
      walk_at "y"
      refine begun_ok (i := 1) rfl ok fun y2 oky2 => ?_
      walk_at "y"
      refine box_call1 (i := 1) rfl fun Q2 hQ2 => ⟨y2, kk, rfl, oky2, by omega, fun t y3 ht hy3 => hQ2 _ _ ?_⟩
      walk_at "y"
      refine right_ok (i := 1) (o := some t) rfl hy3.ok (cond_th hk ht) fun y4 oky4 => ?_
      walk_at "y"
      exact hN _ ⟨y4, _, _, _, rfl, oky4⟩
    · subst e
      walk_at "u"
      refine for_inv (fun i δ => ∃ (x : Bx) (s3 s4 s5 : SD), δ = [.dt (.list (ns.map .int)), boxS x, .dt t0.enc, s3, s4, s5, .un] ∧ x.Ok) ⟨x, _, _, _, rfl, ok⟩ (fun i d δ' N hx ⟨x, s3, s4, s5, e, ok⟩ hN => ?_) fun δ' ⟨x, s3, s4, s5, e, ok⟩ => ?_
      · subst e
        obtain ⟨kk, rfl, hk⟩ : ∃ kk : Nat, d = .int (kk : Int) ∧ kk ≤ 40 := by
          have := List.mem_of_getElem? hx
          simp at this
          rcases this with rfl | rfl
          · exact ⟨3, rfl, by omega⟩
          · exact ⟨40, rfl, by omega⟩
        walk_at "y"
        refine take_ok (i := 1) rfl ok (by omega) fun r y hr hy => ?_
        obtain ⟨m, hm, e2⟩ : ∃ m : Nat, m ≤ 40 ∧ atI [PyData.int 1, PyData.int 2, PyData.int 3, PyData.int 4, PyData.int 6, PyData.int 40] (r : Int) = some (.int (m : Int)) := by
          rw [atI_cast]
          have : r < 6 := by omega
          rcases (show r = 0 ∨ r = 1 ∨ r = 2 ∨ r = 3 ∨ r = 4 ∨ r = 5 by omega) with rfl | rfl | rfl | rfl | rfl | rfl
          · exact ⟨1, by omega, rfl⟩
          · exact ⟨2, by omega, rfl⟩
          · exact ⟨3, by omega, rfl⟩
          · exact ⟨4, by omega, rfl⟩
          · exact ⟨6, by omega, rfl⟩
          · exact ⟨40, by omega, rfl⟩
        refine st_ixL e2 ?_
        walk_at "y"
        obtain ⟨mm, hmm, emm⟩ : ∃ mm : Nat, mm ≤ 40 ∧ (if (m : Int) < (kk : Int) then (m : Int) else (kk : Int)) = (mm : Int) := by
          split
          · exact ⟨m, hm, rfl⟩
          · exact ⟨kk, hk, rfl⟩
        rw [emm]
        refine begun_ok (i := 1) rfl hy.ok fun y2 oky2 => ?_
        walk_at "y"
        refine st_lc (own1 rfl rfl) ?_
        walk_at "y"
        refine ⟨(mm : Int), rfl, by omega, by omega, ?_⟩
        rw [Int.toNat_natCast]
        refine ⟨own1 rfl rfl, lc_inv (fun j acc δ => ∃ (ts : List Tr) (y : Bx), acc = ts.map Tr.enc ∧ ts.length = j ∧ (∀ t ∈ ts, CondOk 2 t) ∧ δ = [.dt (.list (ns.map .int)), boxS y, .dt t0.enc, s3, .dt (.int (kk : Int)), .dt (.int (mm : Int)), .un] ∧ y.Ok) ⟨[], y2, rfl, rfl, fun t ht => by simp at ht, rfl, oky2⟩ (fun j d acc δ' N' hx ⟨ts, y, ea, hj, hts, e, oky⟩ hN' => ?_) fun acc δ' ⟨ts, y, ea, hj, hts, e, oky⟩ => ?_⟩
        · subst e ea
          obtain ⟨hjm, rfl⟩ := rngD_get hx
          walk_at "s"
          walk_at "y"
          obtain ⟨dd, hdd, ed⟩ : ∃ dd : Nat, dd ≤ 2 ∧ ((if decide (0 + (j : Int) < 7) = true then 1 else 0) * 2 : Int) = (dd : Int) := by
            split
            · exact ⟨2, by omega, rfl⟩
            · exact ⟨0, by omega, rfl⟩
          rw [ed]
          refine box_call1 (i := 1) rfl fun Q2 hQ2 => ⟨y, dd, rfl, oky, by omega, fun t y3 ht hy3 => hQ2 _ _ ?_⟩
          refine ⟨by rw [List.length_map]; omega, hN' _ _ ⟨ts ++ [t], y3, by rw [enc_snoc], by rw [List.length_append, List.length_singleton]; omega, fun u hu => ?_, rfl, hy3.ok⟩⟩
          rcases List.mem_append.mp hu with hu | hu
          · exact hts u hu
          · rw [List.mem_singleton] at hu
            subst hu
            exact cond_up hdd ht
        · subst e ea
          rw [rngD_len] at hj
          walk_at "y"
          refine box_call1 (i := 1) rfl fun Q2 hQ2 => ⟨y, ts, rfl, oky, by omega, hts, fun y3 hy3 => hQ2 _ _ ?_⟩
          walk_at "y"
          exact hN _ ⟨y3, _, _, _, rfl, hy3.ok⟩
      · subst e
        have okk : ∀ t ∈ preO (some t0), t.Ok := fun t ht => pre_ok ht0.ok t (by simpa [preO] using ht)
        walk_at "y"
        refine call_ok (by simp [bors]) (by simp [bors]) fun Q2 hQ => ⟨some t0, rfl, by show t0.size ≤ _; omega, th0.ok, hQ _ _ rfl ?_⟩
        walk_at "s"
        walk_at "y"
        refine call_ok (by simp [bors]) (by simp [bors]) fun Q2 hQ => ⟨some t0, "col", rfl, by show t0.size ≤ _; omega, th0.ok, fun t ht hw => Nat.le_trans (key_sm (key_word (.inl hw)) (okk t ht)).depth (by decide), hQ _ _ rfl ?_⟩
        walk_at "s"
        walk_at "y"
        rw [colsO_two]
        refine call_ok (by simp [bors]) (by simp [bors]) fun Q2 hQ => ⟨_, 3, rfl, by omega, uniq_sm th0 (.inl rfl), hQ _ _ rfl ?_⟩
        walk_at "s"
        walk_at "y"
        refine call_ok (by simp [bors]) (by simp [bors]) fun Q2 hQ => ⟨some t0, rfl, by show t0.size ≤ _; omega, hQ _ _ rfl ?_⟩
        walk_at "s"
        walk_at "y"
        refine call_ok (by simp [bors]) (by simp [bors]) fun Q2 hQ => ⟨t0, rfl, by omega, hQ _ _ rfl ?_⟩
        walk_at "s"
        walk_at "y"
        rw [e1]
        refine call_ok (by simp [bors]) (by simp [bors]) fun Q2 hQ => ⟨_, 81, rfl, by omega, sm0, hQ _ _ rfl ?_⟩
        walk_at "s"
        walk_at "o"
        exact q
section
variable {P : Program} {w : World} {K : PySem.W.Frag} {mg : Str → Option Value} {base : Heap}
theorem ok_part_places {dsp : DSp} {k : Nat} (Y : Fs K mg) (T : Bt w K mg)  (len : ∀ as Q, dsp as Q → as.length = 1)
    (rp : ∀ (as : List SD) (Q : RS → List SD → Prop), dsp as Q → rd_part_places { nx := fun δ => Q (.dt .none) (outs as δ), rt := fun d δ => Q d (outs as δ) } (startD 1 as)) :
    FnOk P w K mg base (L2.CX P w) (k + 1) Y.a_part_places Y.d_part_places ["thing"] (spOf K dsp) :=
  fn_ok (t := fun _ => rd_part_places) Y.F_part_places sc_part_places len (by decide) (fun cdv A outer s H E xk tk hr => ⟨_,
    (js_one (js_ret (je_getK T.k_TREE_PARTS (je_ix (je_var 0) je_int) (je_tup ja_nil))))⟩) rp
theorem ok_members {dsp : DSp} {k : Nat} (Y : Fs K mg) (T : Bt w K mg)  (len : ∀ as Q, dsp as Q → as.length = 1)
    (rp : ∀ (as : List SD) (Q : RS → List SD → Prop), dsp as Q → rd_members { nx := fun δ => Q (.dt .none) (outs as δ), rt := fun d δ => Q d (outs as δ) } (startD 4 as)) :
    FnOk P w K mg base (L2.CX P w) (k + 1) Y.a_members Y.d_members ["cond"] (spOf K dsp) :=
  fn_ok (t := fun _ => rd_members) Y.F_members sc_members len (by decide) (fun cdv A outer s H E xk tk hr => ⟨_,
    (js_cons (js_own (i := 1) sc_members.nd (jn_lst ja_nil)) (js_cons (js_own (i := 2) sc_members.nd (jn_ifExp (jt_isN (je_var 0)) (jn_lst ja_nil) (jn_lst (ja_cons (je_var 0) ja_nil)))) (js_cons (js_while (jt_truO 2) (js_cons (js_set (i := 3) sc_members.nd (je_pop 2)) (js_one (js_if (jt_cmp (do_eq (huD hr)) (je_ix (je_var 3) je_int) je_str) (js_cons (js_app 2 (je_ix (je_var 3) je_int)) (js_one (js_app 2 (je_ix (je_var 3) je_int)))) (js_one (js_app 1 (je_var 3)))))) (hp := by first | exact PassesOwn.never | exact passes_of rfl)) (js_one (js_ret (je_callTy cd_tuple rfl T.b_tuple (by decide +kernel) (ja_cons (je_frz 1) ja_nil)))))))⟩) rp
theorem ok_joined {dsp : DSp} {k : Nat} (Y : Fs K mg) (T : Bt w K mg)  (len : ∀ as Q, dsp as Q → as.length = 1)
    (rp : ∀ (as : List SD) (Q : RS → List SD → Prop), dsp as Q → rd_joined { nx := fun δ => Q (.dt .none) (outs as δ), rt := fun d δ => Q d (outs as δ) } (startD 3 as)) :
    FnOk P w K mg base (L2.CX P w) (k + 1) Y.a_joined Y.d_joined ["conds"] (spOf K dsp) :=
  fn_ok (t := fun _ => rd_joined) Y.F_joined sc_joined len (by decide) (fun cdv A outer s H E xk tk hr => ⟨_,
    (js_cons (js_set (i := 1) sc_joined.nd je_non) (js_cons (js_for rfl (ji_seq (je_var 0)) (jg_name (i := 2) sc_joined.nd) (js_one (js_set (i := 1) sc_joined.nd (je_ifExp (jt_isN (je_var 1)) (je_var 2) (je_tup (ja_cons je_str (ja_cons (je_var 1) (ja_cons (je_var 2) ja_nil))))))) (hp := by first | exact PassesOwn.never | exact passes_of rfl)) (js_one (js_ret (je_var 1)))))⟩) rp
theorem ok_height {dsp : DSp} {k : Nat} (Y : Fs K mg) (T : Bt w K mg) {k_part_places : Nat} (hk_part_places : k_part_places ≤ k) (G_part_places : FnOk P w K mg base (L2.CX P w) k_part_places Y.a_part_places Y.d_part_places ["thing"] (spOf K sp_part_places)) (len : ∀ as Q, dsp as Q → as.length = 1)
    (rp : ∀ (as : List SD) (Q : RS → List SD → Prop), dsp as Q → rd_height { nx := fun δ => Q (.dt .none) (outs as δ), rt := fun d δ => Q d (outs as δ) } (startD 5 as)) :
    FnOk P w K mg base (L2.CX P w) (k + 1) Y.a_height Y.d_height ["thing"] (spOf K dsp) :=
  fn_ok (t := fun _ => rd_height) Y.F_height sc_height len (by decide) (fun cdv A outer s H E xk tk hr => ⟨_,
    (js_cons (js_set (i := 1) sc_height.nd je_int) (js_cons (js_own (i := 2) sc_height.nd (jn_ifExp (jt_isN (je_var 0)) (jn_lst ja_nil) (jn_lst (ja_cons (je_var 0) ja_nil)))) (js_cons (js_while (jt_truO 2) (js_cons (js_aug (i := 1) ip_add sc_height.nd je_int) (js_one (js_ownLc2 (own := [("one", 3), ("place", 4)]) (vs1 := [4]) rfl sc_height.nd (ji_seq (je_frz 2)) (blkOk_by (N := ["thing", "many", "level", "one", "place"]) (sc := defScope s_height) (by decide +kernel)) (fun _ _ _ _ _ => (pg_name (i := 3) sc_height.nd rfl (Or.inl rfl))) (gw_name (i := 3) (by decide)) (fun _ _ _ _ _ => by exact (ji_seq (je_call G_part_places (hr.mono hk_part_places) Y.m_part_places Y.F_part_places.kp Y.b_part_places (jc_cons (je_var 3) jc_nil)))) (fun _ _ _ _ _ => (pg_name (i := 4) sc_height.nd rfl (Or.inl rfl))) (gw_name (i := 4) (by decide)) (fun _ _ _ _ _ => by exact (je_ix (je_var 3) (je_var 4))) (n := 2)))) (hp := by first | exact PassesOwn.never | exact passes_of rfl)) (js_one (js_ret (je_var 1))))))⟩) rp
theorem ok_columns_in {dsp : DSp} {k : Nat} (Y : Fs K mg) (T : Bt w K mg) {k_tree_leaves : Nat} (hk_tree_leaves : k_tree_leaves ≤ k) (G_tree_leaves : FnOk P w K mg base (L2.CX P w) k_tree_leaves Y.a_tree_leaves Y.d_tree_leaves ["thing"] (spOf K sp_tree_leaves)) {k_agg_column : Nat} (hk_agg_column : k_agg_column ≤ k) (G_agg_column : FnOk P w K mg base (L2.CX P w) k_agg_column Y.a_agg_column Y.d_agg_column ["agg"] (spOf K sp_agg_column)) (len : ∀ as Q, dsp as Q → as.length = 1)
    (rp : ∀ (as : List SD) (Q : RS → List SD → Prop), dsp as Q → rd_columns_in { nx := fun δ => Q (.dt .none) (outs as δ), rt := fun d δ => Q d (outs as δ) } (startD 4 as)) :
    FnOk P w K mg base (L2.CX P w) (k + 1) Y.a_columns_in Y.d_columns_in ["thing"] (spOf K dsp) :=
  fn_ok (t := fun _ => rd_columns_in) Y.F_columns_in sc_columns_in len (by decide) (fun cdv A outer s H E xk tk hr => ⟨_,
    (js_cons (js_own (i := 1) sc_columns_in.nd (jn_lst ja_nil)) (js_cons (js_for rfl (ji_seq (je_new (jn_call G_tree_leaves (hr.mono hk_tree_leaves) Y.m_tree_leaves Y.F_tree_leaves.kp Y.b_tree_leaves (jc_cons (je_var 0) jc_nil)))) (jg_name (i := 2) sc_columns_in.nd) (js_cons (js_set (i := 3) sc_columns_in.nd (je_var 2)) (js_cons (js_if (jt_cmp (do_eq (huD hr)) (je_ix (je_var 2) je_int) je_str) (js_one (js_set (i := 3) sc_columns_in.nd (je_call G_agg_column (hr.mono hk_agg_column) Y.m_agg_column Y.F_agg_column.kp Y.b_agg_column (jc_cons (je_var 2) jc_nil)))) js_nil) (js_one (js_if (JW.jt (jw_and (jt_notN (je_var 3)) (jw_and (jt_cmp (do_eq (huD hr)) (je_ix (je_var 3) je_int) je_str) (jw_and1 (jt_notInO (huD hr) 1 (je_var 3)))))) (js_one (js_app 1 (je_var 3))) js_nil)))) (hp := by first | exact PassesOwn.never | exact passes_of rfl)) (js_one (js_ret (je_callTy cd_tuple rfl T.b_tuple (by decide +kernel) (ja_cons (je_frz 1) ja_nil))))))⟩) rp
theorem ok_aggs_in {dsp : DSp} {k : Nat} (Y : Fs K mg) (T : Bt w K mg) {k_tree_leaves : Nat} (hk_tree_leaves : k_tree_leaves ≤ k) (G_tree_leaves : FnOk P w K mg base (L2.CX P w) k_tree_leaves Y.a_tree_leaves Y.d_tree_leaves ["thing"] (spOf K sp_tree_leaves)) (len : ∀ as Q, dsp as Q → as.length = 1)
    (rp : ∀ (as : List SD) (Q : RS → List SD → Prop), dsp as Q → rd_aggs_in { nx := fun δ => Q (.dt .none) (outs as δ), rt := fun d δ => Q d (outs as δ) } (startD 3 as)) :
    FnOk P w K mg base (L2.CX P w) (k + 1) Y.a_aggs_in Y.d_aggs_in ["thing"] (spOf K dsp) :=
  fn_ok (t := fun _ => rd_aggs_in) Y.F_aggs_in sc_aggs_in len (by decide) (fun cdv A outer s H E xk tk hr => ⟨_,
    (js_cons (js_own (i := 1) sc_aggs_in.nd (jn_lst ja_nil)) (js_cons (js_for rfl (ji_seq (je_new (jn_call G_tree_leaves (hr.mono hk_tree_leaves) Y.m_tree_leaves Y.F_tree_leaves.kp Y.b_tree_leaves (jc_cons (je_var 0) jc_nil)))) (jg_name (i := 2) sc_aggs_in.nd) (js_one (js_if (JW.jt (jw_and (jt_cmp (do_eq (huD hr)) (je_ix (je_var 2) je_int) je_str) (jw_and1 (jt_notInO (huD hr) 1 (je_var 2))))) (js_one (js_app 1 (je_var 2))) js_nil)) (hp := by first | exact PassesOwn.never | exact passes_of rfl)) (js_one (js_ret (je_callTy cd_tuple rfl T.b_tuple (by decide +kernel) (ja_cons (je_frz 1) ja_nil))))))⟩) rp
theorem ok_replaced {n : Nat} {dsp : DSp} {k : Nat} (Y : Fs K mg) (T : Bt w K mg) {k_agg_column : Nat} (hk_agg_column : k_agg_column ≤ k) (G_agg_column : FnOk P w K mg base (L2.CX P w) k_agg_column Y.a_agg_column Y.d_agg_column ["agg"] (spOf K sp_agg_column)) {k_replaced : Nat} (hk_replaced : k_replaced ≤ k) (G_replaced : FnOk P w K mg base (L2.CX P w) k_replaced Y.a_replaced Y.d_replaced ["thing", "table"] (spOf K (sp_replaced P w n))) {k_part_places : Nat} (hk_part_places : k_part_places ≤ k) (G_part_places : FnOk P w K mg base (L2.CX P w) k_part_places Y.a_part_places Y.d_part_places ["thing"] (spOf K sp_part_places)) (len : ∀ as Q, dsp as Q → as.length = 2)
    (rp : ∀ (as : List SD) (Q : RS → List SD → Prop), dsp as Q → (rd_replaced P w n) { nx := fun δ => Q (.dt .none) (outs as δ), rt := fun d δ => Q d (outs as δ) } (startD 5 as)) :
    FnOk P w K mg base (L2.CX P w) (k + 1) Y.a_replaced Y.d_replaced ["thing", "table"] (spOf K dsp) :=
  fn_ok (t := fun _ => (rd_replaced P w n)) Y.F_replaced sc_replaced len (by decide) (fun cdv A outer s H E xk tk hr => ⟨_,
    (js_frzN 1 (js_cons (js_if (jt_isN (je_var 0)) (js_one (js_ret je_non)) js_nil) (js_cons (js_if (JW.jt (jw_and (jt_cmp (do_in (huD hr)) (je_ix (je_var 0) je_int) (je_tup (ja_cons je_str (ja_cons je_str ja_nil)))) (jw_and1 (jt_inF (huD hr) 1 (je_var 0))))) (js_one (js_ret (je_ixF (huD hr) 1 (je_var 0)))) js_nil) (js_cons (js_own (i := 2) sc_replaced.nd (jn_callTy cn_list rfl T.b_list (by decide +kernel) (ja_cons (je_var 0) ja_nil))) (js_cons (js_if (jt_cmp (do_eq (huD hr)) (je_ix (je_var 0) je_int) je_str) (js_cons (js_set (i := 3) sc_replaced.nd (je_call G_agg_column (hr.mono hk_agg_column) Y.m_agg_column Y.F_agg_column.kp Y.b_agg_column (jc_cons (je_var 0) jc_nil))) (js_cons (js_if (jt_notN (je_var 3)) (js_one (js_setO 2 je_int (je_m (jm_call G_replaced (hr.mono hk_replaced) Y.m_replaced Y.F_replaced.kp Y.b_replaced (jq_cons (je_var 3) (jq_own 1 jq_nil)))))) js_nil) (js_one (js_ret (je_callTy cd_tuple rfl T.b_tuple (by decide +kernel) (ja_cons (je_frz 2) ja_nil)))))) js_nil) (js_cons (js_for rfl (ji_seq (je_call G_part_places (hr.mono hk_part_places) Y.m_part_places Y.F_part_places.kp Y.b_part_places (jc_cons (je_var 0) jc_nil))) (jg_name (i := 4) sc_replaced.nd) (js_one (js_setO 2 (je_var 4) (je_m (jm_call G_replaced (hr.mono hk_replaced) Y.m_replaced Y.F_replaced.kp Y.b_replaced (jq_cons (je_ix (je_var 0) (je_var 4)) (jq_own 1 jq_nil)))))) (hp := by first | exact PassesOwn.never | exact passes_of rfl)) (js_one (js_ret (je_callTy cd_tuple rfl T.b_tuple (by decide +kernel) (ja_cons (je_frz 2) ja_nil))))))))))⟩) rp
theorem ok_tree_leaves {dsp : DSp} {k : Nat} (Y : Fs K mg) (T : Bt w K mg) {k_part_places : Nat} (hk_part_places : k_part_places ≤ k) (G_part_places : FnOk P w K mg base (L2.CX P w) k_part_places Y.a_part_places Y.d_part_places ["thing"] (spOf K sp_part_places)) (len : ∀ as Q, dsp as Q → as.length = 1)
    (rp : ∀ (as : List SD) (Q : RS → List SD → Prop), dsp as Q → rd_tree_leaves { nx := fun δ => Q (.dt .none) (outs as δ), rt := fun d δ => Q d (outs as δ) } (startD 6 as)) :
    FnOk P w K mg base (L2.CX P w) (k + 1) Y.a_tree_leaves Y.d_tree_leaves ["thing"] (spOf K dsp) :=
  fn_ok (t := fun _ => rd_tree_leaves) Y.F_tree_leaves sc_tree_leaves len (by decide) (fun cdv A outer s H E xk tk hr => ⟨_,
    (js_cons (js_own (i := 1) sc_tree_leaves.nd (jn_lst ja_nil)) (js_cons (js_own (i := 2) sc_tree_leaves.nd (jn_ifExp (jt_isN (je_var 0)) (jn_lst ja_nil) (jn_lst (ja_cons (je_var 0) ja_nil)))) (js_cons (js_while (jt_truO 2) (js_cons (js_set (i := 3) sc_tree_leaves.nd (je_pop 2)) (js_cons (js_set (i := 4) sc_tree_leaves.nd (je_call G_part_places (hr.mono hk_part_places) Y.m_part_places Y.F_part_places.kp Y.b_part_places (jc_cons (je_var 3) jc_nil))) (js_cons (js_if (jt_cmp (do_eq (huD hr)) (je_var 4) (je_tup ja_nil)) (js_one (js_app 1 (je_var 3))) js_nil) (js_one (js_for rfl (ji_seq (je_revT (je_var 4))) (jg_name (i := 5) sc_tree_leaves.nd) (js_one (js_app 2 (je_ix (je_var 3) (je_var 5)))) (hp := by first | exact PassesOwn.never | exact passes_of rfl)))))) (hp := by first | exact PassesOwn.never | exact passes_of rfl)) (js_one (js_retOwn 1)))))⟩) rp
theorem ok_agg_column {dsp : DSp} {k : Nat} (Y : Fs K mg) (T : Bt w K mg)  (len : ∀ as Q, dsp as Q → as.length = 1)
    (rp : ∀ (as : List SD) (Q : RS → List SD → Prop), dsp as Q → rd_agg_column { nx := fun δ => Q (.dt .none) (outs as δ), rt := fun d δ => Q d (outs as δ) } (startD 1 as)) :
    FnOk P w K mg base (L2.CX P w) (k + 1) Y.a_agg_column Y.d_agg_column ["agg"] (spOf K dsp) :=
  fn_ok (t := fun _ => rd_agg_column) Y.F_agg_column sc_agg_column len (by decide) (fun cdv A outer s H E xk tk hr => ⟨_,
    (js_one (js_ret (je_ifExp (jt_cmp (do_eq (huD hr)) (je_callB cd_len rfl T.b_len PySem.boot_len (ja_cons (je_var 0) ja_nil)) je_int) (je_ix (je_var 0) je_int) je_non)))⟩) rp
theorem ok_law_numbers {dsp : DSp} {k : Nat} (Y : Fs K mg) (T : Bt w K mg)  (len : ∀ as Q, dsp as Q → as.length = 1)
    (rp : ∀ (as : List SD) (Q : RS → List SD → Prop), dsp as Q → rd_law_numbers { nx := fun δ => Q (.dt .none) (outs as δ), rt := fun d δ => Q d (outs as δ) } (startD 8 as)) :
    FnOk P w K mg base (L2.CX P w) (k + 1) Y.a_law_numbers Y.d_law_numbers ["_law_script"] (spOf K dsp) :=
  fn_ok (t := fun _ => rd_law_numbers) Y.F_law_numbers sc_law_numbers len (by decide) (fun cdv A outer s H E xk tk hr => ⟨_,
    (js_cons (js_own (i := 1) sc_law_numbers.nd (jn_lst ja_nil)) (js_cons (js_set (i := 2) sc_law_numbers.nd je_int) (js_cons (js_for rfl (ji_range1 rfl T.b_range (ja_cons (je_callB cd_len rfl T.b_len PySem.boot_len (ja_cons (je_var 0) ja_nil)) ja_nil)) (jg_name (i := 3) sc_law_numbers.nd) (js_cons (js_set (i := 4) sc_law_numbers.nd (je_callB cd_abs rfl T.b_abs (by decide +kernel) (ja_cons (je_callTy cd_int rfl T.b_int (by decide +kernel) (ja_cons (je_ix (je_var 0) (je_var 3)) ja_nil)) ja_nil))) (js_cons (js_set (i := 5) sc_law_numbers.nd (je_cmp (do_ge (huD hr)) (je_var 4) (je_op do_pow je_int je_int))) (js_cons (js_set (i := 6) sc_law_numbers.nd (je_op do_add (je_op do_add (je_op do_add (je_op do_mul (je_var 4) je_int) (je_callTy cd_int rfl T.b_int (by decide +kernel) (ja_cons (je_cmp (do_lt (huD hr)) (je_ix (je_var 0) (je_var 3)) je_int) ja_nil))) (je_op do_mul (je_var 3) je_int)) je_int)) (js_cons (js_set (i := 2) sc_law_numbers.nd (je_op do_mod (je_callTy cd_int rfl T.b_int (by decide +kernel) (ja_cons (je_op do_add (je_op do_mul (je_var 2) je_int) (je_var 6)) ja_nil)) je_int)) (js_one (js_for rfl (ji_range1 rfl T.b_range (ja_cons (je_ix (je_new (jn_lst (ja_cons je_int (ja_cons je_int ja_nil)))) (je_callTy cd_int rfl T.b_int (by decide +kernel) (ja_cons (je_var 5) ja_nil))) ja_nil)) (jg_name (i := 7) sc_law_numbers.nd) (js_cons (js_set (i := 6) sc_law_numbers.nd (je_op do_mod (je_callTy cd_int rfl T.b_int (by decide +kernel) (ja_cons (je_op do_add (je_op do_add (je_op do_mul (je_var 6) je_int) (je_op do_mul (je_var 7) je_int)) je_int) ja_nil)) je_int)) (js_cons (js_if (jt_not (jt_val (je_var 5))) (js_one (js_app 1 (je_op do_fdiv (je_op do_mod (je_callTy cd_int rfl T.b_int (by decide +kernel) (ja_cons (je_op do_add (je_op do_add (je_op do_mul (je_var 6) (je_var 6)) (je_op do_mul (je_var 3) je_int)) (je_var 7)) ja_nil)) je_int) je_int))) (js_one (js_if (jt_cmp (do_gt (huD hr)) (je_var 4) je_int) (js_one (js_app 1 (je_op do_mod (je_callTy cd_int rfl T.b_int (by decide +kernel) (ja_cons (je_var 4) ja_nil)) je_int))) js_nil))) (js_one (js_set (i := 4) sc_law_numbers.nd (je_op do_fdiv (je_var 4) je_int))))) (hp := by first | exact PassesOwn.never | exact passes_of rfl))))))) (hp := by first | exact PassesOwn.never | exact passes_of rfl)) (js_cons (js_for rfl (ji_range1 rfl T.b_range (ja_cons (je_callB (cd_max2 rfl) rfl T.b_max (by decide +kernel) (ja_cons je_int (ja_cons (je_op do_sub je_int (je_lenO 1 rfl T.b_len)) ja_nil))) ja_nil)) (jg_name (i := 7) sc_law_numbers.nd) (js_cons (js_set (i := 2) sc_law_numbers.nd (je_op do_mod (je_callTy cd_int rfl T.b_int (by decide +kernel) (ja_cons (je_op do_add (je_op do_add (je_op do_mul (je_var 2) je_int) (je_op do_mul (je_var 7) je_int)) je_int) ja_nil)) je_int)) (js_one (js_app 1 (je_op do_fdiv (je_op do_mod (je_callTy cd_int rfl T.b_int (by decide +kernel) (ja_cons (je_op do_add (je_op do_mul (je_var 2) (je_var 2)) (je_var 7)) ja_nil)) je_int) je_int)))) (hp := by first | exact PassesOwn.never | exact passes_of rfl)) (js_one (js_retNew (jn_sliceO 1 jo_none (jo_some je_int))))))))⟩) rp
theorem ok_law_take {dsp : DSp} {k : Nat} (Y : Fs K mg) (T : Bt w K mg)  (len : ∀ as Q, dsp as Q → as.length = 2)
    (rp : ∀ (as : List SD) (Q : RS → List SD → Prop), dsp as Q → rd_law_take { nx := fun δ => Q (.dt .none) (outs as δ), rt := fun d δ => Q d (outs as δ) } (startD 2 as)) :
    FnOk P w K mg base (L2.CX P w) (k + 1) Y.a_law_take Y.d_law_take ["_law_box", "_law_many"] (spOf K dsp) :=
  fn_ok (t := fun _ => rd_law_take) Y.F_law_take sc_law_take len (by decide) (fun cdv A outer s H E xk tk hr => ⟨_,
    (js_cons (js_setI (jv_ref 0) je_int (jv_dt (je_op do_add (je_v (jv_ix (jv_ref 0) je_int)) je_int))) (js_cons (js_if (jt_cmp (do_gt (huD hr)) (je_v (jv_ix (jv_ref 0) je_int)) (je_callB cd_len rfl T.b_len PySem.boot_len (ja_cons (je_v (jv_ix (jv_ref 0) je_int)) ja_nil))) (js_one (js_ret je_int)) js_nil) (js_one (js_ret (je_op do_mod (je_callTy cd_int rfl T.b_int (by decide +kernel) (ja_cons (je_ix (je_v (jv_ix (jv_ref 0) je_int)) (je_op do_sub (je_v (jv_ix (jv_ref 0) je_int)) je_int)) ja_nil)) (je_var 1))))))⟩) rp
theorem ok_law_begun {dsp : DSp} {k : Nat} (Y : Fs K mg) (T : Bt w K mg)  (len : ∀ as Q, dsp as Q → as.length = 3)
    (rp : ∀ (as : List SD) (Q : RS → List SD → Prop), dsp as Q → rd_law_begun { nx := fun δ => Q (.dt .none) (outs as δ), rt := fun d δ => Q d (outs as δ) } (startD 3 as)) :
    FnOk P w K mg base (L2.CX P w) (k + 1) Y.a_law_begun Y.d_law_begun ["_law_box", "_law_plain", "_law_signs"] (spOf K dsp) :=
  fn_ok (t := fun _ => rd_law_begun) Y.F_law_begun sc_law_begun len (by decide) (fun cdv A outer s H E xk tk hr => ⟨_,
    (js_cons (js_setI (jv_ref 0) je_int (jv_dt (je_var 1))) (js_cons (js_setI (jv_ref 0) je_int (jv_dt (je_var 2))) (js_one (js_setI (jv_ref 0) je_int (jv_lst jvs_nil)))))⟩) rp
theorem ok_law_col {dsp : DSp} {k : Nat} (Y : Fs K mg) (T : Bt w K mg) {k_law_take : Nat} (hk_law_take : k_law_take ≤ k) (G_law_take : FnOk P w K mg base (L2.CX P w) k_law_take Y.a_law_take Y.d_law_take ["_law_box", "_law_many"] (spOf K sp_law_take)) (len : ∀ as Q, dsp as Q → as.length = 1)
    (rp : ∀ (as : List SD) (Q : RS → List SD → Prop), dsp as Q → rd_law_col { nx := fun δ => Q (.dt .none) (outs as δ), rt := fun d δ => Q d (outs as δ) } (startD 2 as)) :
    FnOk P w K mg base (L2.CX P w) (k + 1) Y.a_law_col Y.d_law_col ["_law_box"] (spOf K dsp) :=
  fn_ok (t := fun _ => rd_law_col) Y.F_law_col sc_law_col len (by decide) (fun cdv A outer s H E xk tk hr => ⟨_,
    (js_cons (js_set (i := 1) sc_law_col.nd (je_m (jm_call G_law_take (hr.mono hk_law_take) Y.m_law_take Y.F_law_take.kp Y.b_law_take (jq_own 0 (jq_cons je_int jq_nil))))) (js_cons (js_if (JW.jt (jw_or (jt_cmp (do_lt (huD hr)) (je_var 1) je_int) (jw_or1 (JW.jt (jw_and (jt_val (je_v (jv_ix (jv_ref 0) je_int))) (jw_and1 (jt_cmp (do_lt (huD hr)) (je_var 1) je_int))))))) (js_one (js_ret (je_tup (ja_cons je_str (ja_cons (je_ix (je_new (jn_lst (ja_cons je_str (ja_cons je_str ja_nil)))) (je_op do_mod (je_callTy cd_int rfl T.b_int (by decide +kernel) (ja_cons (je_var 1) ja_nil)) je_int)) (ja_cons (je_ix (je_new (jn_lst (ja_cons je_str (ja_cons je_str (ja_cons je_str ja_nil))))) (je_m (jm_call G_law_take (hr.mono hk_law_take) Y.m_law_take Y.F_law_take.kp Y.b_law_take (jq_own 0 (jq_cons je_int jq_nil))))) ja_nil)))))) js_nil) (js_cons (js_if (jt_cmp (do_lt (huD hr)) (je_var 1) je_int) (js_one (js_ret (je_tup (ja_cons je_str (ja_cons (je_m (jm_call G_law_take (hr.mono hk_law_take) Y.m_law_take Y.F_law_take.kp Y.b_law_take (jq_own 0 (jq_cons je_int jq_nil)))) (ja_cons (je_m (jm_call G_law_take (hr.mono hk_law_take) Y.m_law_take Y.F_law_take.kp Y.b_law_take (jq_own 0 (jq_cons je_int jq_nil)))) ja_nil)))))) js_nil) (js_cons (js_if (jt_cmp (do_eq (huD hr)) (je_var 1) je_int) (js_one (js_ret (je_tup (ja_cons je_str (ja_cons (je_m (jm_call G_law_take (hr.mono hk_law_take) Y.m_law_take Y.F_law_take.kp Y.b_law_take (jq_own 0 (jq_cons je_int jq_nil)))) ja_nil))))) js_nil) (js_one (js_ret (je_tup (ja_cons je_str (ja_cons (je_op do_add je_str (je_callTy cd_str rfl T.b_str (by decide +kernel) (ja_cons (je_m (jm_call G_law_take (hr.mono hk_law_take) Y.m_law_take Y.F_law_take.kp Y.b_law_take (jq_own 0 (jq_cons je_int jq_nil)))) ja_nil))) (ja_cons je_str ja_nil))))))))))⟩) rp
theorem ok_law_agg {dsp : DSp} {k : Nat} (Y : Fs K mg) (T : Bt w K mg) {k_law_take : Nat} (hk_law_take : k_law_take ≤ k) (G_law_take : FnOk P w K mg base (L2.CX P w) k_law_take Y.a_law_take Y.d_law_take ["_law_box", "_law_many"] (spOf K sp_law_take)) {k_law_col : Nat} (hk_law_col : k_law_col ≤ k) (G_law_col : FnOk P w K mg base (L2.CX P w) k_law_col Y.a_law_col Y.d_law_col ["_law_box"] (spOf K sp_law_col)) (len : ∀ as Q, dsp as Q → as.length = 1)
    (rp : ∀ (as : List SD) (Q : RS → List SD → Prop), dsp as Q → rd_law_agg { nx := fun δ => Q (.dt .none) (outs as δ), rt := fun d δ => Q d (outs as δ) } (startD 3 as)) :
    FnOk P w K mg base (L2.CX P w) (k + 1) Y.a_law_agg Y.d_law_agg ["_law_box"] (spOf K dsp) :=
  fn_ok (t := fun _ => rd_law_agg) Y.F_law_agg sc_law_agg len (by decide) (fun cdv A outer s H E xk tk hr => ⟨_,
    (js_cons (js_set (i := 1) sc_law_agg.nd (je_m (jm_call G_law_take (hr.mono hk_law_take) Y.m_law_take Y.F_law_take.kp Y.b_law_take (jq_own 0 (jq_cons je_int jq_nil))))) (js_cons (js_if (jt_cmp (do_gt (huD hr)) (je_lenV rfl T.b_len (jv_ix (jv_ref 0) je_int)) je_int) (js_one (js_ret (je_v (jv_ix (jv_ix (jv_ref 0) je_int) (je_op do_add je_int (je_op do_mod (je_callTy cd_int rfl T.b_int (by decide +kernel) (ja_cons (je_var 1) ja_nil)) je_int)))))) js_nil) (js_cons (js_set (i := 2) sc_law_agg.nd (je_tup (ja_cons je_str (ja_cons (je_ix (je_new (jn_lst (ja_cons je_str (ja_cons je_str (ja_cons je_str (ja_cons je_str ja_nil)))))) (je_callB (cd_max2 rfl) rfl T.b_max (by decide +kernel) (ja_cons je_int (ja_cons (je_op do_sub (je_var 1) je_int) ja_nil)))) (ja_cons (je_m (jm_call G_law_col (hr.mono hk_law_col) Y.m_law_col Y.F_law_col.kp Y.b_law_col (jq_own 0 jq_nil))) ja_nil))))) (js_cons (js_if (JW.jt (jw_and (jt_cmp (do_eq (huD hr)) (je_var 1) je_int) (jw_and (jt_cmp (do_gt (huD hr)) (je_v (jv_ix (jv_ref 0) je_int)) je_int) (jw_and1 (jt_cmp (do_eq (huD hr)) (je_lenV rfl T.b_len (jv_ix (jv_ref 0) je_int)) je_int))))) (js_cons (js_setI (jv_ref 0) je_int (jv_dt (je_op do_sub (je_v (jv_ix (jv_ref 0) je_int)) je_int))) (js_one (js_set (i := 2) sc_law_agg.nd (je_tup (ja_cons je_str (ja_cons je_str (ja_cons je_non ja_nil))))))) js_nil) (js_cons (js_if (JW.jt (jw_and (jt_cmp (do_eq (huD hr)) (je_var 1) je_int) (jw_and1 (jt_not (jt_val (je_v (jv_ix (jv_ref 0) je_int))))))) (js_one (js_set (i := 2) sc_law_agg.nd (je_tup (ja_cons je_str (ja_cons (je_m (jm_call G_law_take (hr.mono hk_law_take) Y.m_law_take Y.F_law_take.kp Y.b_law_take (jq_own 0 (jq_cons je_int jq_nil)))) ja_nil))))) js_nil) (js_cons (js_if (jt_notInV (huD hr) (je_var 2) (jv_ix (jv_ref 0) je_int)) (js_one (js_appV (jv_ix (jv_ref 0) je_int) (jv_dt (je_var 2)))) js_nil) (js_one (js_ret (je_var 2)))))))))⟩) rp
theorem ok_law_expr {n : Nat} {dsp : DSp} {k : Nat} (Y : Fs K mg) (T : Bt w K mg) {k_law_take : Nat} (hk_law_take : k_law_take ≤ k) (G_law_take : FnOk P w K mg base (L2.CX P w) k_law_take Y.a_law_take Y.d_law_take ["_law_box", "_law_many"] (spOf K sp_law_take)) {k_law_expr : Nat} (hk_law_expr : k_law_expr ≤ k) (G_law_expr : FnOk P w K mg base (L2.CX P w) k_law_expr Y.a_law_expr Y.d_law_expr ["_law_box", "_law_deep"] (spOf K (sp_law_expr n))) {k_law_agg : Nat} (hk_law_agg : k_law_agg ≤ k) (G_law_agg : FnOk P w K mg base (L2.CX P w) k_law_agg Y.a_law_agg Y.d_law_agg ["_law_box"] (spOf K sp_law_agg)) {k_law_col : Nat} (hk_law_col : k_law_col ≤ k) (G_law_col : FnOk P w K mg base (L2.CX P w) k_law_col Y.a_law_col Y.d_law_col ["_law_box"] (spOf K sp_law_col)) (len : ∀ as Q, dsp as Q → as.length = 2)
    (rp : ∀ (as : List SD) (Q : RS → List SD → Prop), dsp as Q → (rd_law_expr n) { nx := fun δ => Q (.dt .none) (outs as δ), rt := fun d δ => Q d (outs as δ) } (startD 4 as)) :
    FnOk P w K mg base (L2.CX P w) (k + 1) Y.a_law_expr Y.d_law_expr ["_law_box", "_law_deep"] (spOf K dsp) :=
  fn_ok (t := fun _ => (rd_law_expr n)) Y.F_law_expr sc_law_expr len (by decide) (fun cdv A outer s H E xk tk hr => ⟨_,
    (js_cons (js_set (i := 2) sc_law_expr.nd (je_m (jm_call G_law_take (hr.mono hk_law_take) Y.m_law_take Y.F_law_take.kp Y.b_law_take (jq_own 0 (jq_cons je_int jq_nil))))) (js_cons (js_if (JW.jt (jw_and (jt_cmp (do_gt (huD hr)) (je_var 1) je_int) (jw_and (jt_cmp (do_gt (huD hr)) (je_var 2) je_int) (jw_and1 (jt_cmp (do_gt (huD hr)) (je_v (jv_ix (jv_ref 0) je_int)) je_int))))) (js_cons (js_setI (jv_ref 0) je_int (jv_dt (je_op do_sub (je_v (jv_ix (jv_ref 0) je_int)) je_int))) (js_cons (js_if (jt_cmp (do_gt (huD hr)) (je_var 2) je_int) (js_one (js_ret (je_tup (ja_cons je_str (ja_cons (je_m (jm_call G_law_expr (hr.mono hk_law_expr) Y.m_law_expr Y.F_law_expr.kp Y.b_law_expr (jq_own 0 (jq_cons (je_op do_sub (je_var 1) je_int) jq_nil)))) ja_nil))))) js_nil) (js_cons (js_set (i := 3) sc_law_expr.nd (je_m (jm_call G_law_expr (hr.mono hk_law_expr) Y.m_law_expr Y.F_law_expr.kp Y.b_law_expr (jq_own 0 (jq_cons (je_op do_sub (je_var 1) je_int) jq_nil))))) (js_one (js_ret (je_tup (ja_cons (je_ix (je_new (jn_lst (ja_cons je_str (ja_cons je_str (ja_cons je_str (ja_cons je_str ja_nil)))))) (je_op do_sub (je_var 2) je_int)) (ja_cons (je_var 3) (ja_cons (je_m (jm_call G_law_expr (hr.mono hk_law_expr) Y.m_law_expr Y.F_law_expr.kp Y.b_law_expr (jq_own 0 (jq_cons (je_op do_sub (je_var 1) je_int) jq_nil)))) ja_nil))))))))) js_nil) (js_cons (js_if (jt_cmp (do_eq (huD hr)) (je_var 2) je_int) (js_one (js_ret (je_tup (ja_cons je_str (ja_cons (je_m (jm_call G_law_take (hr.mono hk_law_take) Y.m_law_take Y.F_law_take.kp Y.b_law_take (jq_own 0 (jq_cons je_int jq_nil)))) ja_nil))))) js_nil) (js_cons (js_if (jt_cmp (do_eq (huD hr)) (je_var 2) je_int) (js_one (js_ret (je_tup (ja_cons je_str (ja_cons (je_ix (je_new (jn_lst (ja_cons je_str (ja_cons je_str (ja_cons je_str (ja_cons je_str (ja_cons je_str (ja_cons je_str (ja_cons je_str (ja_cons je_str ja_nil)))))))))) (je_m (jm_call G_law_take (hr.mono hk_law_take) Y.m_law_take Y.F_law_take.kp Y.b_law_take (jq_own 0 (jq_cons je_int jq_nil))))) ja_nil))))) js_nil) (js_cons (js_if (jt_cmp (do_gt (huD hr)) (je_var 2) je_int) (js_one (js_ret (je_m (jm_call G_law_agg (hr.mono hk_law_agg) Y.m_law_agg Y.F_law_agg.kp Y.b_law_agg (jq_own 0 jq_nil))))) js_nil) (js_one (js_ret (je_m (jm_call G_law_col (hr.mono hk_law_col) Y.m_law_col Y.F_law_col.kp Y.b_law_col (jq_own 0 jq_nil))))))))))⟩) rp
theorem ok_law_question {n_law_expr : Nat} {dsp : DSp} {k : Nat} (Y : Fs K mg) (T : Bt w K mg) {k_law_expr : Nat} (hk_law_expr : k_law_expr ≤ k) (G_law_expr : FnOk P w K mg base (L2.CX P w) k_law_expr Y.a_law_expr Y.d_law_expr ["_law_box", "_law_deep"] (spOf K (sp_law_expr n_law_expr))) {k_law_take : Nat} (hk_law_take : k_law_take ≤ k) (G_law_take : FnOk P w K mg base (L2.CX P w) k_law_take Y.a_law_take Y.d_law_take ["_law_box", "_law_many"] (spOf K sp_law_take)) {k_law_col : Nat} (hk_law_col : k_law_col ≤ k) (G_law_col : FnOk P w K mg base (L2.CX P w) k_law_col Y.a_law_col Y.d_law_col ["_law_box"] (spOf K sp_law_col)) (len : ∀ as Q, dsp as Q → as.length = 1)
    (rp : ∀ (as : List SD) (Q : RS → List SD → Prop), dsp as Q → (rd_law_question n_law_expr) { nx := fun δ => Q (.dt .none) (outs as δ), rt := fun d δ => Q d (outs as δ) } (startD 4 as)) :
    FnOk P w K mg base (L2.CX P w) (k + 1) Y.a_law_question Y.d_law_question ["_law_box"] (spOf K dsp) :=
  fn_ok (t := fun _ => (rd_law_question n_law_expr)) Y.F_law_question sc_law_question len (by decide) (fun cdv A outer s H E xk tk hr => ⟨_,
    (js_cons (js_set (i := 1) sc_law_question.nd (je_m (jm_call G_law_expr (hr.mono hk_law_expr) Y.m_law_expr Y.F_law_expr.kp Y.b_law_expr (jq_own 0 (jq_cons je_int jq_nil))))) (js_cons (js_set (i := 2) sc_law_question.nd je_non) (js_cons (js_if (jt_cmp (do_eq (huD hr)) (je_m (jm_call G_law_take (hr.mono hk_law_take) Y.m_law_take Y.F_law_take.kp Y.b_law_take (jq_own 0 (jq_cons je_int jq_nil)))) je_int) (js_one (js_set (i := 2) sc_law_question.nd (je_tup (ja_cons je_str (ja_cons (je_m (jm_call G_law_expr (hr.mono hk_law_expr) Y.m_law_expr Y.F_law_expr.kp Y.b_law_expr (jq_own 0 (jq_cons je_int jq_nil)))) ja_nil))))) js_nil) (js_cons (js_set (i := 3) sc_law_question.nd (je_tup (ja_cons je_str (ja_cons (je_tup (ja_cons je_str (ja_cons je_str ja_nil))) (ja_cons je_str (ja_cons je_non ja_nil)))))) (js_one (js_ret (je_tup (ja_cons je_str (ja_cons (je_tup ja_nil) (ja_cons je_bl (ja_cons (je_tup (ja_cons (je_tup (ja_cons (je_var 1) (ja_cons je_str ja_nil))) ja_nil)) (ja_cons (je_tup (ja_cons (je_var 3) ja_nil)) (ja_cons (je_var 2) (ja_cons (je_tup (ja_cons (je_m (jm_call G_law_col (hr.mono hk_law_col) Y.m_law_col Y.F_law_col.kp Y.b_law_col (jq_own 0 jq_nil))) ja_nil)) (ja_cons je_non (ja_cons (je_tup ja_nil) (ja_cons je_non ja_nil)))))))))))))))))⟩) rp
theorem ok_law_cond {n : Nat} {n_law_expr : Nat} {dsp : DSp} {k : Nat} (Y : Fs K mg) (T : Bt w K mg) {k_law_take : Nat} (hk_law_take : k_law_take ≤ k) (G_law_take : FnOk P w K mg base (L2.CX P w) k_law_take Y.a_law_take Y.d_law_take ["_law_box", "_law_many"] (spOf K sp_law_take)) {k_law_cond : Nat} (hk_law_cond : k_law_cond ≤ k) (G_law_cond : FnOk P w K mg base (L2.CX P w) k_law_cond Y.a_law_cond Y.d_law_cond ["_law_box", "_law_deep"] (spOf K (sp_law_cond n))) {k_law_col : Nat} (hk_law_col : k_law_col ≤ k) (G_law_col : FnOk P w K mg base (L2.CX P w) k_law_col Y.a_law_col Y.d_law_col ["_law_box"] (spOf K sp_law_col)) {k_law_expr : Nat} (hk_law_expr : k_law_expr ≤ k) (G_law_expr : FnOk P w K mg base (L2.CX P w) k_law_expr Y.a_law_expr Y.d_law_expr ["_law_box", "_law_deep"] (spOf K (sp_law_expr n_law_expr))) {k_law_question : Nat} (hk_law_question : k_law_question ≤ k) (G_law_question : FnOk P w K mg base (L2.CX P w) k_law_question Y.a_law_question Y.d_law_question ["_law_box"] (spOf K sp_law_question)) (len : ∀ as Q, dsp as Q → as.length = 2)
    (rp : ∀ (as : List SD) (Q : RS → List SD → Prop), dsp as Q → (rd_law_cond n n_law_expr) { nx := fun δ => Q (.dt .none) (outs as δ), rt := fun d δ => Q d (outs as δ) } (startD 9 as)) :
    FnOk P w K mg base (L2.CX P w) (k + 1) Y.a_law_cond Y.d_law_cond ["_law_box", "_law_deep"] (spOf K dsp) :=
  fn_ok (t := fun _ => (rd_law_cond n n_law_expr)) Y.F_law_cond sc_law_cond len (by decide) (fun cdv A outer s H E xk tk hr => ⟨_,
    (js_cons (js_set (i := 2) sc_law_cond.nd (je_m (jm_call G_law_take (hr.mono hk_law_take) Y.m_law_take Y.F_law_take.kp Y.b_law_take (jq_own 0 (jq_cons je_int jq_nil))))) (js_cons (js_if (JW.jt (jw_and (jt_cmp (do_gt (huD hr)) (je_var 1) je_int) (jw_and (jt_cmp (do_gt (huD hr)) (je_var 2) je_int) (jw_and1 (jt_cmp (do_gt (huD hr)) (je_v (jv_ix (jv_ref 0) je_int)) je_int))))) (js_cons (js_setI (jv_ref 0) je_int (jv_dt (je_op do_sub (je_v (jv_ix (jv_ref 0) je_int)) je_int))) (js_cons (js_set (i := 3) sc_law_cond.nd (je_ix (je_new (jn_lst (ja_cons je_str (ja_cons je_str ja_nil)))) (je_m (jm_call G_law_take (hr.mono hk_law_take) Y.m_law_take Y.F_law_take.kp Y.b_law_take (jq_own 0 (jq_cons je_int jq_nil)))))) (js_cons (js_set (i := 4) sc_law_cond.nd (je_m (jm_call G_law_cond (hr.mono hk_law_cond) Y.m_law_cond Y.F_law_cond.kp Y.b_law_cond (jq_own 0 (jq_cons (je_op do_sub (je_var 1) je_int) jq_nil))))) (js_one (js_ret (je_tup (ja_cons (je_var 3) (ja_cons (je_var 4) (ja_cons (je_m (jm_call G_law_cond (hr.mono hk_law_cond) Y.m_law_cond Y.F_law_cond.kp Y.b_law_cond (jq_own 0 (jq_cons (je_op do_sub (je_var 1) je_int) jq_nil)))) ja_nil))))))))) js_nil) (js_cons (js_if (JW.jt (jw_and (jt_cmp (do_gt (huD hr)) (je_var 1) je_int) (jw_and1 (jt_cmp (do_gt (huD hr)) (je_var 2) je_int)))) (js_cons (js_set (i := 3) sc_law_cond.nd (je_ix (je_new (jn_lst (ja_cons je_str (ja_cons je_str ja_nil)))) (je_op do_mod (je_callTy cd_int rfl T.b_int (by decide +kernel) (ja_cons (je_var 2) ja_nil)) je_int))) (js_one (js_ret (je_tup (ja_cons (je_var 3) (ja_cons (je_m (jm_call G_law_cond (hr.mono hk_law_cond) Y.m_law_cond Y.F_law_cond.kp Y.b_law_cond (jq_own 0 (jq_cons (je_op do_sub (je_var 1) je_int) jq_nil)))) ja_nil)))))) js_nil) (js_cons (js_if (JW.jt (jw_and (jt_cmp (do_gt (huD hr)) (je_var 2) je_int) (jw_and1 (jt_cmp (do_gt (huD hr)) (je_var 1) je_int)))) (js_cons (js_set (i := 5) sc_law_cond.nd (je_tup (ja_cons je_str (ja_cons je_str (ja_cons (je_m (jm_call G_law_col (hr.mono hk_law_col) Y.m_law_col Y.F_law_col.kp Y.b_law_col (jq_own 0 jq_nil))) (ja_cons (je_m (jm_call G_law_expr (hr.mono hk_law_expr) Y.m_law_expr Y.F_law_expr.kp Y.b_law_expr (jq_own 0 (jq_cons je_int jq_nil)))) ja_nil)))))) (js_cons (js_set (i := 6) sc_law_cond.nd (je_ix (je_new (jn_lst (ja_cons je_non (ja_cons (je_m (jm_call G_law_cond (hr.mono hk_law_cond) Y.m_law_cond Y.F_law_cond.kp Y.b_law_cond (jq_own 0 (jq_cons (je_op do_sub (je_var 1) je_int) jq_nil)))) ja_nil)))) (je_m (jm_call G_law_take (hr.mono hk_law_take) Y.m_law_take Y.F_law_take.kp Y.b_law_take (jq_own 0 (jq_cons je_int jq_nil)))))) (js_cons (js_set (i := 7) sc_law_cond.nd (je_tup (ja_cons je_str (ja_cons (je_tup (ja_cons je_str (ja_cons je_str ja_nil))) (ja_cons je_str (ja_cons je_non ja_nil)))))) (js_one (js_ret (je_tup (ja_cons je_str (ja_cons (je_tup (ja_cons (je_var 7) (ja_cons (je_tup (ja_cons je_str (ja_cons (je_m (jm_call G_law_question (hr.mono hk_law_question) Y.m_law_question Y.F_law_question.kp Y.b_law_question (jq_own 0 jq_nil))) (ja_cons je_str (ja_cons (je_var 5) ja_nil))))) ja_nil))) (ja_cons (je_var 6) ja_nil))))))))) js_nil) (js_cons (js_if (JW.jt (jw_or (jt_cmp (do_eq (huD hr)) (je_var 2) je_int) (jw_or1 (jt_cmp (do_eq (huD hr)) (je_var 2) je_int)))) (js_one (js_ret (je_tup (ja_cons je_str (ja_cons (je_m (jm_call G_law_expr (hr.mono hk_law_expr) Y.m_law_expr Y.F_law_expr.kp Y.b_law_expr (jq_own 0 (jq_cons je_int jq_nil)))) (ja_cons (je_m (jm_call G_law_question (hr.mono hk_law_question) Y.m_law_question Y.F_law_question.kp Y.b_law_question (jq_own 0 jq_nil))) ja_nil)))))) js_nil) (js_cons (js_if (jt_cmp (do_eq (huD hr)) (je_var 2) je_int) (js_one (js_ret (je_tup (ja_cons je_str (ja_cons (je_m (jm_call G_law_expr (hr.mono hk_law_expr) Y.m_law_expr Y.F_law_expr.kp Y.b_law_expr (jq_own 0 (jq_cons je_int jq_nil)))) ja_nil))))) js_nil) (js_cons (js_set (i := 4) sc_law_cond.nd (je_m (jm_call G_law_expr (hr.mono hk_law_expr) Y.m_law_expr Y.F_law_expr.kp Y.b_law_expr (jq_own 0 (jq_cons je_int jq_nil))))) (js_cons (js_set (i := 8) sc_law_cond.nd (je_ix (je_new (jn_lst (ja_cons je_str (ja_cons je_str (ja_cons je_str (ja_cons je_str (ja_cons je_str (ja_cons je_str ja_nil)))))))) (je_m (jm_call G_law_take (hr.mono hk_law_take) Y.m_law_take Y.F_law_take.kp Y.b_law_take (jq_own 0 (jq_cons je_int jq_nil)))))) (js_one (js_ret (je_tup (ja_cons je_str (ja_cons (je_var 8) (ja_cons (je_var 4) (ja_cons (je_m (jm_call G_law_expr (hr.mono hk_law_expr) Y.m_law_expr Y.F_law_expr.kp Y.b_law_expr (jq_own 0 (jq_cons je_int jq_nil)))) ja_nil)))))))))))))))⟩) rp
theorem ok_law_parts {dsp : DSp} {k : Nat} (Y : Fs K mg) (T : Bt w K mg)  (len : ∀ as Q, dsp as Q → as.length = 1)
    (rp : ∀ (as : List SD) (Q : RS → List SD → Prop), dsp as Q → rd_law_parts { nx := fun δ => Q (.dt .none) (outs as δ), rt := fun d δ => Q d (outs as δ) } (startD 2 as)) :
    FnOk P w K mg base (L2.CX P w) (k + 1) Y.a_law_parts Y.d_law_parts ["_law_node"] (spOf K dsp) :=
  fn_ok (t := fun _ => rd_law_parts) Y.F_law_parts sc_law_parts len (by decide) (fun cdv A outer s H E xk tk hr => ⟨_,
    (js_cons (js_if (JW.jt (jw_or (jt_isN (je_var 0)) (jw_or (jt_cmp (do_eq (huD hr)) (je_ix (je_var 0) je_int) je_str) (jw_or1 (jt_cmp (do_eq (huD hr)) (je_ix (je_var 0) je_int) je_str))))) (js_one (js_retNew (jn_lst ja_nil))) js_nil) (js_cons (js_if (jt_cmp (do_eq (huD hr)) (je_ix (je_var 0) je_int) je_str) (js_one (js_retNew (jn_lst (ja_cons (je_ix (je_var 0) je_int) ja_nil)))) js_nil) (js_one (js_retNew (jn_lcIf (i := 1) rfl sc_law_parts.nd (ji_seq (je_slice (je_var 0) (jo_some je_int) jo_none)) (blkOk_by (N := ["_law_node", "_law_part"]) (sc := defScope s_law_parts) (by decide +kernel)) (fun _ _ _ _ _ => pg_name (i := 1) sc_law_parts.nd rfl (Or.inl rfl)) (fun _ _ _ _ _ => by exact (jt_val (je_isi tok_tuple rfl T.b_isinstance rfl T.b_tuple (by decide +kernel) (je_var 1)))) (fun _ _ _ _ _ => by exact (je_var 1)))))))⟩) rp
theorem ok_law_found {dsp : DSp} {k : Nat} (Y : Fs K mg) (T : Bt w K mg) {k_law_parts : Nat} (hk_law_parts : k_law_parts ≤ k) (G_law_parts : FnOk P w K mg base (L2.CX P w) k_law_parts Y.a_law_parts Y.d_law_parts ["_law_node"] (spOf K sp_law_parts)) (len : ∀ as Q, dsp as Q → as.length = 2)
    (rp : ∀ (as : List SD) (Q : RS → List SD → Prop), dsp as Q → rd_law_found { nx := fun δ => Q (.dt .none) (outs as δ), rt := fun d δ => Q d (outs as δ) } (startD 6 as)) :
    FnOk P w K mg base (L2.CX P w) (k + 1) Y.a_law_found Y.d_law_found ["_law_node", "_law_word"] (spOf K dsp) :=
  fn_ok (t := fun _ => rd_law_found) Y.F_law_found sc_law_found len (by decide) (fun cdv A outer s H E xk tk hr => ⟨_,
    (js_cons (js_own (i := 2) sc_law_found.nd (jn_lst ja_nil)) (js_cons (js_own (i := 3) sc_law_found.nd (jn_lst (ja_cons (je_var 0) ja_nil))) (js_cons (js_for rfl (ji_range1 rfl T.b_range (ja_cons je_int ja_nil)) (jg_name (i := 4) sc_law_found.nd) (js_cons (js_if (jt_cmp (do_eq (huD hr)) (je_lenO 3 rfl T.b_len) je_int) (js_one js_break) js_nil) (js_cons (js_set (i := 5) sc_law_found.nd (je_pop 3)) (js_cons (js_if (JW.jt (jw_and (jt_notN (je_var 5)) (jw_and (jt_cmp (do_eq (huD hr)) (je_ix (je_var 5) je_int) (je_var 1)) (jw_and1 (jt_notInO (huD hr) 2 (je_var 5)))))) (js_one (js_app 2 (je_var 5))) js_nil) (js_one (js_own (i := 3) sc_law_found.nd (jn_add (je_frz 3) (je_new (jn_listRev rfl rfl T.b_list rfl T.b_reversed (je_new (jn_call G_law_parts (hr.mono hk_law_parts) Y.m_law_parts Y.F_law_parts.kp Y.b_law_parts (jc_cons (je_var 5) jc_nil))))))))))) (hp := by first | exact PassesOwn.never | exact passes_of rfl)) (js_one (js_ret (je_callTy cd_tuple rfl T.b_tuple (by decide +kernel) (ja_cons (je_frz 2) ja_nil)))))))⟩) rp
theorem ok_law_levels {dsp : DSp} {k : Nat} (Y : Fs K mg) (T : Bt w K mg) {k_law_parts : Nat} (hk_law_parts : k_law_parts ≤ k) (G_law_parts : FnOk P w K mg base (L2.CX P w) k_law_parts Y.a_law_parts Y.d_law_parts ["_law_node"] (spOf K sp_law_parts)) (len : ∀ as Q, dsp as Q → as.length = 1)
    (rp : ∀ (as : List SD) (Q : RS → List SD → Prop), dsp as Q → rd_law_levels { nx := fun δ => Q (.dt .none) (outs as δ), rt := fun d δ => Q d (outs as δ) } (startD 6 as)) :
    FnOk P w K mg base (L2.CX P w) (k + 1) Y.a_law_levels Y.d_law_levels ["_law_node"] (spOf K dsp) :=
  fn_ok (t := fun _ => rd_law_levels) Y.F_law_levels sc_law_levels len (by decide) (fun cdv A outer s H E xk tk hr => ⟨_,
    (js_cons (js_setLcIf (i := 5) rfl sc_law_levels.nd (ji_seq (je_new (jn_lst (ja_cons (je_var 0) ja_nil)))) (blkOk_by (N := ["_law_node", "_law_row", "_law_many", "_law_turn", "_law_below", "_law_part"]) (sc := defScope s_law_levels) (by decide +kernel)) (fun _ _ _ _ _ => pg_name (i := 5) sc_law_levels.nd rfl (Or.inl rfl)) (fun _ _ _ _ _ => by exact (jt_notN (je_var 5))) (fun _ _ _ _ _ => by exact (je_var 5)) (n := 1)) (js_cons (js_set (i := 2) sc_law_levels.nd je_int) (js_cons (js_for rfl (ji_range1 rfl T.b_range (ja_cons je_int ja_nil)) (jg_name (i := 3) sc_law_levels.nd) (js_cons (js_if (jt_cmp (do_eq (huD hr)) (je_callB cd_len rfl T.b_len PySem.boot_len (ja_cons (je_var 1) ja_nil)) je_int) (js_one js_break) js_nil) (js_cons (js_set (i := 2) sc_law_levels.nd (je_op do_add (je_var 2) je_int)) (js_cons (js_set (i := 4) sc_law_levels.nd (je_new (jn_lst ja_nil))) (js_cons (js_for rfl (ji_seq (je_var 1)) (jg_name (i := 5) sc_law_levels.nd) (js_one (js_if (jt_cmp (do_ne (huD hr)) (je_ix (je_var 5) je_int) je_str) (js_one (js_set (i := 4) sc_law_levels.nd (je_op do_add (je_var 4) (je_new (jn_call G_law_parts (hr.mono hk_law_parts) Y.m_law_parts Y.F_law_parts.kp Y.b_law_parts (jc_cons (je_var 5) jc_nil)))))) js_nil)) (hp := by first | exact PassesOwn.never | exact passes_of rfl)) (js_one (js_set (i := 1) sc_law_levels.nd (je_var 4))))))) (hp := by first | exact PassesOwn.never | exact passes_of rfl)) (js_one (js_ret (je_var 2))))))⟩) rp
theorem ok_law_split {dsp : DSp} {k : Nat} (Y : Fs K mg) (T : Bt w K mg)  (len : ∀ as Q, dsp as Q → as.length = 1)
    (rp : ∀ (as : List SD) (Q : RS → List SD → Prop), dsp as Q → rd_law_split { nx := fun δ => Q (.dt .none) (outs as δ), rt := fun d δ => Q d (outs as δ) } (startD 5 as)) :
    FnOk P w K mg base (L2.CX P w) (k + 1) Y.a_law_split Y.d_law_split ["_law_test"] (spOf K dsp) :=
  fn_ok (t := fun _ => rd_law_split) Y.F_law_split sc_law_split len (by decide) (fun cdv A outer s H E xk tk hr => ⟨_,
    (js_cons (js_own (i := 1) sc_law_split.nd (jn_lst ja_nil)) (js_cons (js_own (i := 2) sc_law_split.nd (jn_lst (ja_cons (je_var 0) ja_nil))) (js_cons (js_for rfl (ji_range1 rfl T.b_range (ja_cons je_int ja_nil)) (jg_name (i := 3) sc_law_split.nd) (js_cons (js_if (jt_cmp (do_eq (huD hr)) (je_lenO 2 rfl T.b_len) je_int) (js_one js_break) js_nil) (js_cons (js_set (i := 4) sc_law_split.nd (je_pop 2)) (js_one (js_if (jt_cmp (do_eq (huD hr)) (je_ix (je_var 4) je_int) je_str) (js_cons (js_app 2 (je_ix (je_var 4) je_int)) (js_one (js_app 2 (je_ix (je_var 4) je_int)))) (js_one (js_app 1 (je_var 4))))))) (hp := by first | exact PassesOwn.never | exact passes_of rfl)) (js_one (js_ret (je_callTy cd_tuple rfl T.b_tuple (by decide +kernel) (ja_cons (je_frz 1) ja_nil)))))))⟩) rp
theorem ok_law_put {n : Nat} {dsp : DSp} {k : Nat} (Y : Fs K mg) (T : Bt w K mg) {k_law_put : Nat} (hk_law_put : k_law_put ≤ k) (G_law_put : FnOk P w K mg base (L2.CX P w) k_law_put Y.a_law_put Y.d_law_put ["_law_node", "_law_swaps"] (spOf K (sp_law_put P w n))) (len : ∀ as Q, dsp as Q → as.length = 2)
    (rp : ∀ (as : List SD) (Q : RS → List SD → Prop), dsp as Q → (rd_law_put P w n) { nx := fun δ => Q (.dt .none) (outs as δ), rt := fun d δ => Q d (outs as δ) } (startD 4 as)) :
    FnOk P w K mg base (L2.CX P w) (k + 1) Y.a_law_put Y.d_law_put ["_law_node", "_law_swaps"] (spOf K dsp) :=
  fn_ok (t := fun _ => (rd_law_put P w n)) Y.F_law_put sc_law_put len (by decide) (fun cdv A outer s H E xk tk hr => ⟨_,
    (js_frzN 1 (js_cons (js_if (jt_isN (je_var 0)) (js_one (js_ret je_non)) js_nil) (js_cons (js_if (JW.jt (jw_and (JW.jt (jw_or (jt_cmp (do_eq (huD hr)) (je_ix (je_var 0) je_int) je_str) (jw_or1 (jt_cmp (do_eq (huD hr)) (je_ix (je_var 0) je_int) je_str)))) (jw_and1 (jt_inF (huD hr) 1 (je_var 0))))) (js_one (js_ret (je_ixF (huD hr) 1 (je_var 0)))) js_nil) (js_cons (js_if (JW.jt (jw_or (jt_cmp (do_eq (huD hr)) (je_ix (je_var 0) je_int) je_str) (jw_or1 (jt_cmp (do_eq (huD hr)) (je_ix (je_var 0) je_int) je_str)))) (js_one (js_ret (je_var 0))) js_nil) (js_cons (js_if (jt_cmp (do_eq (huD hr)) (je_ix (je_var 0) je_int) je_str) (js_one (js_ret (je_tup (ja_cons je_str (ja_cons (je_m (jm_call G_law_put (hr.mono hk_law_put) Y.m_law_put Y.F_law_put.kp Y.b_law_put (jq_cons (je_ix (je_var 0) je_int) (jq_own 1 jq_nil)))) (ja_cons (je_ix (je_var 0) je_int) ja_nil)))))) js_nil) (js_cons (js_own (i := 2) sc_law_put.nd (jn_lst ja_nil)) (js_cons (js_for rfl (ji_seq (je_var 0)) (jg_name (i := 3) sc_law_put.nd) (js_one (js_if (jt_val (je_isi tok_tuple rfl T.b_isinstance rfl T.b_tuple (by decide +kernel) (je_var 3))) (js_one (js_app 2 (je_m (jm_call G_law_put (hr.mono hk_law_put) Y.m_law_put Y.F_law_put.kp Y.b_law_put (jq_cons (je_var 3) (jq_own 1 jq_nil)))))) (js_one (js_app 2 (je_var 3))))) (hp := by first | exact PassesOwn.never | exact passes_of rfl)) (js_one (js_ret (je_callTy cd_tuple rfl T.b_tuple (by decide +kernel) (ja_cons (je_frz 2) ja_nil)))))))))))⟩) rp
theorem ok_law_table {dsp : DSp} {k : Nat} (Y : Fs K mg) (T : Bt w K mg) {k_law_found : Nat} (hk_law_found : k_law_found ≤ k) (G_law_found : FnOk P w K mg base (L2.CX P w) k_law_found Y.a_law_found Y.d_law_found ["_law_node", "_law_word"] (spOf K sp_law_found)) {k_law_take : Nat} (hk_law_take : k_law_take ≤ k) (G_law_take : FnOk P w K mg base (L2.CX P w) k_law_take Y.a_law_take Y.d_law_take ["_law_box", "_law_many"] (spOf K sp_law_take)) {k_law_col : Nat} (hk_law_col : k_law_col ≤ k) (G_law_col : FnOk P w K mg base (L2.CX P w) k_law_col Y.a_law_col Y.d_law_col ["_law_box"] (spOf K sp_law_col)) {k_law_agg : Nat} (hk_law_agg : k_law_agg ≤ k) (G_law_agg : FnOk P w K mg base (L2.CX P w) k_law_agg Y.a_law_agg Y.d_law_agg ["_law_box"] (spOf K sp_law_agg)) (len : ∀ as Q, dsp as Q → as.length = 2)
    (rp : ∀ (as : List SD) (Q : RS → List SD → Prop), dsp as Q → (rd_law_table P w) { nx := fun δ => Q (.dt .none) (outs as δ), rt := fun d δ => Q d (outs as δ) } (startD 5 as)) :
    FnOk P w K mg base (L2.CX P w) (k + 1) Y.a_law_table Y.d_law_table ["_law_box", "_law_node"] (spOf K dsp) :=
  fn_ok (t := fun _ => (rd_law_table P w)) Y.F_law_table sc_law_table len (by decide) (fun cdv A outer s H E xk tk hr => ⟨_,
    (js_cons (js_dictN (i := 2) sc_law_table.nd) (js_cons (js_for rfl (ji_seq (je_op do_add (je_call G_law_found (hr.mono hk_law_found) Y.m_law_found Y.F_law_found.kp Y.b_law_found (jc_cons (je_var 1) (jc_cons je_str jc_nil))) (je_call G_law_found (hr.mono hk_law_found) Y.m_law_found Y.F_law_found.kp Y.b_law_found (jc_cons (je_var 1) (jc_cons je_str jc_nil))))) (jg_name (i := 3) sc_law_table.nd) (js_cons (js_set (i := 4) sc_law_table.nd (je_m (jm_call G_law_take (hr.mono hk_law_take) Y.m_law_take Y.F_law_take.kp Y.b_law_take (jq_own 0 (jq_cons je_int jq_nil))))) (js_cons (js_if (jt_cmp (do_eq (huD hr)) (je_var 4) je_int) (js_one (js_setN (huD hr) 2 (je_var 3) (je_tup (ja_cons je_str (ja_cons (je_var 3) (ja_cons (je_tup (ja_cons je_str (ja_cons je_int ja_nil))) ja_nil)))))) js_nil) (js_cons (js_if (jt_cmp (do_eq (huD hr)) (je_var 4) je_int) (js_one (js_setN (huD hr) 2 (je_var 3) (je_m (jm_call G_law_col (hr.mono hk_law_col) Y.m_law_col Y.F_law_col.kp Y.b_law_col (jq_own 0 jq_nil))))) js_nil) (js_cons (js_if (jt_cmp (do_eq (huD hr)) (je_var 4) je_int) (js_one (js_setN (huD hr) 2 (je_var 3) (je_tup (ja_cons je_str (ja_cons (je_tup (ja_cons je_str (ja_cons je_str (ja_cons (je_tup (ja_cons je_str (ja_cons je_str (ja_cons je_str ja_nil)))) ja_nil)))) ja_nil))))) js_nil) (js_one (js_if (jt_cmp (do_eq (huD hr)) (je_var 4) je_int) (js_one (js_setN (huD hr) 2 (je_var 3) (je_tup (ja_cons je_str (ja_cons (je_m (jm_call G_law_take (hr.mono hk_law_take) Y.m_law_take Y.F_law_take.kp Y.b_law_take (jq_own 0 (jq_cons je_int jq_nil)))) ja_nil))))) js_nil)))))) (hp := by first | exact PassesOwn.never | exact passes_of rfl)) (js_cons (js_setN (huD hr) 2 (je_m (jm_call G_law_col (hr.mono hk_law_col) Y.m_law_col Y.F_law_col.kp Y.b_law_col (jq_own 0 jq_nil))) (je_tup (ja_cons je_str (ja_cons je_int ja_nil)))) (js_cons (js_setN (huD hr) 2 (je_m (jm_call G_law_agg (hr.mono hk_law_agg) Y.m_law_agg Y.F_law_agg.kp Y.b_law_agg (jq_own 0 jq_nil))) (je_tup (ja_cons je_str (ja_cons je_str (ja_cons je_str ja_nil))))) (js_one (js_retV (jv_mvO 2)))))))⟩) rp
theorem ok_law_same {n : Nat} {dsp : DSp} {k : Nat} (Y : Fs K mg) (T : Bt w K mg) {k_law_same : Nat} (hk_law_same : k_law_same ≤ k) (G_law_same : FnOk P w K mg base (L2.CX P w) k_law_same Y.a_law_same Y.d_law_same ["_law_one", "_law_due"] (spOf K (sp_law_same n))) (len : ∀ as Q, dsp as Q → as.length = 2)
    (rp : ∀ (as : List SD) (Q : RS → List SD → Prop), dsp as Q → (rd_law_same n) { nx := fun δ => Q (.dt .none) (outs as δ), rt := fun d δ => Q d (outs as δ) } (startD 3 as)) :
    FnOk P w K mg base (L2.CX P w) (k + 1) Y.a_law_same Y.d_law_same ["_law_one", "_law_due"] (spOf K dsp) :=
  fn_ok (t := fun _ => (rd_law_same n)) Y.F_law_same sc_law_same len (by decide) (fun cdv A outer s H E xk tk hr => ⟨_,
    (js_cons (js_if (JW.jt (jw_or (jt_isN (je_var 1)) (jw_or1 (jt_isN (je_var 0))))) (js_one (js_ret (je_and (je_isN (je_var 0)) (je_one (je_isN (je_var 1)))))) js_nil) (js_cons (js_if (JW.jt (jw_or (jt_val (je_isi tok_bool rfl T.b_isinstance rfl T.b_bool (by decide +kernel) (je_var 1))) (jw_or1 (jt_val (je_isi tok_bool rfl T.b_isinstance rfl T.b_bool (by decide +kernel) (je_var 0)))))) (js_one (js_ret (je_and (je_isi tok_bool rfl T.b_isinstance rfl T.b_bool (by decide +kernel) (je_var 1)) (je_and (je_isi tok_bool rfl T.b_isinstance rfl T.b_bool (by decide +kernel) (je_var 0)) (je_one (je_cmp (do_eq (huD hr)) (je_var 0) (je_var 1))))))) js_nil) (js_cons (js_if (jt_val (je_isi tok_int rfl T.b_isinstance rfl T.b_int (by decide +kernel) (je_var 1))) (js_one (js_ret (je_and (je_isi tok_int rfl T.b_isinstance rfl T.b_int (by decide +kernel) (je_var 0)) (je_one (je_cmp (do_eq (huD hr)) (je_var 0) (je_var 1)))))) js_nil) (js_cons (js_if (jt_val (je_isi tok_str rfl T.b_isinstance rfl T.b_str (by decide +kernel) (je_var 1))) (js_one (js_ret (je_and (je_isi tok_str rfl T.b_isinstance rfl T.b_str (by decide +kernel) (je_var 0)) (je_one (je_cmp (do_eq (huD hr)) (je_var 0) (je_var 1)))))) js_nil) (js_cons (js_if (JW.jt (jw_or (jt_not (jt_val (je_isi tok_tuple rfl T.b_isinstance rfl T.b_tuple (by decide +kernel) (je_var 1)))) (jw_or (jt_not (jt_val (je_isi tok_tuple rfl T.b_isinstance rfl T.b_tuple (by decide +kernel) (je_var 0)))) (jw_or1 (jt_cmp (do_ne (huD hr)) (je_callB cd_len rfl T.b_len PySem.boot_len (ja_cons (je_var 0) ja_nil)) (je_callB cd_len rfl T.b_len PySem.boot_len (ja_cons (je_var 1) ja_nil))))))) (js_one (js_ret je_bl)) js_nil) (js_one (js_ret (je_callB (cd_all rfl) rfl T.b_all (by decide +kernel) (ja_cons (je_new (jn_lc (i := 2) rfl sc_law_same.nd (ji_range1 rfl T.b_range (ja_cons (je_callB cd_len rfl T.b_len PySem.boot_len (ja_cons (je_var 1) ja_nil)) ja_nil)) (blkOk_by (N := ["_law_one", "_law_due", "_law_k"]) (sc := defScope s_law_same) (by decide +kernel)) (fun _ _ _ _ _ => pg_name (i := 2) sc_law_same.nd rfl (Or.inl rfl)) (fun _ _ _ _ _ => by exact (je_call G_law_same (hr.mono hk_law_same) Y.m_law_same Y.F_law_same.kp Y.b_law_same (jc_cons (je_ix (je_var 0) (je_var 2)) (jc_cons (je_ix (je_var 1) (je_var 2)) jc_nil)))))) ja_nil)))))))))⟩) rp
theorem ok_law_is_right {n_law_same : Nat} {n_law_put : Nat} {n_replaced : Nat} {dsp : DSp} {k : Nat} (Y : Fs K mg) (T : Bt w K mg) {k_law_found : Nat} (hk_law_found : k_law_found ≤ k) (G_law_found : FnOk P w K mg base (L2.CX P w) k_law_found Y.a_law_found Y.d_law_found ["_law_node", "_law_word"] (spOf K sp_law_found)) {k_columns_in : Nat} (hk_columns_in : k_columns_in ≤ k) (G_columns_in : FnOk P w K mg base (L2.CX P w) k_columns_in Y.a_columns_in Y.d_columns_in ["thing"] (spOf K sp_columns_in)) {k_law_same : Nat} (hk_law_same : k_law_same ≤ k) (G_law_same : FnOk P w K mg base (L2.CX P w) k_law_same Y.a_law_same Y.d_law_same ["_law_one", "_law_due"] (spOf K (sp_law_same n_law_same))) {k_aggs_in : Nat} (hk_aggs_in : k_aggs_in ≤ k) (G_aggs_in : FnOk P w K mg base (L2.CX P w) k_aggs_in Y.a_aggs_in Y.d_aggs_in ["thing"] (spOf K sp_aggs_in)) {k_law_levels : Nat} (hk_law_levels : k_law_levels ≤ k) (G_law_levels : FnOk P w K mg base (L2.CX P w) k_law_levels Y.a_law_levels Y.d_law_levels ["_law_node"] (spOf K sp_law_levels)) {k_height : Nat} (hk_height : k_height ≤ k) (G_height : FnOk P w K mg base (L2.CX P w) k_height Y.a_height Y.d_height ["thing"] (spOf K sp_height)) {k_law_table : Nat} (hk_law_table : k_law_table ≤ k) (G_law_table : FnOk P w K mg base (L2.CX P w) k_law_table Y.a_law_table Y.d_law_table ["_law_box", "_law_node"] (spOf K (sp_law_table P w))) {k_law_put : Nat} (hk_law_put : k_law_put ≤ k) (G_law_put : FnOk P w K mg base (L2.CX P w) k_law_put Y.a_law_put Y.d_law_put ["_law_node", "_law_swaps"] (spOf K (sp_law_put P w n_law_put))) {k_replaced : Nat} (hk_replaced : k_replaced ≤ k) (G_replaced : FnOk P w K mg base (L2.CX P w) k_replaced Y.a_replaced Y.d_replaced ["thing", "table"] (spOf K (sp_replaced P w n_replaced))) (len : ∀ as Q, dsp as Q → as.length = 2)
    (rp : ∀ (as : List SD) (Q : RS → List SD → Prop), dsp as Q → (rd_law_is_right P w n_law_same n_law_put n_replaced) { nx := fun δ => Q (.dt .none) (outs as δ), rt := fun d δ => Q d (outs as δ) } (startD 6 as)) :
    FnOk P w K mg base (L2.CX P w) (k + 1) Y.a_law_is_right Y.d_law_is_right ["_law_box", "_law_node"] (spOf K dsp) :=
  fn_ok (t := fun _ => (rd_law_is_right P w n_law_same n_law_put n_replaced)) Y.F_law_is_right sc_law_is_right len (by decide) (fun cdv A outer s H E xk tk hr => ⟨_,
    (js_cons (js_if (jt_not (jt_val (je_call G_law_same (hr.mono hk_law_same) Y.m_law_same Y.F_law_same.kp Y.b_law_same (jc_cons (je_call G_columns_in (hr.mono hk_columns_in) Y.m_columns_in Y.F_columns_in.kp Y.b_columns_in (jc_cons (je_var 1) jc_nil)) (jc_cons (je_call G_law_found (hr.mono hk_law_found) Y.m_law_found Y.F_law_found.kp Y.b_law_found (jc_cons (je_var 1) (jc_cons je_str jc_nil))) jc_nil))))) (js_one (js_ret je_bl)) js_nil) (js_cons (js_if (jt_not (jt_val (je_call G_law_same (hr.mono hk_law_same) Y.m_law_same Y.F_law_same.kp Y.b_law_same (jc_cons (by exact je_callKw G_aggs_in (hr.mono hk_aggs_in) Y.m_aggs_in Y.F_aggs_in.kp (Fun_kb (ks := ["thing"]) (ix := [0]) Y.F_aggs_in (by decide) fun _ _ _ _ _ _ ws hl => match ws, hl with | [_], _ => rfl) (jk_cons (je_var 1) jk_nil)) (jc_cons (je_call G_law_found (hr.mono hk_law_found) Y.m_law_found Y.F_law_found.kp Y.b_law_found (jc_cons (je_var 1) (jc_cons je_str jc_nil))) jc_nil))))) (js_one (js_ret je_bl)) js_nil) (js_cons (js_if (JW.jt (jw_and (jt_val (je_v (jv_ix (jv_ref 0) je_int))) (jw_and1 (jt_not (jt_val (je_call G_law_same (hr.mono hk_law_same) Y.m_law_same Y.F_law_same.kp Y.b_law_same (jc_cons (by exact je_callKw G_height (hr.mono hk_height) Y.m_height Y.F_height.kp (Fun_kb (ks := ["thing"]) (ix := [0]) Y.F_height (by decide) fun _ _ _ _ _ _ ws hl => match ws, hl with | [_], _ => rfl) (jk_cons (je_var 1) jk_nil)) (jc_cons (je_call G_law_levels (hr.mono hk_law_levels) Y.m_law_levels Y.F_law_levels.kp Y.b_law_levels (jc_cons (je_var 1) jc_nil)) jc_nil)))))))) (js_one (js_ret je_bl)) js_nil) (js_cons (js_setV (i := 2) sc_law_is_right.nd (jv_m (jm_call G_law_table (hr.mono hk_law_table) Y.m_law_table Y.F_law_table.kp Y.b_law_table (jq_own 0 (jq_cons (je_var 1) jq_nil))))) (js_frzN 2 (js_cons (js_setLc (i := 5) rfl sc_law_is_right.nd (ji_dnF 2) (blkOk_by (N := ["_law_box", "_law_node", "_law_swaps", "_law_kept", "_law_due", "_law_key"]) (sc := defScope s_law_is_right) (by decide +kernel)) (fun _ _ _ _ _ => pg_name (i := 5) sc_law_is_right.nd rfl (Or.inl rfl)) (fun _ _ _ _ _ => by exact (je_tup (ja_cons (je_var 5) (ja_cons (je_ixF (huD hr) 2 (je_var 5)) ja_nil)))) (n := 3)) (js_cons (js_if (jt_not (jt_val (je_call G_law_same (hr.mono hk_law_same) Y.m_law_same Y.F_law_same.kp Y.b_law_same (jc_cons (je_m (jm_call G_replaced (hr.mono hk_replaced) Y.m_replaced Y.F_replaced.kp Y.b_replaced (jq_cons (je_var 1) (jq_own 2 jq_nil)))) (jc_cons (je_m (jm_call G_law_put (hr.mono hk_law_put) Y.m_law_put Y.F_law_put.kp Y.b_law_put (jq_cons (je_var 1) (jq_val (jv_dictOf (huD hr) rfl T.b_dict (je_var 3)) jq_nil)))) jc_nil))))) (js_one (js_ret je_bl)) js_nil) (js_cons (js_if (jt_not (jt_val (je_call G_law_same (hr.mono hk_law_same) Y.m_law_same Y.F_law_same.kp Y.b_law_same (jc_cons (je_callTy cd_tuple rfl T.b_tuple (by decide +kernel) (ja_cons (je_new (jn_lc (i := 5) rfl sc_law_is_right.nd (ji_dnF 2) (blkOk_by (N := ["_law_box", "_law_node", "_law_swaps", "_law_kept", "_law_due", "_law_key"]) (sc := defScope s_law_is_right) (by decide +kernel)) (fun _ _ _ _ _ => pg_name (i := 5) sc_law_is_right.nd rfl (Or.inl rfl)) (fun _ _ _ _ _ => by exact (je_tup (ja_cons (je_var 5) (ja_cons (je_ixF (huD hr) 2 (je_var 5)) ja_nil)))))) ja_nil)) (jc_cons (je_callTy cd_tuple rfl T.b_tuple (by decide +kernel) (ja_cons (je_var 3) ja_nil)) jc_nil))))) (js_one (js_ret je_bl)) js_nil) (js_cons (js_set (i := 4) sc_law_is_right.nd (je_tup (ja_cons (je_var 1) (ja_cons (je_call G_law_found (hr.mono hk_law_found) Y.m_law_found Y.F_law_found.kp Y.b_law_found (jc_cons (je_var 1) (jc_cons je_str jc_nil))) ja_nil)))) (js_one (js_ret (je_call G_law_same (hr.mono hk_law_same) Y.m_law_same Y.F_law_same.kp Y.b_law_same (jc_cons (je_tup (ja_cons (je_m (by exact jm_callK2 G_replaced (hr.mono hk_replaced) Y.m_replaced Y.F_replaced.kp (Fun_kb (ks := ["table", "thing"]) (ix := [1, 0]) Y.F_replaced (by decide) fun _ _ _ _ _ _ ws hl => match ws, hl with | [_, _], _ => rfl) (jkq_val jv_dictN (jkq_cons (je_var 1) jkq_nil)))) (ja_cons (by exact je_callKw G_columns_in (hr.mono hk_columns_in) Y.m_columns_in Y.F_columns_in.kp (Fun_kb (ks := ["thing"]) (ix := [0]) Y.F_columns_in (by decide) fun _ _ _ _ _ _ ws hl => match ws, hl with | [_], _ => rfl) (jk_cons (je_var 1) jk_nil)) ja_nil))) (jc_cons (je_var 4) jc_nil))))))))))))))⟩) rp
theorem ok_law_conds_right {n_law_same : Nat} {dsp : DSp} {k : Nat} (Y : Fs K mg) (T : Bt w K mg) {k_law_split : Nat} (hk_law_split : k_law_split ≤ k) (G_law_split : FnOk P w K mg base (L2.CX P w) k_law_split Y.a_law_split Y.d_law_split ["_law_test"] (spOf K sp_law_split)) {k_joined : Nat} (hk_joined : k_joined ≤ k) (G_joined : FnOk P w K mg base (L2.CX P w) k_joined Y.a_joined Y.d_joined ["conds"] (spOf K sp_joined)) {k_law_same : Nat} (hk_law_same : k_law_same ≤ k) (G_law_same : FnOk P w K mg base (L2.CX P w) k_law_same Y.a_law_same Y.d_law_same ["_law_one", "_law_due"] (spOf K (sp_law_same n_law_same))) {k_members : Nat} (hk_members : k_members ≤ k) (G_members : FnOk P w K mg base (L2.CX P w) k_members Y.a_members Y.d_members ["cond"] (spOf K sp_members)) {k_law_is_right : Nat} (hk_law_is_right : k_law_is_right ≤ k) (G_law_is_right : FnOk P w K mg base (L2.CX P w) k_law_is_right Y.a_law_is_right Y.d_law_is_right ["_law_box", "_law_node"] (spOf K sp_law_is_right)) (len : ∀ as Q, dsp as Q → as.length = 2)
    (rp : ∀ (as : List SD) (Q : RS → List SD → Prop), dsp as Q → (rd_law_conds_right n_law_same) { nx := fun δ => Q (.dt .none) (outs as δ), rt := fun d δ => Q d (outs as δ) } (startD 6 as)) :
    FnOk P w K mg base (L2.CX P w) (k + 1) Y.a_law_conds_right Y.d_law_conds_right ["_law_box", "_law_tests"] (spOf K dsp) :=
  fn_ok (t := fun _ => (rd_law_conds_right n_law_same)) Y.F_law_conds_right sc_law_conds_right len (by decide) (fun cdv A outer s H E xk tk hr => ⟨_,
    (js_cons (js_set (i := 2) sc_law_conds_right.nd je_non) (js_cons (js_for rfl (ji_seq (je_var 1)) (jg_name (i := 3) sc_law_conds_right.nd) (js_one (js_if (jt_isN (je_var 2)) (js_one (js_set (i := 2) sc_law_conds_right.nd (je_var 3))) (js_one (js_set (i := 2) sc_law_conds_right.nd (je_tup (ja_cons je_str (ja_cons (je_var 2) (ja_cons (je_var 3) ja_nil)))))))) (hp := by first | exact PassesOwn.never | exact passes_of rfl)) (js_cons (js_set (i := 4) sc_law_conds_right.nd (je_new (jn_lst ja_nil))) (js_cons (js_for rfl (ji_seq (je_var 1)) (jg_name (i := 3) sc_law_conds_right.nd) (js_one (js_set (i := 4) sc_law_conds_right.nd (je_op do_add (je_var 4) (je_new (jn_callTy cn_list rfl T.b_list (by decide +kernel) (ja_cons (je_call G_law_split (hr.mono hk_law_split) Y.m_law_split Y.F_law_split.kp Y.b_law_split (jc_cons (je_var 3) jc_nil)) ja_nil)))))) (hp := by first | exact PassesOwn.never | exact passes_of rfl)) (js_cons (js_if (JW.jt (jw_or (jt_not (jt_val (je_call G_law_same (hr.mono hk_law_same) Y.m_law_same Y.F_law_same.kp Y.b_law_same (jc_cons (by exact je_callKw G_joined (hr.mono hk_joined) Y.m_joined Y.F_joined.kp (Fun_kb (ks := ["conds"]) (ix := [0]) Y.F_joined (by decide) fun _ _ _ _ _ _ ws hl => match ws, hl with | [_], _ => rfl) (jk_cons (je_callTy cd_tuple rfl T.b_tuple (by decide +kernel) (ja_cons (je_var 1) ja_nil)) jk_nil)) (jc_cons (je_var 2) jc_nil))))) (jw_or1 (jt_not (jt_val (je_call G_law_same (hr.mono hk_law_same) Y.m_law_same Y.F_law_same.kp Y.b_law_same (jc_cons (by exact je_callKw G_members (hr.mono hk_members) Y.m_members Y.F_members.kp (Fun_kb (ks := ["cond"]) (ix := [0]) Y.F_members (by decide) fun _ _ _ _ _ _ ws hl => match ws, hl with | [_], _ => rfl) (jk_cons (je_var 2) jk_nil)) (jc_cons (je_callTy cd_tuple rfl T.b_tuple (by decide +kernel) (ja_cons (je_var 4) ja_nil)) jc_nil)))))))) (js_one (js_ret je_bl)) js_nil) (js_cons (js_set (i := 5) sc_law_conds_right.nd (je_call G_members (hr.mono hk_members) Y.m_members Y.F_members.kp Y.b_members (jc_cons (je_call G_joined (hr.mono hk_joined) Y.m_joined Y.F_joined.kp Y.b_joined (jc_cons (je_call G_members (hr.mono hk_members) Y.m_members Y.F_members.kp Y.b_members (jc_cons (je_var 2) jc_nil)) jc_nil)) jc_nil))) (js_one (js_ret (je_and (je_call G_law_same (hr.mono hk_law_same) Y.m_law_same Y.F_law_same.kp Y.b_law_same (jc_cons (je_var 5) (jc_cons (je_callTy cd_tuple rfl T.b_tuple (by decide +kernel) (ja_cons (je_var 4) ja_nil)) jc_nil))) (je_one (je_m (jm_call G_law_is_right (hr.mono hk_law_is_right) Y.m_law_is_right Y.F_law_is_right.kp Y.b_law_is_right (jq_own 0 (jq_cons (je_var 2) jq_nil))))))))))))))⟩) rp
theorem ok_law {n_law_cond : Nat} {n_law_same : Nat} {n_law_expr : Nat} {dsp : DSp} {k : Nat} (Y : Fs K mg) (T : Bt w K mg) {k_law_numbers : Nat} (hk_law_numbers : k_law_numbers ≤ k) (G_law_numbers : FnOk P w K mg base (L2.CX P w) k_law_numbers Y.a_law_numbers Y.d_law_numbers ["_law_script"] (spOf K sp_law_numbers)) {k_law_cond : Nat} (hk_law_cond : k_law_cond ≤ k) (G_law_cond : FnOk P w K mg base (L2.CX P w) k_law_cond Y.a_law_cond Y.d_law_cond ["_law_box", "_law_deep"] (spOf K (sp_law_cond n_law_cond))) {k_law_conds_right : Nat} (hk_law_conds_right : k_law_conds_right ≤ k) (G_law_conds_right : FnOk P w K mg base (L2.CX P w) k_law_conds_right Y.a_law_conds_right Y.d_law_conds_right ["_law_box", "_law_tests"] (spOf K sp_law_conds_right)) {k_members : Nat} (hk_members : k_members ≤ k) (G_members : FnOk P w K mg base (L2.CX P w) k_members Y.a_members Y.d_members ["cond"] (spOf K sp_members)) {k_law_same : Nat} (hk_law_same : k_law_same ≤ k) (G_law_same : FnOk P w K mg base (L2.CX P w) k_law_same Y.a_law_same Y.d_law_same ["_law_one", "_law_due"] (spOf K (sp_law_same n_law_same))) {k_law_is_right : Nat} (hk_law_is_right : k_law_is_right ≤ k) (G_law_is_right : FnOk P w K mg base (L2.CX P w) k_law_is_right Y.a_law_is_right Y.d_law_is_right ["_law_box", "_law_node"] (spOf K sp_law_is_right)) {k_law_split : Nat} (hk_law_split : k_law_split ≤ k) (G_law_split : FnOk P w K mg base (L2.CX P w) k_law_split Y.a_law_split Y.d_law_split ["_law_test"] (spOf K sp_law_split)) {k_law_begun : Nat} (hk_law_begun : k_law_begun ≤ k) (G_law_begun : FnOk P w K mg base (L2.CX P w) k_law_begun Y.a_law_begun Y.d_law_begun ["_law_box", "_law_plain", "_law_signs"] (spOf K sp_law_begun)) {k_law_take : Nat} (hk_law_take : k_law_take ≤ k) (G_law_take : FnOk P w K mg base (L2.CX P w) k_law_take Y.a_law_take Y.d_law_take ["_law_box", "_law_many"] (spOf K sp_law_take)) {k_law_expr : Nat} (hk_law_expr : k_law_expr ≤ k) (G_law_expr : FnOk P w K mg base (L2.CX P w) k_law_expr Y.a_law_expr Y.d_law_expr ["_law_box", "_law_deep"] (spOf K (sp_law_expr n_law_expr))) {k_law_found : Nat} (hk_law_found : k_law_found ≤ k) (G_law_found : FnOk P w K mg base (L2.CX P w) k_law_found Y.a_law_found Y.d_law_found ["_law_node", "_law_word"] (spOf K sp_law_found)) {k_columns_in : Nat} (hk_columns_in : k_columns_in ≤ k) (G_columns_in : FnOk P w K mg base (L2.CX P w) k_columns_in Y.a_columns_in Y.d_columns_in ["thing"] (spOf K sp_columns_in)) (len : ∀ as Q, dsp as Q → as.length = 1)
    (rp : ∀ (as : List SD) (Q : RS → List SD → Prop), dsp as Q → (rd_law n_law_cond n_law_same n_law_expr) { nx := fun δ => Q (.dt .none) (outs as δ), rt := fun d δ => Q d (outs as δ) } (startD 7 as)) :
    FnOk P w K mg base (L2.CX P w) (k + 1) Y.a_law Y.d_law ["_law_script"] (spOf K dsp) :=
  fn_ok (t := fun _ => (rd_law n_law_cond n_law_same n_law_expr)) Y.F_law sc_law len (by decide) (fun cdv A outer s H E xk tk hr => ⟨_,
    (js_cons (js_setV (i := 1) sc_law.nd (jv_lst (jvs_cons (jv_dt (je_new (jn_call G_law_numbers (hr.mono hk_law_numbers) Y.m_law_numbers Y.F_law_numbers.kp Y.b_law_numbers (jc_cons (je_var 0) jc_nil)))) (jvs_cons (jv_dt je_int) (jvs_cons (jv_dt je_bl) (jvs_cons (jv_dt je_int) (jvs_cons (jv_lst jvs_nil) jvs_nil))))))) (js_perm 1 (js_cons (js_set (i := 2) sc_law.nd (je_m (jm_call G_law_cond (hr.mono hk_law_cond) Y.m_law_cond Y.F_law_cond.kp Y.b_law_cond (jq_own 1 (jq_cons je_int jq_nil))))) (js_cons (js_if (JW.jt (jw_or (jt_not (jt_val (je_m (jm_call G_law_conds_right (hr.mono hk_law_conds_right) Y.m_law_conds_right Y.F_law_conds_right.kp Y.b_law_conds_right (jq_own 1 (jq_cons (je_new (jn_lst ja_nil)) jq_nil)))))) (jw_or (jt_not (jt_val (je_call G_law_same (hr.mono hk_law_same) Y.m_law_same Y.F_law_same.kp Y.b_law_same (jc_cons (je_call G_members (hr.mono hk_members) Y.m_members Y.F_members.kp Y.b_members (jc_cons je_non jc_nil)) (jc_cons (je_tup ja_nil) jc_nil))))) (jw_or1 (jt_not (jt_val (je_m (jm_call G_law_is_right (hr.mono hk_law_is_right) Y.m_law_is_right Y.F_law_is_right.kp Y.b_law_is_right (jq_own 1 (jq_cons je_non jq_nil)))))))))) (js_one (js_ret je_bl)) js_nil) (js_cons (js_if (JW.jt (jw_or (jt_not (jt_val (je_m (jm_call G_law_is_right (hr.mono hk_law_is_right) Y.m_law_is_right Y.F_law_is_right.kp Y.b_law_is_right (jq_own 1 (jq_cons (je_var 2) jq_nil)))))) (jw_or1 (jt_not (jt_val (je_call G_law_same (hr.mono hk_law_same) Y.m_law_same Y.F_law_same.kp Y.b_law_same (jc_cons (je_call G_members (hr.mono hk_members) Y.m_members Y.F_members.kp Y.b_members (jc_cons (je_var 2) jc_nil)) (jc_cons (je_call G_law_split (hr.mono hk_law_split) Y.m_law_split Y.F_law_split.kp Y.b_law_split (jc_cons (je_var 2) jc_nil)) jc_nil)))))))) (js_one (js_ret je_bl)) js_nil) (js_cons (js_for rfl (ji_seq (je_new (jn_lst (ja_cons je_int (ja_cons je_int (ja_cons je_int (ja_cons je_int ja_nil))))))) (jg_name (i := 3) sc_law.nd) (js_cons (js_expr (je_m (jm_call G_law_begun (hr.mono hk_law_begun) Y.m_law_begun Y.F_law_begun.kp Y.b_law_begun (jq_own 1 (jq_cons (je_cmp (do_eq (huD hr)) (je_m (jm_call G_law_take (hr.mono hk_law_take) Y.m_law_take Y.F_law_take.kp Y.b_law_take (jq_own 1 (jq_cons je_int jq_nil)))) je_int) (jq_cons je_int jq_nil)))))) (js_one (js_if (jt_not (jt_val (je_m (jm_call G_law_is_right (hr.mono hk_law_is_right) Y.m_law_is_right Y.F_law_is_right.kp Y.b_law_is_right (jq_own 1 (jq_cons (je_m (jm_call G_law_expr (hr.mono hk_law_expr) Y.m_law_expr Y.F_law_expr.kp Y.b_law_expr (jq_own 1 (jq_cons (je_var 3) jq_nil)))) jq_nil)))))) (js_one (js_ret je_bl)) js_nil))) (hp := by first | exact PassesOwn.never | exact passes_of rfl)) (js_cons (js_for rfl (ji_seq (je_new (jn_lst (ja_cons je_int (ja_cons je_int ja_nil))))) (jg_name (i := 3) sc_law.nd) (js_cons (js_expr (je_m (jm_call G_law_begun (hr.mono hk_law_begun) Y.m_law_begun Y.F_law_begun.kp Y.b_law_begun (jq_own 1 (jq_cons je_bl (jq_cons je_int jq_nil)))))) (js_one (js_if (jt_not (jt_val (je_m (jm_call G_law_is_right (hr.mono hk_law_is_right) Y.m_law_is_right Y.F_law_is_right.kp Y.b_law_is_right (jq_own 1 (jq_cons (je_m (jm_call G_law_cond (hr.mono hk_law_cond) Y.m_law_cond Y.F_law_cond.kp Y.b_law_cond (jq_own 1 (jq_cons (je_var 3) jq_nil)))) jq_nil)))))) (js_one (js_ret je_bl)) js_nil))) (hp := by first | exact PassesOwn.never | exact passes_of rfl)) (js_cons (js_for rfl (ji_seq (je_new (jn_lst (ja_cons je_int (ja_cons je_int ja_nil))))) (jg_name (i := 4) sc_law.nd) (js_cons (js_set (i := 5) sc_law.nd (je_callB (cd_min2 rfl) rfl T.b_min (by decide +kernel) (ja_cons (je_var 4) (ja_cons (je_ix (je_new (jn_lst (ja_cons je_int (ja_cons je_int (ja_cons je_int (ja_cons je_int (ja_cons je_int (ja_cons je_int ja_nil)))))))) (je_m (jm_call G_law_take (hr.mono hk_law_take) Y.m_law_take Y.F_law_take.kp Y.b_law_take (jq_own 1 (jq_cons je_int jq_nil))))) ja_nil)))) (js_cons (js_expr (je_m (jm_call G_law_begun (hr.mono hk_law_begun) Y.m_law_begun Y.F_law_begun.kp Y.b_law_begun (jq_own 1 (jq_cons je_bl (jq_cons (je_op do_sub je_int (je_var 5)) jq_nil)))))) (js_one (js_if (jt_not (jt_val (je_m (jm_call G_law_conds_right (hr.mono hk_law_conds_right) Y.m_law_conds_right Y.F_law_conds_right.kp Y.b_law_conds_right (jq_own 1 (jq_cons (je_new (jn_lc (i := 6) rfl sc_law.nd (ji_range1 rfl T.b_range (ja_cons (je_var 5) ja_nil)) (blkOk_by (N := ["_law_script", "_law_box", "_law_first", "_law_deep", "_law_most", "_law_many", "_law_k"]) (sc := defScope s_law) (by decide +kernel)) (fun _ _ _ _ _ => pg_name (i := 6) sc_law.nd rfl (Or.inl rfl)) (fun _ _ _ _ _ => by exact (je_m (jm_call G_law_cond (hr.mono hk_law_cond) Y.m_law_cond Y.F_law_cond.kp Y.b_law_cond (jq_own 1 (jq_cons (je_op do_mul (je_callTy cd_int rfl T.b_int (by decide +kernel) (ja_cons (je_cmp (do_lt (huD hr)) (je_var 6) je_int) ja_nil)) je_int) jq_nil))))))) jq_nil)))))) (js_one (js_ret je_bl)) js_nil)))) (hp := by first | exact PassesOwn.never | exact passes_of rfl)) (js_one (js_ret (je_and (je_call G_law_same (hr.mono hk_law_same) Y.m_law_same Y.F_law_same.kp Y.b_law_same (jc_cons (je_call G_columns_in (hr.mono hk_columns_in) Y.m_columns_in Y.F_columns_in.kp Y.b_columns_in (jc_cons (je_var 2) jc_nil)) (jc_cons (je_call G_law_found (hr.mono hk_law_found) Y.m_law_found Y.F_law_found.kp Y.b_law_found (jc_cons (je_var 2) (jc_cons je_str jc_nil))) jc_nil))) (je_one (je_call G_law_same (hr.mono hk_law_same) Y.m_law_same Y.F_law_same.kp Y.b_law_same (jc_cons (je_call G_members (hr.mono hk_members) Y.m_members Y.F_members.kp Y.b_members (jc_cons (je_var 2) jc_nil)) (jc_cons (je_call G_law_split (hr.mono hk_law_split) Y.m_law_split Y.F_law_split.kp Y.b_law_split (jc_cons (je_var 2) jc_nil)) jc_nil)))))))))))))))⟩) rp
end
local macro_rules | `(tactic| walk_at "l") => `(tactic| (intro as Q h; (repeat (obtain ⟨_, h⟩ := h)); subst_vars; rfl))
section
variable {P : Program} {w : World} {K : PySem.W.Frag} {mg : Str → Option Value} {base : Heap}
theorem ch_law_numbers (Y : Fs K mg) (T : Bt w K mg) : FnOk P w K mg base (L2.CX P w) 1 Y.a_law_numbers Y.d_law_numbers ["_law_script"] (spOf K (sp_law_numbers)) :=
  ok_law_numbers (k := 0) Y T  (by walk_at "l") rp_law_numbers
theorem ch_law_take (Y : Fs K mg) (T : Bt w K mg) : FnOk P w K mg base (L2.CX P w) 1 Y.a_law_take Y.d_law_take ["_law_box", "_law_many"] (spOf K (sp_law_take)) :=
  ok_law_take (k := 0) Y T  (by walk_at "l") rp_law_take
theorem ch_law_col (Y : Fs K mg) (T : Bt w K mg) : FnOk P w K mg base (L2.CX P w) 2 Y.a_law_col Y.d_law_col ["_law_box"] (spOf K (sp_law_col)) :=
  ok_law_col (k := 1) Y T (by omega) (ch_law_take Y T) (by walk_at "l") rp_law_col
theorem ch_law_agg (Y : Fs K mg) (T : Bt w K mg) : FnOk P w K mg base (L2.CX P w) 3 Y.a_law_agg Y.d_law_agg ["_law_box"] (spOf K (sp_law_agg)) :=
  ok_law_agg (k := 2) Y T (by omega) (ch_law_take Y T) (by omega) (ch_law_col Y T) (by walk_at "l") rp_law_agg
theorem ch_law_expr (Y : Fs K mg) (T : Bt w K mg) : ∀ n, FnOk P w K mg base (L2.CX P w) (3 + n + 1) Y.a_law_expr Y.d_law_expr ["_law_box", "_law_deep"] (spOf K (sp_law_expr n))
  | 0 => fn_never (fun as Q ⟨_, _, _, _, h, _⟩ => absurd h (Nat.not_lt_zero _))
  | n + 1 => ok_law_expr (k := 3 + n + 1) Y T (by omega) (ch_law_take Y T) (Nat.le_refl _) (ch_law_expr Y T n) (by omega) (ch_law_agg Y T) (by omega) (ch_law_col Y T) (by walk_at "l") (rp_law_expr n)
theorem ch_law_question (Y : Fs K mg) (T : Bt w K mg) : FnOk P w K mg base (L2.CX P w) 12 Y.a_law_question Y.d_law_question ["_law_box"] (spOf K (sp_law_question)) :=
  ok_law_question (k := 11) Y T (by omega) (ch_law_expr Y T 7) (by omega) (ch_law_take Y T) (by omega) (ch_law_col Y T) (by walk_at "l") rp_law_question
theorem ch_law_cond (Y : Fs K mg) (T : Bt w K mg) : ∀ n, FnOk P w K mg base (L2.CX P w) (12 + n + 1) Y.a_law_cond Y.d_law_cond ["_law_box", "_law_deep"] (spOf K (sp_law_cond n))
  | 0 => fn_never (fun as Q ⟨_, _, _, _, h, _⟩ => absurd h (Nat.not_lt_zero _))
  | n + 1 => ok_law_cond (k := 12 + n + 1) Y T (by omega) (ch_law_take Y T) (Nat.le_refl _) (ch_law_cond Y T n) (by omega) (ch_law_col Y T) (by omega) (ch_law_expr Y T 7) (by omega) (ch_law_question Y T) (by walk_at "l") (rp_law_cond n)
theorem ch_law_split (Y : Fs K mg) (T : Bt w K mg) : FnOk P w K mg base (L2.CX P w) 1 Y.a_law_split Y.d_law_split ["_law_test"] (spOf K (sp_law_split)) :=
  ok_law_split (k := 0) Y T  (by walk_at "l") rp_law_split
theorem ch_joined (Y : Fs K mg) (T : Bt w K mg) : FnOk P w K mg base (L2.CX P w) 1 Y.a_joined Y.d_joined ["conds"] (spOf K (sp_joined)) :=
  ok_joined (k := 0) Y T  (by walk_at "l") rp_joined
theorem ch_law_same (Y : Fs K mg) (T : Bt w K mg) : ∀ n, FnOk P w K mg base (L2.CX P w) (0 + n + 1) Y.a_law_same Y.d_law_same ["_law_one", "_law_due"] (spOf K (sp_law_same n))
  | 0 => fn_never (fun as Q ⟨_, _, _, h, _⟩ => absurd h (Nat.not_lt_zero _))
  | n + 1 => ok_law_same (k := 0 + n + 1) Y T (Nat.le_refl _) (ch_law_same Y T n) (by walk_at "l") (rp_law_same n)
theorem ch_members (Y : Fs K mg) (T : Bt w K mg) : FnOk P w K mg base (L2.CX P w) 1 Y.a_members Y.d_members ["cond"] (spOf K (sp_members)) :=
  ok_members (k := 0) Y T  (by walk_at "l") rp_members
theorem ch_law_parts (Y : Fs K mg) (T : Bt w K mg) : FnOk P w K mg base (L2.CX P w) 1 Y.a_law_parts Y.d_law_parts ["_law_node"] (spOf K (sp_law_parts)) :=
  ok_law_parts (k := 0) Y T  (by walk_at "l") rp_law_parts
theorem ch_law_found (Y : Fs K mg) (T : Bt w K mg) : FnOk P w K mg base (L2.CX P w) 2 Y.a_law_found Y.d_law_found ["_law_node", "_law_word"] (spOf K (sp_law_found)) :=
  ok_law_found (k := 1) Y T (by omega) (ch_law_parts Y T) (by walk_at "l") rp_law_found
theorem ch_part_places (Y : Fs K mg) (T : Bt w K mg) : FnOk P w K mg base (L2.CX P w) 1 Y.a_part_places Y.d_part_places ["thing"] (spOf K (sp_part_places)) :=
  ok_part_places (k := 0) Y T  (by walk_at "l") rp_part_places
theorem ch_tree_leaves (Y : Fs K mg) (T : Bt w K mg) : FnOk P w K mg base (L2.CX P w) 2 Y.a_tree_leaves Y.d_tree_leaves ["thing"] (spOf K (sp_tree_leaves)) :=
  ok_tree_leaves (k := 1) Y T (by omega) (ch_part_places Y T) (by walk_at "l") rp_tree_leaves
theorem ch_agg_column (Y : Fs K mg) (T : Bt w K mg) : FnOk P w K mg base (L2.CX P w) 1 Y.a_agg_column Y.d_agg_column ["agg"] (spOf K (sp_agg_column)) :=
  ok_agg_column (k := 0) Y T  (by walk_at "l") rp_agg_column
theorem ch_columns_in (Y : Fs K mg) (T : Bt w K mg) : FnOk P w K mg base (L2.CX P w) 3 Y.a_columns_in Y.d_columns_in ["thing"] (spOf K (sp_columns_in)) :=
  ok_columns_in (k := 2) Y T (by omega) (ch_tree_leaves Y T) (by omega) (ch_agg_column Y T) (by walk_at "l") rp_columns_in
theorem ch_aggs_in (Y : Fs K mg) (T : Bt w K mg) : FnOk P w K mg base (L2.CX P w) 3 Y.a_aggs_in Y.d_aggs_in ["thing"] (spOf K (sp_aggs_in)) :=
  ok_aggs_in (k := 2) Y T (by omega) (ch_tree_leaves Y T) (by walk_at "l") rp_aggs_in
theorem ch_law_levels (Y : Fs K mg) (T : Bt w K mg) : FnOk P w K mg base (L2.CX P w) 2 Y.a_law_levels Y.d_law_levels ["_law_node"] (spOf K (sp_law_levels)) :=
  ok_law_levels (k := 1) Y T (by omega) (ch_law_parts Y T) (by walk_at "l") rp_law_levels
theorem ch_height (Y : Fs K mg) (T : Bt w K mg) : FnOk P w K mg base (L2.CX P w) 2 Y.a_height Y.d_height ["thing"] (spOf K (sp_height)) :=
  ok_height (k := 1) Y T (by omega) (ch_part_places Y T) (by walk_at "l") rp_height
theorem ch_law_table (Y : Fs K mg) (T : Bt w K mg) : FnOk P w K mg base (L2.CX P w) 4 Y.a_law_table Y.d_law_table ["_law_box", "_law_node"] (spOf K (sp_law_table P w)) :=
  ok_law_table (k := 3) Y T (by omega) (ch_law_found Y T) (by omega) (ch_law_take Y T) (by omega) (ch_law_col Y T) (by omega) (ch_law_agg Y T) (by walk_at "l") rp_law_table
theorem ch_law_put (Y : Fs K mg) (T : Bt w K mg) : ∀ n, FnOk P w K mg base (L2.CX P w) (0 + n + 1) Y.a_law_put Y.d_law_put ["_law_node", "_law_swaps"] (spOf K (sp_law_put P w n))
  | 0 => fn_never (fun as Q ⟨_, _, _, _, _, _, h, _⟩ => absurd h (Nat.not_lt_zero _))
  | n + 1 => ok_law_put (k := 0 + n + 1) Y T (Nat.le_refl _) (ch_law_put Y T n) (by walk_at "l") (rp_law_put n)
theorem ch_replaced (Y : Fs K mg) (T : Bt w K mg) : ∀ n, FnOk P w K mg base (L2.CX P w) (1 + n + 1) Y.a_replaced Y.d_replaced ["thing", "table"] (spOf K (sp_replaced P w n))
  | 0 => fn_never (fun as Q ⟨_, _, _, _, _, _, h, _⟩ => absurd h (Nat.not_lt_zero _))
  | n + 1 => ok_replaced (k := 1 + n + 1) Y T (by omega) (ch_agg_column Y T) (Nat.le_refl _) (ch_replaced Y T n) (by omega) (ch_part_places Y T) (by walk_at "l") (rp_replaced n)
theorem ch_law_is_right (Y : Fs K mg) (T : Bt w K mg) : FnOk P w K mg base (L2.CX P w) 103 Y.a_law_is_right Y.d_law_is_right ["_law_box", "_law_node"] (spOf K (sp_law_is_right)) :=
  ok_law_is_right (k := 102) Y T (by omega) (ch_law_found Y T) (by omega) (ch_columns_in Y T) (by omega) (ch_law_same Y T 100) (by omega) (ch_aggs_in Y T) (by omega) (ch_law_levels Y T) (by omega) (ch_height Y T) (by omega) (ch_law_table Y T) (by omega) (ch_law_put Y T 100) (by omega) (ch_replaced Y T 100) (by walk_at "l") rp_law_is_right
theorem ch_law_conds_right (Y : Fs K mg) (T : Bt w K mg) : FnOk P w K mg base (L2.CX P w) 104 Y.a_law_conds_right Y.d_law_conds_right ["_law_box", "_law_tests"] (spOf K (sp_law_conds_right)) :=
  ok_law_conds_right (k := 103) Y T (by omega) (ch_law_split Y T) (by omega) (ch_joined Y T) (by omega) (ch_law_same Y T 100) (by omega) (ch_members Y T) (by omega) (ch_law_is_right Y T) (by walk_at "l") rp_law_conds_right
theorem ch_law_begun (Y : Fs K mg) (T : Bt w K mg) : FnOk P w K mg base (L2.CX P w) 1 Y.a_law_begun Y.d_law_begun ["_law_box", "_law_plain", "_law_signs"] (spOf K (sp_law_begun)) :=
  ok_law_begun (k := 0) Y T  (by walk_at "l") rp_law_begun
def topLevel : Nat := 105
theorem chain (Y : Fs K mg) (T : Bt w K mg) : FnOk P w K mg base (L2.CX P w) topLevel Y.a_law Y.d_law ["_law_script"] (spOf K spLaw) :=
  ok_law (k := 104) Y T (by omega) (ch_law_numbers Y T) (by omega) (ch_law_cond Y T 6) (by omega) (ch_law_conds_right Y T) (by omega) (ch_members Y T) (by omega) (ch_law_same Y T 100) (by omega) (ch_law_is_right Y T) (by omega) (ch_law_split Y T) (by omega) (ch_law_begun Y T) (by omega) (ch_law_take Y T) (by omega) (ch_law_expr Y T 7) (by omega) (ch_law_found Y T) (by omega) (ch_columns_in Y T) (by walk_at "l") rp_law
end
theorem all_mk {l : PySem.W.OpenLaw} {w : World} {K : PySem.W.Frag} {h : Heap} {mg : Str → Option Value} {fa : Addr} (X : K.In h) (G : h.Ns mainGlobals mg) (hfa : mg "law" = some (.ref fa))
    {f0 : Addr} {od0 an0 : Option Addr} {sl0 : Array (Option Value)} {oc0 kV0 dc0 pm0 cd0 ct0 : Value} (a0 : PySem.W.nsIn K mainGlobals "_part_places" = some (some (.ref f0))) (l0 : K.lookup f0 = some ⟨oc0, od0, .func (PySem.W.fnOf "_part_places" "_part_places" (defArgs s_part_places) (defBody s_part_places) (defScope s_part_places) .none kV0 dc0 pm0 an0 cd0 ct0), sl0⟩) (c0 : PySem.W.codeIn K cd0 "_part_places" = true) (k0 : PySem.W.keepIn K (.ref f0) = true)
    {f1 : Addr} {od1 an1 : Option Addr} {sl1 : Array (Option Value)} {oc1 kV1 dc1 pm1 cd1 ct1 : Value} (a1 : PySem.W.nsIn K mainGlobals "members" = some (some (.ref f1))) (l1 : K.lookup f1 = some ⟨oc1, od1, .func (PySem.W.fnOf "members" "members" (defArgs s_members) (defBody s_members) (defScope s_members) .none kV1 dc1 pm1 an1 cd1 ct1), sl1⟩) (c1 : PySem.W.codeIn K cd1 "members" = true) (k1 : PySem.W.keepIn K (.ref f1) = true)
    {f2 : Addr} {od2 an2 : Option Addr} {sl2 : Array (Option Value)} {oc2 kV2 dc2 pm2 cd2 ct2 : Value} (a2 : PySem.W.nsIn K mainGlobals "joined" = some (some (.ref f2))) (l2 : K.lookup f2 = some ⟨oc2, od2, .func (PySem.W.fnOf "joined" "joined" (defArgs s_joined) (defBody s_joined) (defScope s_joined) .none kV2 dc2 pm2 an2 cd2 ct2), sl2⟩) (c2 : PySem.W.codeIn K cd2 "joined" = true) (k2 : PySem.W.keepIn K (.ref f2) = true)
    {f3 : Addr} {od3 an3 : Option Addr} {sl3 : Array (Option Value)} {oc3 kV3 dc3 pm3 cd3 ct3 : Value} (a3 : PySem.W.nsIn K mainGlobals "height" = some (some (.ref f3))) (l3 : K.lookup f3 = some ⟨oc3, od3, .func (PySem.W.fnOf "height" "height" (defArgs s_height) (defBody s_height) (defScope s_height) .none kV3 dc3 pm3 an3 cd3 ct3), sl3⟩) (c3 : PySem.W.codeIn K cd3 "height" = true) (k3 : PySem.W.keepIn K (.ref f3) = true)
    {f4 : Addr} {od4 an4 : Option Addr} {sl4 : Array (Option Value)} {oc4 kV4 dc4 pm4 cd4 ct4 : Value} (a4 : PySem.W.nsIn K mainGlobals "columns_in" = some (some (.ref f4))) (l4 : K.lookup f4 = some ⟨oc4, od4, .func (PySem.W.fnOf "columns_in" "columns_in" (defArgs s_columns_in) (defBody s_columns_in) (defScope s_columns_in) .none kV4 dc4 pm4 an4 cd4 ct4), sl4⟩) (c4 : PySem.W.codeIn K cd4 "columns_in" = true) (k4 : PySem.W.keepIn K (.ref f4) = true)
    {f5 : Addr} {od5 an5 : Option Addr} {sl5 : Array (Option Value)} {oc5 kV5 dc5 pm5 cd5 ct5 : Value} (a5 : PySem.W.nsIn K mainGlobals "aggs_in" = some (some (.ref f5))) (l5 : K.lookup f5 = some ⟨oc5, od5, .func (PySem.W.fnOf "aggs_in" "aggs_in" (defArgs s_aggs_in) (defBody s_aggs_in) (defScope s_aggs_in) .none kV5 dc5 pm5 an5 cd5 ct5), sl5⟩) (c5 : PySem.W.codeIn K cd5 "aggs_in" = true) (k5 : PySem.W.keepIn K (.ref f5) = true)
    {f6 : Addr} {od6 an6 : Option Addr} {sl6 : Array (Option Value)} {oc6 kV6 dc6 pm6 cd6 ct6 : Value} (a6 : PySem.W.nsIn K mainGlobals "replaced" = some (some (.ref f6))) (l6 : K.lookup f6 = some ⟨oc6, od6, .func (PySem.W.fnOf "replaced" "replaced" (defArgs s_replaced) (defBody s_replaced) (defScope s_replaced) .none kV6 dc6 pm6 an6 cd6 ct6), sl6⟩) (c6 : PySem.W.codeIn K cd6 "replaced" = true) (k6 : PySem.W.keepIn K (.ref f6) = true)
    {f7 : Addr} {od7 an7 : Option Addr} {sl7 : Array (Option Value)} {oc7 kV7 dc7 pm7 cd7 ct7 : Value} (a7 : PySem.W.nsIn K mainGlobals "_tree_leaves" = some (some (.ref f7))) (l7 : K.lookup f7 = some ⟨oc7, od7, .func (PySem.W.fnOf "_tree_leaves" "_tree_leaves" (defArgs s_tree_leaves) (defBody s_tree_leaves) (defScope s_tree_leaves) .none kV7 dc7 pm7 an7 cd7 ct7), sl7⟩) (c7 : PySem.W.codeIn K cd7 "_tree_leaves" = true) (k7 : PySem.W.keepIn K (.ref f7) = true)
    {f8 : Addr} {od8 an8 : Option Addr} {sl8 : Array (Option Value)} {oc8 kV8 dc8 pm8 cd8 ct8 : Value} (a8 : PySem.W.nsIn K mainGlobals "_agg_column" = some (some (.ref f8))) (l8 : K.lookup f8 = some ⟨oc8, od8, .func (PySem.W.fnOf "_agg_column" "_agg_column" (defArgs s_agg_column) (defBody s_agg_column) (defScope s_agg_column) .none kV8 dc8 pm8 an8 cd8 ct8), sl8⟩) (c8 : PySem.W.codeIn K cd8 "_agg_column" = true) (k8 : PySem.W.keepIn K (.ref f8) = true)
    {f9 : Addr} {od9 an9 : Option Addr} {sl9 : Array (Option Value)} {oc9 kV9 dc9 pm9 cd9 ct9 : Value} (a9 : PySem.W.nsIn K mainGlobals "_law_numbers" = some (some (.ref f9))) (l9 : K.lookup f9 = some ⟨oc9, od9, .func (PySem.W.fnOf "_law_numbers" "_law_numbers" (defArgs s_law_numbers) (defBody s_law_numbers) (defScope s_law_numbers) .none kV9 dc9 pm9 an9 cd9 ct9), sl9⟩) (c9 : PySem.W.codeIn K cd9 "_law_numbers" = true) (k9 : PySem.W.keepIn K (.ref f9) = true)
    {f10 : Addr} {od10 an10 : Option Addr} {sl10 : Array (Option Value)} {oc10 kV10 dc10 pm10 cd10 ct10 : Value} (a10 : PySem.W.nsIn K mainGlobals "_law_take" = some (some (.ref f10))) (l10 : K.lookup f10 = some ⟨oc10, od10, .func (PySem.W.fnOf "_law_take" "_law_take" (defArgs s_law_take) (defBody s_law_take) (defScope s_law_take) .none kV10 dc10 pm10 an10 cd10 ct10), sl10⟩) (c10 : PySem.W.codeIn K cd10 "_law_take" = true) (k10 : PySem.W.keepIn K (.ref f10) = true)
    {f11 : Addr} {od11 an11 : Option Addr} {sl11 : Array (Option Value)} {oc11 kV11 dc11 pm11 cd11 ct11 : Value} (a11 : PySem.W.nsIn K mainGlobals "_law_begun" = some (some (.ref f11))) (l11 : K.lookup f11 = some ⟨oc11, od11, .func (PySem.W.fnOf "_law_begun" "_law_begun" (defArgs s_law_begun) (defBody s_law_begun) (defScope s_law_begun) .none kV11 dc11 pm11 an11 cd11 ct11), sl11⟩) (c11 : PySem.W.codeIn K cd11 "_law_begun" = true) (k11 : PySem.W.keepIn K (.ref f11) = true)
    {f12 : Addr} {od12 an12 : Option Addr} {sl12 : Array (Option Value)} {oc12 kV12 dc12 pm12 cd12 ct12 : Value} (a12 : PySem.W.nsIn K mainGlobals "_law_col" = some (some (.ref f12))) (l12 : K.lookup f12 = some ⟨oc12, od12, .func (PySem.W.fnOf "_law_col" "_law_col" (defArgs s_law_col) (defBody s_law_col) (defScope s_law_col) .none kV12 dc12 pm12 an12 cd12 ct12), sl12⟩) (c12 : PySem.W.codeIn K cd12 "_law_col" = true) (k12 : PySem.W.keepIn K (.ref f12) = true)
    {f13 : Addr} {od13 an13 : Option Addr} {sl13 : Array (Option Value)} {oc13 kV13 dc13 pm13 cd13 ct13 : Value} (a13 : PySem.W.nsIn K mainGlobals "_law_agg" = some (some (.ref f13))) (l13 : K.lookup f13 = some ⟨oc13, od13, .func (PySem.W.fnOf "_law_agg" "_law_agg" (defArgs s_law_agg) (defBody s_law_agg) (defScope s_law_agg) .none kV13 dc13 pm13 an13 cd13 ct13), sl13⟩) (c13 : PySem.W.codeIn K cd13 "_law_agg" = true) (k13 : PySem.W.keepIn K (.ref f13) = true)
    {f14 : Addr} {od14 an14 : Option Addr} {sl14 : Array (Option Value)} {oc14 kV14 dc14 pm14 cd14 ct14 : Value} (a14 : PySem.W.nsIn K mainGlobals "_law_expr" = some (some (.ref f14))) (l14 : K.lookup f14 = some ⟨oc14, od14, .func (PySem.W.fnOf "_law_expr" "_law_expr" (defArgs s_law_expr) (defBody s_law_expr) (defScope s_law_expr) .none kV14 dc14 pm14 an14 cd14 ct14), sl14⟩) (c14 : PySem.W.codeIn K cd14 "_law_expr" = true) (k14 : PySem.W.keepIn K (.ref f14) = true)
    {f15 : Addr} {od15 an15 : Option Addr} {sl15 : Array (Option Value)} {oc15 kV15 dc15 pm15 cd15 ct15 : Value} (a15 : PySem.W.nsIn K mainGlobals "_law_question" = some (some (.ref f15))) (l15 : K.lookup f15 = some ⟨oc15, od15, .func (PySem.W.fnOf "_law_question" "_law_question" (defArgs s_law_question) (defBody s_law_question) (defScope s_law_question) .none kV15 dc15 pm15 an15 cd15 ct15), sl15⟩) (c15 : PySem.W.codeIn K cd15 "_law_question" = true) (k15 : PySem.W.keepIn K (.ref f15) = true)
    {f16 : Addr} {od16 an16 : Option Addr} {sl16 : Array (Option Value)} {oc16 kV16 dc16 pm16 cd16 ct16 : Value} (a16 : PySem.W.nsIn K mainGlobals "_law_cond" = some (some (.ref f16))) (l16 : K.lookup f16 = some ⟨oc16, od16, .func (PySem.W.fnOf "_law_cond" "_law_cond" (defArgs s_law_cond) (defBody s_law_cond) (defScope s_law_cond) .none kV16 dc16 pm16 an16 cd16 ct16), sl16⟩) (c16 : PySem.W.codeIn K cd16 "_law_cond" = true) (k16 : PySem.W.keepIn K (.ref f16) = true)
    {f17 : Addr} {od17 an17 : Option Addr} {sl17 : Array (Option Value)} {oc17 kV17 dc17 pm17 cd17 ct17 : Value} (a17 : PySem.W.nsIn K mainGlobals "_law_parts" = some (some (.ref f17))) (l17 : K.lookup f17 = some ⟨oc17, od17, .func (PySem.W.fnOf "_law_parts" "_law_parts" (defArgs s_law_parts) (defBody s_law_parts) (defScope s_law_parts) .none kV17 dc17 pm17 an17 cd17 ct17), sl17⟩) (c17 : PySem.W.codeIn K cd17 "_law_parts" = true) (k17 : PySem.W.keepIn K (.ref f17) = true)
    {f18 : Addr} {od18 an18 : Option Addr} {sl18 : Array (Option Value)} {oc18 kV18 dc18 pm18 cd18 ct18 : Value} (a18 : PySem.W.nsIn K mainGlobals "_law_found" = some (some (.ref f18))) (l18 : K.lookup f18 = some ⟨oc18, od18, .func (PySem.W.fnOf "_law_found" "_law_found" (defArgs s_law_found) (defBody s_law_found) (defScope s_law_found) .none kV18 dc18 pm18 an18 cd18 ct18), sl18⟩) (c18 : PySem.W.codeIn K cd18 "_law_found" = true) (k18 : PySem.W.keepIn K (.ref f18) = true)
    {f19 : Addr} {od19 an19 : Option Addr} {sl19 : Array (Option Value)} {oc19 kV19 dc19 pm19 cd19 ct19 : Value} (a19 : PySem.W.nsIn K mainGlobals "_law_levels" = some (some (.ref f19))) (l19 : K.lookup f19 = some ⟨oc19, od19, .func (PySem.W.fnOf "_law_levels" "_law_levels" (defArgs s_law_levels) (defBody s_law_levels) (defScope s_law_levels) .none kV19 dc19 pm19 an19 cd19 ct19), sl19⟩) (c19 : PySem.W.codeIn K cd19 "_law_levels" = true) (k19 : PySem.W.keepIn K (.ref f19) = true)
    {f20 : Addr} {od20 an20 : Option Addr} {sl20 : Array (Option Value)} {oc20 kV20 dc20 pm20 cd20 ct20 : Value} (a20 : PySem.W.nsIn K mainGlobals "_law_split" = some (some (.ref f20))) (l20 : K.lookup f20 = some ⟨oc20, od20, .func (PySem.W.fnOf "_law_split" "_law_split" (defArgs s_law_split) (defBody s_law_split) (defScope s_law_split) .none kV20 dc20 pm20 an20 cd20 ct20), sl20⟩) (c20 : PySem.W.codeIn K cd20 "_law_split" = true) (k20 : PySem.W.keepIn K (.ref f20) = true)
    {f21 : Addr} {od21 an21 : Option Addr} {sl21 : Array (Option Value)} {oc21 kV21 dc21 pm21 cd21 ct21 : Value} (a21 : PySem.W.nsIn K mainGlobals "_law_put" = some (some (.ref f21))) (l21 : K.lookup f21 = some ⟨oc21, od21, .func (PySem.W.fnOf "_law_put" "_law_put" (defArgs s_law_put) (defBody s_law_put) (defScope s_law_put) .none kV21 dc21 pm21 an21 cd21 ct21), sl21⟩) (c21 : PySem.W.codeIn K cd21 "_law_put" = true) (k21 : PySem.W.keepIn K (.ref f21) = true)
    {f22 : Addr} {od22 an22 : Option Addr} {sl22 : Array (Option Value)} {oc22 kV22 dc22 pm22 cd22 ct22 : Value} (a22 : PySem.W.nsIn K mainGlobals "_law_table" = some (some (.ref f22))) (l22 : K.lookup f22 = some ⟨oc22, od22, .func (PySem.W.fnOf "_law_table" "_law_table" (defArgs s_law_table) (defBody s_law_table) (defScope s_law_table) .none kV22 dc22 pm22 an22 cd22 ct22), sl22⟩) (c22 : PySem.W.codeIn K cd22 "_law_table" = true) (k22 : PySem.W.keepIn K (.ref f22) = true)
    {f23 : Addr} {od23 an23 : Option Addr} {sl23 : Array (Option Value)} {oc23 kV23 dc23 pm23 cd23 ct23 : Value} (a23 : PySem.W.nsIn K mainGlobals "_law_same" = some (some (.ref f23))) (l23 : K.lookup f23 = some ⟨oc23, od23, .func (PySem.W.fnOf "_law_same" "_law_same" (defArgs s_law_same) (defBody s_law_same) (defScope s_law_same) .none kV23 dc23 pm23 an23 cd23 ct23), sl23⟩) (c23 : PySem.W.codeIn K cd23 "_law_same" = true) (k23 : PySem.W.keepIn K (.ref f23) = true)
    {f24 : Addr} {od24 an24 : Option Addr} {sl24 : Array (Option Value)} {oc24 kV24 dc24 pm24 cd24 ct24 : Value} (a24 : PySem.W.nsIn K mainGlobals "_law_is_right" = some (some (.ref f24))) (l24 : K.lookup f24 = some ⟨oc24, od24, .func (PySem.W.fnOf "_law_is_right" "_law_is_right" (defArgs s_law_is_right) (defBody s_law_is_right) (defScope s_law_is_right) .none kV24 dc24 pm24 an24 cd24 ct24), sl24⟩) (c24 : PySem.W.codeIn K cd24 "_law_is_right" = true) (k24 : PySem.W.keepIn K (.ref f24) = true)
    {f25 : Addr} {od25 an25 : Option Addr} {sl25 : Array (Option Value)} {oc25 kV25 dc25 pm25 cd25 ct25 : Value} (a25 : PySem.W.nsIn K mainGlobals "_law_conds_right" = some (some (.ref f25))) (l25 : K.lookup f25 = some ⟨oc25, od25, .func (PySem.W.fnOf "_law_conds_right" "_law_conds_right" (defArgs s_law_conds_right) (defBody s_law_conds_right) (defScope s_law_conds_right) .none kV25 dc25 pm25 an25 cd25 ct25), sl25⟩) (c25 : PySem.W.codeIn K cd25 "_law_conds_right" = true) (k25 : PySem.W.keepIn K (.ref f25) = true)
    {f26 : Addr} {od26 an26 : Option Addr} {sl26 : Array (Option Value)} {oc26 kV26 dc26 pm26 cd26 ct26 : Value} (a26 : PySem.W.nsIn K mainGlobals "law" = some (some (.ref f26))) (l26 : K.lookup f26 = some ⟨oc26, od26, .func (PySem.W.fnOf "law" "law" (defArgs s_law) (defBody s_law) (defScope s_law) .none kV26 dc26 pm26 an26 cd26 ct26), sl26⟩) (c26 : PySem.W.codeIn K cd26 "law" = true) (k26 : PySem.W.keepIn K (.ref f26) = true)
    {g_TREE_PARTS : Addr} {o_TREE_PARTS : Obj} {i_TREE_PARTS : Array DictEntry} {n_TREE_PARTS : Nat} (y_TREE_PARTS : PySem.W.nsIn K mainGlobals "TREE_PARTS" = some (some (.ref g_TREE_PARTS))) (w_TREE_PARTS : K.lookup g_TREE_PARTS = some o_TREE_PARTS) (x_TREE_PARTS : o_TREE_PARTS.ExactDict) (d_TREE_PARTS : o_TREE_PARTS.data = .dict i_TREE_PARTS n_TREE_PARTS) (e_TREE_PARTS : (g_TREE_PARTS == sysModules) = false) (v_TREE_PARTS : EnK K w i_TREE_PARTS.toList kv_TREE_PARTS)
    (z_abs : PySem.W.nsIn K mainGlobals "abs" = some none)
    (z_all : PySem.W.nsIn K mainGlobals "all" = some none)
    (z_bool : PySem.W.nsIn K mainGlobals "bool" = some none)
    (z_dict : PySem.W.nsIn K mainGlobals "dict" = some none)
    (z_int : PySem.W.nsIn K mainGlobals "int" = some none)
    (z_isinstance : PySem.W.nsIn K mainGlobals "isinstance" = some none)
    (z_len : PySem.W.nsIn K mainGlobals "len" = some none)
    (z_list : PySem.W.nsIn K mainGlobals "list" = some none)
    (z_max : PySem.W.nsIn K mainGlobals "max" = some none)
    (z_min : PySem.W.nsIn K mainGlobals "min" = some none)
    (z_range : PySem.W.nsIn K mainGlobals "range" = some none)
    (z_reversed : PySem.W.nsIn K mainGlobals "reversed" = some none)
    (z_str : PySem.W.nsIn K mainGlobals "str" = some none)
    (z_tuple : PySem.W.nsIn K mainGlobals "tuple" = some none) :
    ∃ fd : FuncData, (∀ (s : Shared) (v : Value), BindsTo s fd ⟨[v], []⟩ [("_law_script", v)]) ∧ ∀ base : Heap, K.In base → base.Ns mainGlobals mg → FnOk l.prog w K mg base (L2.CX l.prog w) topLevel fa fd ["_law_script"] (spOf K spLaw) := by
  have e := hfa.symm.trans (PySem.W.mg_of X G a26)
  cases e
  have F0 := fun_mk (st := s_part_places) l0 c0 k0
  have b0 := F0.binds (ps := ["thing"]) fun _ _ _ _ _ _ us hl => match us, hl with | [_], _ => rfl
  have F1 := fun_mk (st := s_members) l1 c1 k1
  have b1 := F1.binds (ps := ["cond"]) fun _ _ _ _ _ _ us hl => match us, hl with | [_], _ => rfl
  have F2 := fun_mk (st := s_joined) l2 c2 k2
  have b2 := F2.binds (ps := ["conds"]) fun _ _ _ _ _ _ us hl => match us, hl with | [_], _ => rfl
  have F3 := fun_mk (st := s_height) l3 c3 k3
  have b3 := F3.binds (ps := ["thing"]) fun _ _ _ _ _ _ us hl => match us, hl with | [_], _ => rfl
  have F4 := fun_mk (st := s_columns_in) l4 c4 k4
  have b4 := F4.binds (ps := ["thing"]) fun _ _ _ _ _ _ us hl => match us, hl with | [_], _ => rfl
  have F5 := fun_mk (st := s_aggs_in) l5 c5 k5
  have b5 := F5.binds (ps := ["thing"]) fun _ _ _ _ _ _ us hl => match us, hl with | [_], _ => rfl
  have F6 := fun_mk (st := s_replaced) l6 c6 k6
  have b6 := F6.binds (ps := ["thing", "table"]) fun _ _ _ _ _ _ us hl => match us, hl with | [_, _], _ => rfl
  have F7 := fun_mk (st := s_tree_leaves) l7 c7 k7
  have b7 := F7.binds (ps := ["thing"]) fun _ _ _ _ _ _ us hl => match us, hl with | [_], _ => rfl
  have F8 := fun_mk (st := s_agg_column) l8 c8 k8
  have b8 := F8.binds (ps := ["agg"]) fun _ _ _ _ _ _ us hl => match us, hl with | [_], _ => rfl
  have F9 := fun_mk (st := s_law_numbers) l9 c9 k9
  have b9 := F9.binds (ps := ["_law_script"]) fun _ _ _ _ _ _ us hl => match us, hl with | [_], _ => rfl
  have F10 := fun_mk (st := s_law_take) l10 c10 k10
  have b10 := F10.binds (ps := ["_law_box", "_law_many"]) fun _ _ _ _ _ _ us hl => match us, hl with | [_, _], _ => rfl
  have F11 := fun_mk (st := s_law_begun) l11 c11 k11
  have b11 := F11.binds (ps := ["_law_box", "_law_plain", "_law_signs"]) fun _ _ _ _ _ _ us hl => match us, hl with | [_, _, _], _ => rfl
  have F12 := fun_mk (st := s_law_col) l12 c12 k12
  have b12 := F12.binds (ps := ["_law_box"]) fun _ _ _ _ _ _ us hl => match us, hl with | [_], _ => rfl
  have F13 := fun_mk (st := s_law_agg) l13 c13 k13
  have b13 := F13.binds (ps := ["_law_box"]) fun _ _ _ _ _ _ us hl => match us, hl with | [_], _ => rfl
  have F14 := fun_mk (st := s_law_expr) l14 c14 k14
  have b14 := F14.binds (ps := ["_law_box", "_law_deep"]) fun _ _ _ _ _ _ us hl => match us, hl with | [_, _], _ => rfl
  have F15 := fun_mk (st := s_law_question) l15 c15 k15
  have b15 := F15.binds (ps := ["_law_box"]) fun _ _ _ _ _ _ us hl => match us, hl with | [_], _ => rfl
  have F16 := fun_mk (st := s_law_cond) l16 c16 k16
  have b16 := F16.binds (ps := ["_law_box", "_law_deep"]) fun _ _ _ _ _ _ us hl => match us, hl with | [_, _], _ => rfl
  have F17 := fun_mk (st := s_law_parts) l17 c17 k17
  have b17 := F17.binds (ps := ["_law_node"]) fun _ _ _ _ _ _ us hl => match us, hl with | [_], _ => rfl
  have F18 := fun_mk (st := s_law_found) l18 c18 k18
  have b18 := F18.binds (ps := ["_law_node", "_law_word"]) fun _ _ _ _ _ _ us hl => match us, hl with | [_, _], _ => rfl
  have F19 := fun_mk (st := s_law_levels) l19 c19 k19
  have b19 := F19.binds (ps := ["_law_node"]) fun _ _ _ _ _ _ us hl => match us, hl with | [_], _ => rfl
  have F20 := fun_mk (st := s_law_split) l20 c20 k20
  have b20 := F20.binds (ps := ["_law_test"]) fun _ _ _ _ _ _ us hl => match us, hl with | [_], _ => rfl
  have F21 := fun_mk (st := s_law_put) l21 c21 k21
  have b21 := F21.binds (ps := ["_law_node", "_law_swaps"]) fun _ _ _ _ _ _ us hl => match us, hl with | [_, _], _ => rfl
  have F22 := fun_mk (st := s_law_table) l22 c22 k22
  have b22 := F22.binds (ps := ["_law_box", "_law_node"]) fun _ _ _ _ _ _ us hl => match us, hl with | [_, _], _ => rfl
  have F23 := fun_mk (st := s_law_same) l23 c23 k23
  have b23 := F23.binds (ps := ["_law_one", "_law_due"]) fun _ _ _ _ _ _ us hl => match us, hl with | [_, _], _ => rfl
  have F24 := fun_mk (st := s_law_is_right) l24 c24 k24
  have b24 := F24.binds (ps := ["_law_box", "_law_node"]) fun _ _ _ _ _ _ us hl => match us, hl with | [_, _], _ => rfl
  have F25 := fun_mk (st := s_law_conds_right) l25 c25 k25
  have b25 := F25.binds (ps := ["_law_box", "_law_tests"]) fun _ _ _ _ _ _ us hl => match us, hl with | [_, _], _ => rfl
  have F26 := fun_mk (st := s_law) l26 c26 k26
  have b26 := F26.binds (ps := ["_law_script"]) fun _ _ _ _ _ _ us hl => match us, hl with | [_], _ => rfl
  have Y : ∃ Y : Fs K mg, Y.a_law = fa ∧ Y.d_law = PySem.W.fnOf "law" "law" (defArgs s_law) (defBody s_law) (defScope s_law) .none kV26 dc26 pm26 an26 cd26 ct26 := ⟨{ a_part_places := _, d_part_places := _, F_part_places := F0, b_part_places := b0, m_part_places := PySem.W.mg_of X G a0, a_members := _, d_members := _, F_members := F1, b_members := b1, m_members := PySem.W.mg_of X G a1, a_joined := _, d_joined := _, F_joined := F2, b_joined := b2, m_joined := PySem.W.mg_of X G a2, a_height := _, d_height := _, F_height := F3, b_height := b3, m_height := PySem.W.mg_of X G a3, a_columns_in := _, d_columns_in := _, F_columns_in := F4, b_columns_in := b4, m_columns_in := PySem.W.mg_of X G a4, a_aggs_in := _, d_aggs_in := _, F_aggs_in := F5, b_aggs_in := b5, m_aggs_in := PySem.W.mg_of X G a5, a_replaced := _, d_replaced := _, F_replaced := F6, b_replaced := b6, m_replaced := PySem.W.mg_of X G a6, a_tree_leaves := _, d_tree_leaves := _, F_tree_leaves := F7, b_tree_leaves := b7, m_tree_leaves := PySem.W.mg_of X G a7, a_agg_column := _, d_agg_column := _, F_agg_column := F8, b_agg_column := b8, m_agg_column := PySem.W.mg_of X G a8, a_law_numbers := _, d_law_numbers := _, F_law_numbers := F9, b_law_numbers := b9, m_law_numbers := PySem.W.mg_of X G a9, a_law_take := _, d_law_take := _, F_law_take := F10, b_law_take := b10, m_law_take := PySem.W.mg_of X G a10, a_law_begun := _, d_law_begun := _, F_law_begun := F11, b_law_begun := b11, m_law_begun := PySem.W.mg_of X G a11, a_law_col := _, d_law_col := _, F_law_col := F12, b_law_col := b12, m_law_col := PySem.W.mg_of X G a12, a_law_agg := _, d_law_agg := _, F_law_agg := F13, b_law_agg := b13, m_law_agg := PySem.W.mg_of X G a13, a_law_expr := _, d_law_expr := _, F_law_expr := F14, b_law_expr := b14, m_law_expr := PySem.W.mg_of X G a14, a_law_question := _, d_law_question := _, F_law_question := F15, b_law_question := b15, m_law_question := PySem.W.mg_of X G a15, a_law_cond := _, d_law_cond := _, F_law_cond := F16, b_law_cond := b16, m_law_cond := PySem.W.mg_of X G a16, a_law_parts := _, d_law_parts := _, F_law_parts := F17, b_law_parts := b17, m_law_parts := PySem.W.mg_of X G a17, a_law_found := _, d_law_found := _, F_law_found := F18, b_law_found := b18, m_law_found := PySem.W.mg_of X G a18, a_law_levels := _, d_law_levels := _, F_law_levels := F19, b_law_levels := b19, m_law_levels := PySem.W.mg_of X G a19, a_law_split := _, d_law_split := _, F_law_split := F20, b_law_split := b20, m_law_split := PySem.W.mg_of X G a20, a_law_put := _, d_law_put := _, F_law_put := F21, b_law_put := b21, m_law_put := PySem.W.mg_of X G a21, a_law_table := _, d_law_table := _, F_law_table := F22, b_law_table := b22, m_law_table := PySem.W.mg_of X G a22, a_law_same := _, d_law_same := _, F_law_same := F23, b_law_same := b23, m_law_same := PySem.W.mg_of X G a23, a_law_is_right := _, d_law_is_right := _, F_law_is_right := F24, b_law_is_right := b24, m_law_is_right := PySem.W.mg_of X G a24, a_law_conds_right := _, d_law_conds_right := _, F_law_conds_right := F25, b_law_conds_right := b25, m_law_conds_right := PySem.W.mg_of X G a25, a_law := _, d_law := _, F_law := F26, b_law := b26, m_law := PySem.W.mg_of X G a26 }, rfl, rfl⟩
  obtain ⟨Y, ya, yd⟩ := Y
  have T : Bt w K mg := ⟨⟨_, _, _, _, PySem.W.mg_of X G y_TREE_PARTS, w_TREE_PARTS, x_TREE_PARTS, d_TREE_PARTS, v_TREE_PARTS, e_TREE_PARTS⟩, PySem.W.mg_none_of X G z_abs, PySem.W.mg_none_of X G z_all, PySem.W.mg_none_of X G z_bool, PySem.W.mg_none_of X G z_dict, PySem.W.mg_none_of X G z_int, PySem.W.mg_none_of X G z_isinstance, PySem.W.mg_none_of X G z_len, PySem.W.mg_none_of X G z_list, PySem.W.mg_none_of X G z_max, PySem.W.mg_none_of X G z_min, PySem.W.mg_none_of X G z_range, PySem.W.mg_none_of X G z_reversed, PySem.W.mg_none_of X G z_str, PySem.W.mg_none_of X G z_tuple⟩
  refine ⟨PySem.W.fnOf "law" "law" (defArgs s_law) (defBody s_law) (defScope s_law) .none kV26 dc26 pm26 an26 cd26 ct26, fun s v => .of_eq rfl, fun base _ _ => ?_⟩
  rw [← ya, ← yd]
  exact chain Y T
end K20
open PySem PySem.W PyProof.Rows
set_option maxRecDepth 100000 in
set_option maxHeartbeats 0 in
theorem PySem.Challenge.cw_leastplans_k20_trees_gone_through_holds : PySem.Challenge.rw_leastplans_k20_trees_gone_through.Holds := by
  w_on; o_law; k_head; (case hw => w_witness2)
  k_fill
  refine EL.walk_ofE (l := PySem.Challenge.rw_leastplans_k20_trees_gone_through) (n := 63) (k := K20.topLevel) (x := "_law_script") (sp := fun K => EL.spOf K EL.spLaw) rfl (by decide) rfl ⟨rfl, by decide, by decide⟩ (fun w h Y => by first | exact PySem.W.kIn_of Y | exact PySem.W.km_in_of Y) ?F (fun _ _ a ns hl _ hS => EL.law_ask hl hS)
  case F =>
    intro w mg fa h KX G hmg
    refine' K20.all_mk KX G hmg  ?a0 ?l0 ?c0 ?k0 ?a1 ?l1 ?c1 ?k1 ?a2 ?l2 ?c2 ?k2 ?a3 ?l3 ?c3 ?k3 ?a4 ?l4 ?c4 ?k4 ?a5 ?l5 ?c5 ?k5 ?a6 ?l6 ?c6 ?k6 ?a7 ?l7 ?c7 ?k7 ?a8 ?l8 ?c8 ?k8 ?a9 ?l9 ?c9 ?k9 ?a10 ?l10 ?c10 ?k10 ?a11 ?l11 ?c11 ?k11 ?a12 ?l12 ?c12 ?k12 ?a13 ?l13 ?c13 ?k13 ?a14 ?l14 ?c14 ?k14 ?a15 ?l15 ?c15 ?k15 ?a16 ?l16 ?c16 ?k16 ?a17 ?l17 ?c17 ?k17 ?a18 ?l18 ?c18 ?k18 ?a19 ?l19 ?c19 ?k19 ?a20 ?l20 ?c20 ?k20 ?a21 ?l21 ?c21 ?k21 ?a22 ?l22 ?c22 ?k22 ?a23 ?l23 ?c23 ?k23 ?a24 ?l24 ?c24 ?k24 ?a25 ?l25 ?c25 ?k25 ?a26 ?l26 ?c26 ?k26   ?y_TREE_PARTS ?w_TREE_PARTS ?x_TREE_PARTS ?d_TREE_PARTS ?e_TREE_PARTS ?v_TREE_PARTS ?z_abs ?z_all ?z_bool ?z_dict ?z_int ?z_isinstance ?z_len ?z_list ?z_max ?z_min ?z_range ?z_reversed ?z_str ?z_tuple
    (case a0 => k_is); (case l0 => k_is); (case c0 => k_is); (case k0 => k_is)
    (case a1 => k_is); (case l1 => k_is); (case c1 => k_is); (case k1 => k_is)
    (case a2 => k_is); (case l2 => k_is); (case c2 => k_is); (case k2 => k_is)
    (case a3 => k_is); (case l3 => k_is); (case c3 => k_is); (case k3 => k_is)
    (case a4 => k_is); (case l4 => k_is); (case c4 => k_is); (case k4 => k_is)
    (case a5 => k_is); (case l5 => k_is); (case c5 => k_is); (case k5 => k_is)
    (case a6 => k_is); (case l6 => k_is); (case c6 => k_is); (case k6 => k_is)
    (case a7 => k_is); (case l7 => k_is); (case c7 => k_is); (case k7 => k_is)
    (case a8 => k_is); (case l8 => k_is); (case c8 => k_is); (case k8 => k_is)
    (case a9 => k_is); (case l9 => k_is); (case c9 => k_is); (case k9 => k_is)
    (case a10 => k_is); (case l10 => k_is); (case c10 => k_is); (case k10 => k_is)
    (case a11 => k_is); (case l11 => k_is); (case c11 => k_is); (case k11 => k_is)
    (case a12 => k_is); (case l12 => k_is); (case c12 => k_is); (case k12 => k_is)
    (case a13 => k_is); (case l13 => k_is); (case c13 => k_is); (case k13 => k_is)
    (case a14 => k_is); (case l14 => k_is); (case c14 => k_is); (case k14 => k_is)
    (case a15 => k_is); (case l15 => k_is); (case c15 => k_is); (case k15 => k_is)
    (case a16 => k_is); (case l16 => k_is); (case c16 => k_is); (case k16 => k_is)
    (case a17 => k_is); (case l17 => k_is); (case c17 => k_is); (case k17 => k_is)
    (case a18 => k_is); (case l18 => k_is); (case c18 => k_is); (case k18 => k_is)
    (case a19 => k_is); (case l19 => k_is); (case c19 => k_is); (case k19 => k_is)
    (case a20 => k_is); (case l20 => k_is); (case c20 => k_is); (case k20 => k_is)
    (case a21 => k_is); (case l21 => k_is); (case c21 => k_is); (case k21 => k_is)
    (case a22 => k_is); (case l22 => k_is); (case c22 => k_is); (case k22 => k_is)
    (case a23 => k_is); (case l23 => k_is); (case c23 => k_is); (case k23 => k_is)
    (case a24 => k_is); (case l24 => k_is); (case c24 => k_is); (case k24 => k_is)
    (case a25 => k_is); (case l25 => k_is); (case c25 => k_is); (case k25 => k_is)
    (case a26 => k_is); (case l26 => k_is); (case c26 => k_is); (case k26 => k_is)
    (case z_abs => k_is); (case z_all => k_is); (case z_bool => k_is); (case z_dict => k_is); (case z_int => k_is); (case z_isinstance => k_is); (case z_len => k_is); (case z_list => k_is); (case z_max => k_is); (case z_min => k_is); (case z_range => k_is); (case z_reversed => k_is); (case z_str => k_is); (case z_tuple => k_is)
    (case y_TREE_PARTS => k_is); (case w_TREE_PARTS => k_is); (case x_TREE_PARTS => exact ⟨rfl, rfl, rfl⟩); (case d_TREE_PARTS => rfl); (case e_TREE_PARTS => decide)
    (case v_TREE_PARTS => (refine EL.enk_tup rfl rfl rfl (by k_is) rfl rfl (by decide) (.cons ⟨_, rfl⟩ (.cons ⟨_, rfl⟩ .nil)) ?_); (refine EL.enk_tup rfl rfl rfl (by k_is) rfl rfl (by decide) (.cons ⟨_, rfl⟩ (.cons ⟨_, rfl⟩ .nil)) ?_); (refine EL.enk_tup rfl rfl rfl (by k_is) rfl rfl (by decide) (.cons ⟨_, rfl⟩ (.cons ⟨_, rfl⟩ .nil)) ?_); (refine EL.enk_tup rfl rfl rfl (by k_is) rfl rfl (by decide) (.cons ⟨_, rfl⟩ .nil) ?_); (refine EL.enk_tup rfl rfl rfl (by k_is) rfl rfl (by decide) (.cons ⟨_, rfl⟩ (.cons ⟨_, rfl⟩ .nil)) ?_); (refine EL.enk_tup rfl rfl rfl (by k_is) rfl rfl (by decide) (.cons ⟨_, rfl⟩ .nil) ?_); (refine EL.enk_tup rfl rfl rfl (by k_is) rfl rfl (by decide) (.cons ⟨_, rfl⟩ .nil) ?_); (refine EL.enk_tup rfl rfl rfl (by k_is) rfl rfl (by decide) (.cons ⟨_, rfl⟩ .nil) ?_); (refine EL.enk_tup rfl rfl rfl (by k_is) rfl rfl (by decide) (.cons ⟨_, rfl⟩ .nil) ?_); (refine EL.enk_tup rfl rfl rfl (by k_is) rfl rfl (by decide) (.cons ⟨_, rfl⟩ (.cons ⟨_, rfl⟩ .nil)) ?_); (refine EL.enk_tup rfl rfl rfl (by k_is) rfl rfl (by decide) (.cons ⟨_, rfl⟩ (.cons ⟨_, rfl⟩ .nil)) ?_); exact .nil)
