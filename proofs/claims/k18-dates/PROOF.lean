import PyProof.Rows.All
import Wide.All
import OpenK.AllK
import Wide.FinOn
import HandS.ForMost
import HandS.ForExc
import HandS.Wide
import HandS.IsInst
import HandS.ExcValue
import HandS.Style
import HandS.Deep
import HandS.TupAny
import HandS.Walk
import HandS.Iter
import HandS.Conv
import HandS.More
import HandS.ExcIs
import HandS.EndBits
import HandS.TryOnly
import HandS.WideBits
import PySem.Challenge.RW_keptwhatever_k18_dates_counted
set_option Elab.async false
set_option linter.all false
set_option maxRecDepth 100000
set_option maxHeartbeats 1000000
/-! DLa: data over the hand layer: a def's state as data, owned lists apart. -/
namespace DL
open PySem PySem.Spec PyProof.Rows L2

abbrev D := PyData
/-- an exception object, by its class -/
def exD (C : Addr) : D := .dict [(.int (C : Nat), .none)]

mutual
inductive Rep (K : PySem.W.Frag) (H : Hp) : V → D → Prop
  | non : Rep K H .non .none
  | bl (b : Bool) : Rep K H (.bl b) (.bool b)
  | int (i : Int) : Rep K H (.int i) (.int i)
  | str (x : Str) : Rep K H (.str x) (.str x)
  | lst {a : Addr} {xs : List V} {ds : List D} : H a = some (.lst xs) → Reps K H xs ds → ds.length ≤ sizeLine → Rep K H (.ref a) (.list ds)
  | tup {a : Addr} {xs : List V} {ds : List D} : SqT K H a xs → Reps K H xs ds → ds.length ≤ sizeLine → Rep K H (.ref a) (.tuple ds)
  | ex {a C : Addr} : H a = some (ExO (.ref C) a) → Rep K H (.ref a) (exD C)
inductive Reps (K : PySem.W.Frag) (H : Hp) : List V → List D → Prop
  | nil : Reps K H [] []
  | cons {v : V} {vs : List V} {d : D} {ds : List D} : Rep K H v d → Reps K H vs ds → Reps K H (v :: vs) (d :: ds)
end

section
variable {K : PySem.W.Frag} {H H' Hf Hf' : Hp}

theorem rd_same {a : Addr} {u : HO} (e : Same H H') (h : Rd H a u) : Rd H' a u := by
  rcases h with h | ⟨o, h⟩
  · exact .inl (e _ _ h)
  · exact .inr ⟨o, e _ _ h⟩
theorem sqT_same {a : Addr} {xs : List V} (e : Same H H') (h : SqT K H a xs) : SqT K H' a xs := by
  rcases h with (h | ⟨o, h⟩) | h
  · exact .inl (.inl (e _ _ h))
  · exact .inl (.inr ⟨o, e _ _ h⟩)
  · exact .inr h

mutual
theorem Rep.same (e : Same H H') : ∀ {v : V} {d : D}, Rep K H v d → Rep K H' v d
  | _, _, .non => .non
  | _, _, .bl b => .bl b
  | _, _, .int i => .int i
  | _, _, .str x => .str x
  | _, _, .lst h r z => .lst (e _ _ h) (Reps.same e r) z
  | _, _, .tup h r z => .tup (sqT_same e h) (Reps.same e r) z
  | _, _, .ex h => .ex (e _ _ h)
theorem Reps.same (e : Same H H') : ∀ {vs : List V} {ds : List D}, Reps K H vs ds → Reps K H' vs ds
  | _, _, .nil => .nil
  | _, _, .cons h r => .cons (Rep.same e h) (Reps.same e r)
end

theorem Reps.length : ∀ {vs : List V} {ds : List D}, Reps K H vs ds → vs.length = ds.length
  | _, _, .nil => rfl
  | _, _, .cons _ r => congrArg (· + 1) (Reps.length r)
theorem Reps.get : ∀ {vs : List V} {ds : List D} {i : Nat} {v : V}, Reps K H vs ds → vs[i]? = some v → ∃ d, ds[i]? = some d ∧ Rep K H v d
  | _, _, _, _, .nil, h => by simp at h
  | _, _, 0, _, .cons h r, e => by simp at e; subst e; exact ⟨_, rfl, h⟩
  | _, _, i + 1, _, .cons h r, e => by simpa using Reps.get (i := i) r (by simpa using e)
theorem Reps.get' : ∀ {vs : List V} {ds : List D} {i : Nat} {d : D}, Reps K H vs ds → ds[i]? = some d → ∃ v, vs[i]? = some v ∧ Rep K H v d
  | _, _, _, _, .nil, h => by simp at h
  | _, _, 0, _, .cons h r, e => by simp at e; subst e; exact ⟨_, rfl, h⟩
  | _, _, i + 1, _, .cons h r, e => by simpa using Reps.get' (i := i) r (by simpa using e)
theorem Reps.append : ∀ {vs us : List V} {ds es : List D}, Reps K H vs ds → Reps K H us es → Reps K H (vs ++ us) (ds ++ es)
  | _, _, _, _, .nil, s => s
  | _, _, _, _, .cons h r, s => .cons h (Reps.append r s)
theorem Reps.take : ∀ {vs : List V} {ds : List D} (n : Nat), Reps K H vs ds → Reps K H (vs.take n) (ds.take n)
  | _, _, 0, _ => .nil
  | _, _, _ + 1, .nil => .nil
  | _, _, n + 1, .cons h r => .cons h (Reps.take n r)
theorem Reps.drop : ∀ {vs : List V} {ds : List D} (n : Nat), Reps K H vs ds → Reps K H (vs.drop n) (ds.drop n)
  | _, _, 0, r => r
  | _, _, _ + 1, .nil => .nil
  | _, _, n + 1, .cons _ r => Reps.drop n r
theorem Reps.set {x : V} {y : D} (q : Rep K H x y) : ∀ {vs : List V} {ds : List D} (n : Nat), Reps K H vs ds → Reps K H (vs.set n x) (ds.set n y)
  | _, _, _, .nil => .nil
  | _, _, 0, .cons h r => .cons q r
  | _, _, n + 1, .cons h r => .cons h (Reps.set q n r)
theorem Reps.eraseIdx : ∀ {vs : List V} {ds : List D} (n : Nat), Reps K H vs ds → Reps K H (vs.eraseIdx n) (ds.eraseIdx n)
  | _, _, _, .nil => .nil
  | _, _, 0, .cons h r => r
  | _, _, n + 1, .cons h r => .cons h (Reps.eraseIdx n r)
theorem Reps.dropLast {vs : List V} {ds : List D} (r : Reps K H vs ds) : Reps K H vs.dropLast ds.dropLast := by
  rw [List.dropLast_eq_take, List.dropLast_eq_take, r.length]
  exact r.take _
theorem Reps.reverse : ∀ {vs : List V} {ds : List D}, Reps K H vs ds → Reps K H vs.reverse ds.reverse
  | _, _, .nil => .nil
  | _, _, .cons h r => by
    rw [List.reverse_cons, List.reverse_cons]
    exact (Reps.reverse r).append (.cons h .nil)
theorem Reps.ints : ∀ {vs : List V} {ns : List Int}, Reps K H vs (ns.map .int) → vs = ns.map V.int
  | _, [], h => by cases h; rfl
  | _, n :: ns, h => by
    cases h with
    | cons h r => cases h; rw [Reps.ints r]; rfl
theorem Reps.ofInts : ∀ (ns : List Int), Reps K H (ns.map V.int) (ns.map .int)
  | [] => .nil
  | n :: ns => .cons (.int n) (Reps.ofInts ns)
theorem Reps.bools : ∀ {vs : List V} {ns : List Bool}, Reps K H vs (ns.map .bool) → vs = ns.map V.bl
  | _, [], h => by cases h; rfl
  | _, n :: ns, h => by
    cases h with
    | cons h r => cases h; rw [Reps.bools r]; rfl

/-- what an owned object holds -/
inductive Cn where
  | l (ds : List D)
abbrev Cn.d : Cn → D
  | .l ds => .list ds
def OwnR (K : PySem.W.Frag) (Hf H : Hp) : Cn → Addr → List Addr → Prop
  | .l ds, a, fp => fp = [a] ∧ ds.length ≤ sizeLine ∧ ∃ vs, H a = some (.lst vs) ∧ Reps K Hf vs ds

theorem OwnR.mono {c : Cn} {a : Addr} {fp : List Addr} (hs : Same Hf Hf') (hk : ∀ b ∈ fp, H' b = H b) (h : OwnR K Hf H c a fp) : OwnR K Hf' H' c a fp := by
  cases c with
  | l ds =>
    obtain ⟨rfl, z, vs, h1, h2⟩ := h
    exact ⟨rfl, z, vs, by rw [hk a (by simp)]; exact h1, h2.same hs⟩
theorem OwnR.dom {c : Cn} {a : Addr} {fp : List Addr} (h : OwnR K Hf H c a fp) : ∀ b ∈ fp, H b ≠ none := by
  cases c with
  | l ds =>
    obtain ⟨rfl, z, vs, h1, h2⟩ := h
    intro b hb
    have : b = a := by simpa using hb
    subst this
    rw [h1]; exact fun z => nomatch z

/-- a slot as data -/
inductive Sl where
  | nil | fz (d : D) | ow (c : Cn) | pw (a : Addr) (c : Cn) | sc (ns : List Int) | xa (a : Addr)
def SlO (K : PySem.W.Frag) (Hf H : Hp) : Sl → Option V → List Addr → Prop
  | .nil, _, fp => fp = []
  | .fz d, v, fp => fp = [] ∧ ∃ x, v = some x ∧ Rep K Hf x d
  | .ow c, v, fp => ∃ a, v = some (.ref a) ∧ OwnR K Hf H c a fp
  | .pw a c, v, fp => v = some (.ref a) ∧ OwnR K Hf H c a fp
  | .sc ns, v, fp => fp = [] ∧ ∃ a, v = some (.ref a) ∧ SqL K Hf a (ns.map V.int)
  | .xa a, v, fp => fp = [] ∧ v = some (.ref a)
def SlsO (K : PySem.W.Frag) (Hf H : Hp) : List Sl → L2.St → List Addr → Prop
  | [], σ, fp => σ = [] ∧ fp = []
  | s :: ρ, σ, fp => ∃ v σ' f1 f2, σ = v :: σ' ∧ fp = f1 ++ f2 ∧ SlO K Hf H s v f1 ∧ SlsO K Hf H ρ σ' f2

theorem SlO.mono {s : Sl} {v : Option V} {fp : List Addr} (hs : Same Hf Hf') (hk : ∀ b ∈ fp, H' b = H b) (h : SlO K Hf H s v fp) : SlO K Hf' H' s v fp := by
  cases s with
  | nil => exact h
  | fz d => obtain ⟨e, x, e2, r⟩ := h; exact ⟨e, x, e2, r.same hs⟩
  | ow c => obtain ⟨a, e, r⟩ := h; exact ⟨a, e, r.mono hs hk⟩
  | pw a c => obtain ⟨e, r⟩ := h; exact ⟨e, r.mono hs hk⟩
  | sc ns => obtain ⟨e, a, e2, r⟩ := h; exact ⟨e, a, e2, hs.seq r⟩
  | xa a => exact h
theorem SlO.dom {s : Sl} {v : Option V} {fp : List Addr} (h : SlO K Hf H s v fp) : ∀ b ∈ fp, H b ≠ none := by
  cases s with
  | nil => have : fp = [] := h; subst this; intro b hb; simp at hb
  | fz d => obtain ⟨e, x, e2, r⟩ := h; subst e; intro b hb; simp at hb
  | ow c => obtain ⟨a, e, r⟩ := h; exact r.dom
  | pw a c => obtain ⟨e, r⟩ := h; exact r.dom
  | sc ns => obtain ⟨e, a, e2, r⟩ := h; subst e; intro b hb; simp at hb
  | xa a => obtain ⟨e, _⟩ := h; subst e; intro b hb; simp at hb
theorem SlsO.mono (hs : Same Hf Hf') : ∀ {ρ : List Sl} {σ : L2.St} {fp : List Addr}, (∀ b ∈ fp, H' b = H b) → SlsO K Hf H ρ σ fp → SlsO K Hf' H' ρ σ fp
  | [], _, _, _, h => h
  | s :: ρ, _, _, hk, ⟨v, σ', f1, f2, e1, e2, h1, h2⟩ => by
    subst e1 e2
    exact ⟨v, σ', f1, f2, rfl, rfl, h1.mono hs fun b hb => hk b (List.mem_append_left _ hb), SlsO.mono hs (fun b hb => hk b (List.mem_append_right _ hb)) h2⟩
theorem SlsO.dom : ∀ {ρ : List Sl} {σ : L2.St} {fp : List Addr}, SlsO K Hf H ρ σ fp → ∀ b ∈ fp, H b ≠ none
  | [], _, _, ⟨_, e⟩ => by subst e; intro b hb; simp at hb
  | s :: ρ, _, _, ⟨v, σ', f1, f2, e1, e2, h1, h2⟩ => by
    subst e1 e2
    intro b hb
    rcases List.mem_append.mp hb with hb | hb
    · exact h1.dom b hb
    · exact SlsO.dom h2 b hb
theorem SlsO.length : ∀ {ρ : List Sl} {σ : L2.St} {fp : List Addr}, SlsO K Hf H ρ σ fp → σ.length = ρ.length
  | [], _, _, ⟨e, _⟩ => by subst e; rfl
  | s :: ρ, _, _, ⟨v, σ', f1, f2, e1, e2, h1, h2⟩ => by
    subst e1
    show σ'.length + 1 = ρ.length + 1
    rw [SlsO.length h2]

/-- a slot is taken apart: what stands in it, and the rest with an empty slot -/
theorem SlsO.take : ∀ {ρ : List Sl} {σ : L2.St} {fp : List Addr} {i : Nat} {s : Sl}, SlsO K Hf H ρ σ fp → ρ[i]? = some s →
    ∃ v f1 f2, σ[i]? = some v ∧ SlO K Hf H s v f1 ∧ SlsO K Hf H (ρ.set i .nil) σ f2 ∧ fp.Perm (f1 ++ f2)
  | [], _, _, _, _, _, e => by simp at e
  | s0 :: ρ, _, _, 0, s, ⟨v, σ', f1, f2, e1, e2, h1, h2⟩, e => by
    subst e1 e2
    simp at e; subst e
    exact ⟨v, f1, f2, rfl, h1, ⟨v, σ', [], f2, rfl, rfl, rfl, h2⟩, List.Perm.refl _⟩
  | s0 :: ρ, _, _, i + 1, s, ⟨v, σ', f1, f2, e1, e2, h1, h2⟩, e => by
    subst e1 e2
    obtain ⟨v', g1, g2, q1, q2, q3, q4⟩ := SlsO.take (i := i) h2 (by simpa using e)
    refine ⟨v', g1, f1 ++ g2, by simpa using q1, q2, ⟨v, σ', f1, g2, rfl, rfl, h1, q3⟩, ?_⟩
    refine (List.Perm.append_left f1 q4).trans ?_
    rw [← List.append_assoc, ← List.append_assoc]
    exact List.Perm.append_right g2 List.perm_append_comm
/-- a value is put into an empty slot -/
theorem SlsO.put : ∀ {ρ : List Sl} {σ : L2.St} {f1 f2 : List Addr} {i : Nat} {s : Sl} {v : Option V}, SlsO K Hf H ρ σ f2 → ρ[i]? = some .nil → SlO K Hf H s v f1 →
    ∃ fp, SlsO K Hf H (ρ.set i s) (σ.set i v) fp ∧ fp.Perm (f1 ++ f2)
  | [], _, _, _, _, _, _, _, e, _ => by simp at e
  | s0 :: ρ, _, f, _, 0, s, w, ⟨v, σ', f1, f2, e1, e2, h1, h2⟩, e, q => by
    subst e1 e2
    simp at e; subst e
    obtain rfl : f1 = [] := h1
    exact ⟨f ++ f2, ⟨w, σ', f, f2, rfl, rfl, q, h2⟩, List.Perm.refl _⟩
  | s0 :: ρ, _, f, _, i + 1, s, w, ⟨v, σ', f1, f2, e1, e2, h1, h2⟩, e, q => by
    subst e1 e2
    obtain ⟨fp, q1, q2⟩ := SlsO.put (i := i) h2 (by simpa using e) q
    refine ⟨f1 ++ fp, ⟨v, _, f1, fp, rfl, rfl, h1, q1⟩, ?_⟩
    refine (List.Perm.append_left f1 q2).trans ?_
    rw [← List.append_assoc, ← List.append_assoc]
    exact List.Perm.append_right f2 List.perm_append_comm

structure Bs where
  fr : Hp
  hf : Hp
def Bs.up (B : Bs) (Hf : Hp) : Bs := ⟨B.fr, Hf⟩
/-- the state of a def's body as data -/
structure SO (K : PySem.W.Frag) (B : Bs) (Hf : Hp) (ρ : List Sl) (σ : L2.St) (H : Hp) : Prop where
  up : Same B.hf Hf
  sub : Same Hf H
  fr : ∀ a o, B.fr a = some o → H a = some o ∧ Hf a = none
  sl : ∃ fp, SlsO K Hf H ρ σ fp ∧ fp.Nodup ∧ ∀ a ∈ fp, Hf a = none ∧ B.fr a = none

variable {B : Bs} {ρ : List Sl} {σ : L2.St}
theorem same_upd {a : Addr} {o : HO} (h : H a = none) : Same H (upd H a o) := fun b u e => by
  rw [upd_ne (ne_of_none e h)]; exact e
theorem same_upd2 {a : Addr} {o : HO} (e : Same Hf H) : Same (upd Hf a o) (upd H a o) := fun b u q => by
  by_cases hb : b = a
  · subst hb; rw [upd_same] at q ⊢; exact q
  · rw [upd_ne hb] at q ⊢; exact e b u q
theorem SO.base (S : SO K (B.up Hf) Hf' ρ σ H) (S0 : Same B.hf Hf) : SO K B Hf' ρ σ H := ⟨S0.trans S.up, S.sub, S.fr, S.sl⟩
theorem SO.raise (S : SO K B Hf ρ σ H) : SO K (B.up Hf) Hf ρ σ H := ⟨Same.refl _, S.sub, S.fr, S.sl⟩
/-- a new frozen object -/
theorem SO.alloc (S : SO K B Hf ρ σ H) {p : Addr} (hp : H p = none) (o : HO) : SO K B (upd Hf p o) ρ σ (upd H p o) := by
  obtain ⟨fp, s1, s2, s3⟩ := S.sl
  have hn : Hf p = none := S.sub.free hp
  have npf : p ∉ fp := fun z => s1.dom p z hp
  have ne : ∀ a ∈ fp, a ≠ p := fun a ha e => npf (e ▸ ha)
  refine ⟨S.up.trans (same_upd hn), same_upd2 S.sub, fun a u e => ?_, fp, s1.mono (same_upd hn) fun b hb => upd_ne (ne b hb), s2, fun a ha => ?_⟩
  · have q := S.fr a u e
    have : a ≠ p := ne_of_none q.1 hp
    rw [upd_ne this, upd_ne this]; exact q
  · rw [upd_ne (ne a ha)]; exact s3 a ha
/-- a new object that nobody tracks as data -/
theorem SO.junk (S : SO K B Hf ρ σ H) {H' : Hp} (h : Same H H') : SO K B Hf ρ σ H' := by
  obtain ⟨fp, s1, s2, s3⟩ := S.sl
  refine ⟨S.up, S.sub.trans h, fun a u e => ⟨h _ _ (S.fr a u e).1, (S.fr a u e).2⟩, fp, s1.mono (Same.refl _) fun b hb => ?_, s2, s3⟩
  have := s1.dom b hb
  cases e : H b with
  | none => exact absurd e this
  | some o => exact h _ _ e
/-- a new owned list -/
theorem SO.allocL (S : SO K B Hf ρ σ H) {p : Addr} (hp : H p = none) {vs : List V} {ds : List D} (r : Reps K Hf vs ds) (hz : ds.length ≤ sizeLine) : SO K B Hf (.ow (.l ds) :: ρ) (some (.ref p) :: σ) (upd H p (.lst vs)) := by
  obtain ⟨fp, s1, s2, s3⟩ := S.sl
  have hn : Hf p = none := S.sub.free hp
  have npf : p ∉ fp := fun z => s1.dom p z hp
  have ne : ∀ a ∈ fp, a ≠ p := fun a ha e => npf (e ▸ ha)
  have nfr : B.fr p = none := by
    cases e : B.fr p with
    | none => rfl
    | some o => have := (S.fr p o e).1; rw [hp] at this; cases this
  refine ⟨S.up, S.sub.trans (same_upd hp), fun a u e => ?_, p :: fp, ?_, List.nodup_cons.mpr ⟨npf, s2⟩, fun a ha => ?_⟩
  · have q := S.fr a u e
    exact ⟨same_upd hp _ _ q.1, q.2⟩
  · exact ⟨_, _, [p], fp, rfl, rfl, ⟨p, rfl, rfl, hz, vs, upd_same, r⟩, s1.mono (Same.refl _) fun b hb => upd_ne (ne b hb)⟩
  · rcases List.mem_cons.mp ha with rfl | ha
    · exact ⟨hn, nfr⟩
    · exact s3 a ha
/-- what is owned on top is frozen -/
theorem SO.freeze {c : Cn} {v : Option V} (S : SO K B Hf (.ow c :: ρ) (v :: σ) H) : ∃ Hf' x, v = some x ∧ Same Hf Hf' ∧ SO K B Hf' ρ σ H ∧ Rep K Hf' x c.d := by
  obtain ⟨fp, ⟨v', σ', f1, f2, e1, e2, h1, h2⟩, s2, s3⟩ := S.sl
  cases e1
  subst e2
  obtain ⟨a, rfl, q⟩ := h1
  cases c with
  | l ds =>
    obtain ⟨rfl, hz, vs, q1, q2⟩ := q
    have ha := s3 a (by simp)
    have nd : a ∉ f2 := (List.nodup_cons.mp s2).1
    have ne : ∀ b ∈ f2, b ≠ a := fun b hb e => nd (e ▸ hb)
    have su : Same Hf (upd Hf a (.lst vs)) := same_upd ha.1
    refine ⟨upd Hf a (.lst vs), _, rfl, su, ⟨S.up.trans su, fun b u e => ?_, fun b u e => ?_, f2, h2.mono su fun _ _ => rfl, (List.nodup_cons.mp s2).2, fun b hb => ?_⟩, .lst upd_same (q2.same su) hz⟩
    · by_cases hb : b = a
      · subst hb; rw [upd_same] at e; rw [q1]; exact e
      · rw [upd_ne hb] at e; exact S.sub _ _ e
    · have q := S.fr b u e
      have : b ≠ a := fun z => by rw [z, ha.2] at e; cases e
      rw [upd_ne this]; exact q
    · rw [upd_ne (ne b hb)]; exact s3 b (by simp [hb])
theorem SO.drop {s : Sl} {v : Option V} (S : SO K B Hf (s :: ρ) (v :: σ) H) : SO K B Hf ρ σ H := by
  obtain ⟨fp, ⟨v', σ', f1, f2, e1, e2, h1, h2⟩, s2, s3⟩ := S.sl
  cases e1; subst e2
  exact ⟨S.up, S.sub, S.fr, f2, h2, (List.nodup_append.mp s2).2.1, fun a ha => s3 a (List.mem_append_right _ ha)⟩
/-- an owned (or any) slot's content is moved to the top, the slot left empty -/
theorem SO.takeSl (S : SO K B Hf ρ σ H) {i : Nat} {s : Sl} (e : ρ[i]? = some s) : ∃ v, σ[i]? = some v ∧ SO K B Hf (s :: ρ.set i .nil) (v :: σ) H := by
  obtain ⟨fp, s1, s2, s3⟩ := S.sl
  obtain ⟨v, f1, f2, q1, q2, q3, q4⟩ := s1.take e
  exact ⟨v, q1, S.up, S.sub, S.fr, f1 ++ f2, ⟨v, σ, f1, f2, rfl, rfl, q2, q3⟩, q4.nodup_iff.mp s2, fun a ha => s3 a (q4.mem_iff.mpr ha)⟩
/-- the top is put into an empty slot -/
theorem SO.putSl {s : Sl} {v : Option V} {i : Nat} (S : SO K B Hf (s :: ρ) (v :: σ) H) (e : ρ[i]? = some .nil) : SO K B Hf (ρ.set i s) (σ.set i v) H := by
  obtain ⟨fp, ⟨v', σ', f1, f2, e1, e2, h1, h2⟩, s2, s3⟩ := S.sl
  cases e1; subst e2
  obtain ⟨fp, q1, q2⟩ := h2.put e h1
  exact ⟨S.up, S.sub, S.fr, fp, q1, q2.nodup_iff.mpr s2, fun a ha => s3 a (q2.mem_iff.mp ha)⟩
theorem SO.nilSl (S : SO K B Hf ρ σ H) {i : Nat} {s : Sl} (e : ρ[i]? = some s) : SO K B Hf (ρ.set i .nil) σ H := by
  obtain ⟨v, _, q⟩ := S.takeSl e
  exact q.drop
theorem SO.len (S : SO K B Hf ρ σ H) : σ.length = ρ.length := let ⟨_, s, _⟩ := S.sl; s.length
theorem SO.lt (S : SO K B Hf ρ σ H) {i : Nat} {s : Sl} (e : ρ[i]? = some s) : i < ρ.length := (List.getElem?_eq_some_iff.mp e).1

theorem set_self_of {α : Type} : ∀ {l : List α} {i : Nat} {x : α}, l[i]? = some x → l.set i x = l
  | [], _, _, h => by simp at h
  | a :: l, 0, x, h => by simp at h; subst h; rfl
  | a :: l, i + 1, x, h => by
    show a :: l.set i x = a :: l
    rw [set_self_of (i := i) (by simpa using h)]
/-! ### values of expressions -/
inductive VR where
  | fz (d : D) | ow (c : Cn) | bw (i : Nat) | sc (ns : List Int)
/-- what is read: data, or the script -/
inductive SD where
  | d (x : D) | sc (ns : List Int)
abbrev slD : Sl → Option SD
  | .fz d => some (.d d)
  | .ow c => some (.d c.d)
  | .pw _ c => some (.d c.d)
  | .sc ns => some (.sc ns)
  | .nil => none
  | .xa _ => none
abbrev getS : List Sl → Nat → Sl
  | [], _ => .nil
  | s :: _, 0 => s
  | _ :: r, i + 1 => getS r i
abbrev setS : List Sl → Nat → Sl → List Sl
  | [], _, _ => []
  | _ :: r, 0, x => x :: r
  | s :: r, i + 1, x => s :: setS r i x
theorem getS_eq : ∀ {ρ : List Sl} {i : Nat} {s : Sl}, getS ρ i = s → s ≠ .nil → ρ[i]? = some s
  | [], _, _, h, n => absurd h.symm n
  | s :: _, 0, _, h, _ => congrArg some h
  | _ :: r, i + 1, s, h, n => by simpa using getS_eq (ρ := r) (i := i) h n
theorem setS_eq : ∀ (ρ : List Sl) (i : Nat) (s : Sl), setS ρ i s = ρ.set i s
  | [], _, _ => rfl
  | _ :: _, 0, _ => rfl
  | s :: r, i + 1, x => congrArg (s :: ·) (setS_eq r i x)
abbrev peek : VR → List Sl → Option SD
  | .fz d, _ => some (.d d)
  | .ow c, _ => some (.d c.d)
  | .sc ns, _ => some (.sc ns)
  | .bw i, ρ => slD (getS ρ i)
/-- a fresh list that is only read is frozen -/
abbrev stl : VR → VR
  | .ow c => .fz c.d
  | r => r
def EV (K : PySem.W.Frag) (B : Bs) (ρ : List Sl) (σ : L2.St) (H : Hp) : VR → V → Prop
  | .fz d, v => ∃ Hf, SO K B Hf ρ σ H ∧ Rep K Hf v d
  | .ow c, v => ∃ Hf, SO K B Hf (.ow c :: ρ) (some v :: σ) H
  | .bw i, v => (∃ Hf, SO K B Hf ρ σ H) ∧ σ[i]? = some (some v)
  | .sc ns, v => ∃ Hf a, SO K B Hf ρ σ H ∧ v = .ref a ∧ SqL K Hf a (ns.map V.int)
/-- a settled value, whatever the owned lists do -/
def HV (K : PySem.W.Frag) (Hf : Hp) (σ : L2.St) : VR → V → Prop
  | .fz d, v => Rep K Hf v d
  | .ow _, _ => False
  | .bw i, v => σ[i]? = some (some v)
  | .sc ns, v => ∃ a, v = .ref a ∧ SqL K Hf a (ns.map V.int)
theorem HV.mono {r : VR} {v : V} (e : Same Hf Hf') (h : HV K Hf σ r v) : HV K Hf' σ r v := by
  cases r with
  | fz d => exact Rep.same e h
  | ow c => exact h
  | bw i => exact h
  | sc ns => obtain ⟨a, e1, h⟩ := h; exact ⟨a, e1, e.seq h⟩
theorem EV.settle {r : VR} {v : V} (h : EV K B ρ σ H r v) : ∃ Hf, SO K B Hf ρ σ H ∧ HV K Hf σ (stl r) v := by
  cases r with
  | fz d => exact h
  | ow c =>
    obtain ⟨Hf, S⟩ := h
    obtain ⟨Hf', x, e, _, S', q⟩ := S.freeze
    cases e
    exact ⟨Hf', S', q⟩
  | bw i => obtain ⟨⟨Hf, S⟩, e⟩ := h; exact ⟨Hf, S, e⟩
  | sc ns => obtain ⟨Hf, a, S, e, q⟩ := h; exact ⟨Hf, S, a, e, q⟩
/-- what a reading rule is given: the items of a sequence are frozen -/
def RepS (K : PySem.W.Frag) (Hf H : Hp) (v : V) : SD → Prop
  | .d (.list ds) => ∃ a vs, v = .ref a ∧ H a = some (.lst vs) ∧ Reps K Hf vs ds ∧ ds.length ≤ sizeLine
  | .d d => Rep K Hf v d
  | .sc ns => ∃ a, v = .ref a ∧ SqL K H a (ns.map V.int)
theorem RepS.of (e : Same Hf H) {v : V} {d : D} (h : Rep K Hf v d) : RepS K Hf H v (.d d) := by
  cases h with
  | non => exact .non
  | bl b => exact .bl b
  | int i => exact .int i
  | str x => exact .str x
  | lst h r z => exact ⟨_, _, rfl, e _ _ h, r, z⟩
  | tup h r z => exact .tup h r z
  | ex h => exact .ex h
theorem RepS.rep (e : Same Hf H) {v : V} {d : D} (h : RepS K Hf H v (.d d)) : Rep K H v d := by
  cases d with
  | list ds => obtain ⟨a, vs, rfl, h, r, z⟩ := h; exact .lst h (r.same e) z
  | tuple ds => exact Rep.same e h
  | none => exact Rep.same e h
  | bool b => exact Rep.same e h
  | int i => exact Rep.same e h
  | str x => exact Rep.same e h
  | dict kvs => exact Rep.same e h
theorem RepS.own {c : Cn} {a : Addr} {fp : List Addr} (h : OwnR K Hf H c a fp) : RepS K Hf H (.ref a) (.d c.d) := by
  cases c with
  | l ds => obtain ⟨_, z, vs, h1, h2⟩ := h; exact ⟨a, vs, rfl, h1, h2, z⟩
theorem SO.get (S : SO K B Hf ρ σ H) {i : Nat} {s : Sl} (e : ρ[i]? = some s) : ∃ v fp, σ[i]? = some v ∧ SlO K Hf H s v fp := by
  obtain ⟨fp, s1, _, _⟩ := S.sl
  obtain ⟨v, f1, f2, q1, q2, _⟩ := s1.take e
  exact ⟨v, f1, q1, q2⟩
theorem HV.peek {r : VR} {v : V} {x : SD} (S : SO K B Hf ρ σ H) (h : HV K Hf σ r v) (e : DL.peek r ρ = some x) : RepS K Hf H v x := by
  cases r with
  | fz d => cases e; exact RepS.of S.sub h
  | ow c => exact h.elim
  | sc ns =>
    cases e
    obtain ⟨a, e1, h⟩ := h
    exact ⟨a, e1, S.sub.seq h⟩
  | bw i =>
    have e : slD (getS ρ i) = some x := e
    have h : σ[i]? = some (some v) := h
    generalize hs : getS ρ i = s at e
    cases s with
    | nil => cases e
    | xa a => cases e
    | fz d =>
      cases e
      obtain ⟨w, fp, e1, e2, y, e3, q⟩ := S.get (getS_eq hs (fun z => nomatch z))
      rw [h] at e1; cases e1; cases e3
      exact RepS.of S.sub q
    | ow c =>
      cases e
      obtain ⟨w, fp, e1, a, e3, q⟩ := S.get (getS_eq hs (fun z => nomatch z))
      rw [h] at e1; cases e1; cases e3
      exact RepS.own q
    | pw a c =>
      cases e
      obtain ⟨w, fp, e1, e3, q⟩ := S.get (getS_eq hs (fun z => nomatch z))
      rw [h] at e1; cases e1; cases e3
      exact RepS.own q
    | sc ns =>
      cases e
      obtain ⟨w, fp, e1, e2, a, e3, q⟩ := S.get (getS_eq hs (fun z => nomatch z))
      rw [h] at e1; cases e1; cases e3
      exact ⟨a, rfl, S.sub.seq q⟩
/-- a value is kept for good: frozen -/
abbrev frz (r : VR) (ρ : List Sl) (Q : D → List Sl → Prop) : Prop := match r with
  | .fz d => Q d ρ
  | .ow c => Q c.d ρ
  | .sc _ => False
  | .bw i => match getS ρ i with
    | .ow c => Q c.d (setS ρ i (.fz c.d))
    | .fz d => Q d ρ
    | _ => False
theorem EV.frz {r : VR} {v : V} {Q : D → List Sl → Prop} (h : EV K B ρ σ H r v) (q : frz r ρ Q) : ∃ Hf d ρ', SO K B Hf ρ' σ H ∧ Rep K Hf v d ∧ Q d ρ' := by
  cases r with
  | fz d => obtain ⟨Hf, S, p⟩ := h; exact ⟨Hf, d, ρ, S, p, q⟩
  | ow c =>
    obtain ⟨Hf, S⟩ := h
    obtain ⟨Hf', x, e, _, S', p⟩ := S.freeze
    cases e
    exact ⟨Hf', c.d, ρ, S', p, q⟩
  | sc ns => exact q.elim
  | bw i =>
    obtain ⟨⟨Hf, S⟩, e⟩ := h
    unfold DL.frz at q
    dsimp only at q
    generalize hs : getS ρ i = s at q
    cases s with
    | nil => exact q.elim
    | xa a => exact q.elim
    | pw a c => exact q.elim
    | sc ns => exact q.elim
    | fz d =>
      obtain ⟨w, fp, e1, e2, y, e3, p⟩ := S.get (getS_eq hs (fun z => nomatch z))
      rw [e] at e1; cases e1; cases e3
      exact ⟨Hf, d, ρ, S, p, q⟩
    | ow c =>
      have hi := getS_eq hs (fun z => nomatch z)
      obtain ⟨w, e1, S1⟩ := S.takeSl hi
      rw [e] at e1; cases e1
      obtain ⟨Hf', x, e2, _, S2, p⟩ := S1.freeze
      cases e2
      refine ⟨Hf', c.d, setS ρ i (.fz c.d), ?_, p, q⟩
      have lt := S.lt hi
      have S3 : SO K B Hf' (.fz c.d :: ρ.set i .nil) (some v :: σ) H := by
        obtain ⟨fp, s1, s2, s3⟩ := S2.sl
        exact ⟨S2.up, S2.sub, S2.fr, fp, ⟨some v, σ, [], fp, rfl, rfl, ⟨rfl, v, rfl, p⟩, s1⟩, s2, s3⟩
      have S4 := S3.putSl (i := i) (by rw [List.getElem?_set_self lt])
      have e3 : σ.set i (some v) = σ := set_self_of e
      rw [List.set_set, e3] at S4
      rw [setS_eq]
      exact S4
end
end DL
set_option Elab.async false
set_option linter.all false
set_option maxRecDepth 100000
set_option maxHeartbeats 1000000
/-! DLb: expressions over data. -/
namespace DL
open PySem PySem.Spec PyProof.Rows L2

abbrev XD := Addr → List Sl → Prop
abbrev DE := List Sl → (VR → List Sl → Prop) → XD → Prop
abbrev DT := List Sl → (Bool → List Sl → Prop) → XD → Prop
abbrev DA := List Sl → (List VR → List Sl → Prop) → XD → Prop
abbrev DF := List Sl → (List D → List Sl → Prop) → XD → Prop

/-- what is wished of an exception, by data -/
def XL (K : PySem.W.Frag) (B : Bs) (W : WX) (E : XD) : Prop := ∀ C ρ σ H Hf, E C ρ → SO K B Hf ρ σ H → W (.ref C) none σ H
theorem XL.up {K : PySem.W.Frag} {B : Bs} {W : WX} {E : XD} {Hf : Hp} (x : XL K B W E) (S : Same B.hf Hf) : XL K (B.up Hf) W E := fun C ρ σ H Hf' e S' => x C ρ σ H Hf' e (S'.base S)

def Sem1 (K : PySem.W.Frag) (W : WX) (te : TE) (t : DE) : Prop := ∀ B Hf ρ σ H (Q : VK) Qd Ed, SO K B Hf ρ σ H → t ρ Qd Ed → (∀ r ρ' H' v, Qd r ρ' → EV K B ρ' σ H' r v → Q v H') → XL K B W Ed → te σ H Q
structure PD (X : Cx) (W : WX) (e : Expr) (t : DE) : Prop where
  ex : ∃ te, PE X e te ∧ Sem1 X.K W te t
def SemT (K : PySem.W.Frag) (W : WX) (te : TT) (t : DT) : Prop := ∀ B Hf ρ σ H (Q : Bool → Hp → Prop) Qd Ed, SO K B Hf ρ σ H → t ρ Qd Ed → (∀ b ρ' H' Hf', Qd b ρ' → SO K B Hf' ρ' σ H' → Q b H') → XL K B W Ed → te σ H Q
structure PTD (X : Cx) (W : WX) (e : Expr) (t : DT) : Prop where
  ex : ∃ te, PT X e te ∧ SemT X.K W te t
structure PWD (X : Cx) (W : WX) (e : Expr) (t : DT) : Prop where
  ex : ∃ te, PW X e te ∧ SemT X.K W te t
def HVs (K : PySem.W.Frag) (Hf : Hp) (σ : L2.St) : List VR → List V → Prop := Paired (HV K Hf σ)
def SemA (K : PySem.W.Frag) (W : WX) (ta : TA) (n : Nat) (t : DA) : Prop := ∀ B Hf ρ σ H (Q : List V → Hp → Prop) Qd Ed, SO K B Hf ρ σ H → t ρ Qd Ed → (∀ rs ρ' H' Hf' vs, Qd rs ρ' → SO K B Hf' ρ' σ H' → HVs K Hf' σ rs vs → vs.length = n → Q vs H') → XL K B W Ed → ta σ H Q
structure PAD (X : Cx) (W : WX) (es : List Expr) (t : DA) : Prop where
  ex : ∃ ta, PA X es ta ∧ SemA X.K W ta es.length t
def SemF (K : PySem.W.Frag) (W : WX) (ta : TA) (n : Nat) (t : DF) : Prop := ∀ B Hf ρ σ H (Q : List V → Hp → Prop) Qd Ed, SO K B Hf ρ σ H → t ρ Qd Ed → (∀ ds ρ' H' Hf' vs, Qd ds ρ' → SO K B Hf' ρ' σ H' → Reps K Hf' vs ds → vs.length = n → Q vs H') → XL K B W Ed → ta σ H Q
structure PFD (X : Cx) (W : WX) (es : List Expr) (t : DF) : Prop where
  ex : ∃ ta, PA X es ta ∧ SemF X.K W ta es.length t

section
variable {X : Cx} {W : WX} {pos : Pos}

/-! ### names, constants -/
abbrev eVar (i : Nat) : DE := fun ρ Q _ => match getS ρ i with
  | .nil => False
  | .xa _ => False
  | .fz d => Q (.fz d) ρ
  | .ow _ => Q (.bw i) ρ
  | .pw _ _ => Q (.bw i) ρ
  | .sc ns => Q (.sc ns) ρ
theorem sem_var (i : Nat) : Sem1 X.K W (tVar i) (eVar i) := by
  intro B Hf ρ σ H Q Qd Ed S h hQ hE
  unfold eVar at h
  generalize hs : getS ρ i = s at h
  cases s with
  | nil => exact h.elim
  | xa a => exact h.elim
  | fz d =>
    obtain ⟨w, fp, e1, e2, y, e3, q⟩ := S.get (getS_eq hs (fun z => nomatch z))
    subst e3
    exact ⟨y, e1, hQ _ _ _ _ h ⟨Hf, S, q⟩⟩
  | ow c =>
    obtain ⟨w, fp, e1, a, e3, q⟩ := S.get (getS_eq hs (fun z => nomatch z))
    subst e3
    exact ⟨.ref a, e1, hQ _ _ _ _ h ⟨⟨Hf, S⟩, e1⟩⟩
  | pw a c =>
    obtain ⟨w, fp, e1, e3, q⟩ := S.get (getS_eq hs (fun z => nomatch z))
    subst e3
    exact ⟨.ref a, e1, hQ _ _ _ _ h ⟨⟨Hf, S⟩, e1⟩⟩
  | sc ns =>
    obtain ⟨w, fp, e1, e2, a, e3, q⟩ := S.get (getS_eq hs (fun z => nomatch z))
    subst e3
    exact ⟨.ref a, e1, hQ _ _ _ _ h ⟨Hf, a, S, rfl, q⟩⟩
theorem pd_var (i : Nat) {x : Str} (hN : X.N[i]? = some x := by rfl) (hv : Vis X.env.scope x := by first | exact Or.inl rfl | exact Or.inr (Or.inl rfl) | exact Or.inr (Or.inr rfl)) (hd : (x == ("__debug__" : Str)) = false := by decide)
    (hcd : (x == ("__classdict__" : Str)) = false := by decide) : PD X W (.Name x pos) (eVar i) := ⟨_, pv i hN hv hd hcd, sem_var i⟩
abbrev eC (d : D) : DE := fun ρ Q _ => Q (.fz d) ρ
theorem sem_c {v : V} {d : D} (h : ∀ H, Rep X.K H v d) : Sem1 X.K W (tC v) (eC d) := fun B Hf ρ σ H Q Qd Ed S q hQ _ => hQ _ _ _ _ q ⟨Hf, S, h Hf⟩
theorem pd_int {i j} : PD X W (.Constant (.int i) j pos) (eC (.int i)) := ⟨_, pe_int, sem_c fun _ => .int _⟩
theorem pd_bl {b j} : PD X W (.Constant (.bool b) j pos) (eC (.bool b)) := ⟨_, pe_bl, sem_c fun _ => .bl _⟩
theorem pd_non {j} : PD X W (.Constant .none j pos) (eC .none) := ⟨_, pe_non, sem_c fun _ => .non⟩
theorem pd_str {x j} : PD X W (.Constant (.str x) j pos) (eC (.str x)) := ⟨_, pe_str, sem_c fun _ => .str _⟩
/-- a module's constant -/
theorem pd_glob {x : Str} {v : V} {u : Value} {d : D} (hg : Gl X x) (hm : X.mg x = some u) (r : RelV v u) (h : ∀ H, Rep X.K H v d) (hd : (x == ("__debug__" : Str)) = false := by decide) : PD X W (.Name x pos) (eC d) := ⟨_, pe_glob hg hm r hd, sem_c h⟩

/-! ### two operands -/
abbrev DE2 := SD → SD → (VR → Prop) → Prop
abbrev pk2 (x y : VR) (ρ : List Sl) (k : SD → SD → Prop) : Prop := match peek x ρ, peek y ρ with
  | some a, some b => k a b
  | _, _ => False
abbrev eOp (rd : DE2) (ta tb : DE) : DE := fun ρ Q E => ta ρ (fun x ρ1 => tb ρ1 (fun y ρ2 => pk2 (stl x) (stl y) ρ2 fun a b => rd a b fun z => Q z ρ2) E) E
def Conn (K : PySem.W.Frag) (r : R2) (rd : DE2) : Prop := ∀ B Hf ρ σ H x y a b (Q : VK) Qd, SO K B Hf ρ σ H → RepS K Hf H x a → RepS K Hf H y b → rd a b Qd → (∀ z H' v, Qd z → EV K B ρ σ H' z v → Q v H') → r x y H Q
theorem pk2_of {x y : VR} {ρ : List Sl} {k : SD → SD → Prop} (h : pk2 x y ρ k) : ∃ a b, peek x ρ = some a ∧ peek y ρ = some b ∧ k a b := by
  unfold pk2 at h
  cases e1 : peek x ρ with
  | none => rw [e1] at h; exact h.elim
  | some a =>
    cases e2 : peek y ρ with
    | none => rw [e1, e2] at h; exact h.elim
    | some b => rw [e1, e2] at h; exact ⟨a, b, rfl, rfl, h⟩
theorem sem_op {r : R2} {rd : DE2} {te tf : TE} {ta tb : DE} (c : Conn X.K r rd) (ha : Sem1 X.K W te ta) (hb : Sem1 X.K W tf tb) : Sem1 X.K W (tOp r te tf) (eOp rd ta tb) := by
  intro B Hf ρ σ H Q Qd Ed S h hQ hE
  refine ha B Hf ρ σ H _ _ Ed S h (fun r1 ρ1 H1 v1 q1 e1 => ?_) hE
  obtain ⟨Hf1, S1, h1⟩ := e1.settle
  refine hb (B.up Hf1) Hf1 ρ1 σ H1 _ _ Ed S1.raise q1 (fun r2 ρ2 H2 v2 q2 e2 => ?_) (hE.up S1.up)
  obtain ⟨Hf2, S2, h2⟩ := e2.settle
  have S3 := S2.base S1.up
  obtain ⟨a, b, p1, p2, q⟩ := pk2_of q2
  exact c B Hf2 ρ2 σ H2 v1 v2 a b Q _ S3 ((h1.mono S2.up).peek S3 p1) (h2.peek S3 p2) q fun z H' v qz ez => hQ z ρ2 H' v qz ez
theorem pd_bin {op : Operator} {r : R2} {rd : DE2} {a b : Expr} {ta tb : DE} (ho : OpR X (binaryOp op) r) (c : Conn X.K r rd) (ha : PD X W a ta) (hb : PD X W b tb) : PD X W (.BinOp a op b pos) (eOp rd ta tb) := by
  obtain ⟨te, pa, sa⟩ := ha
  obtain ⟨tf, pb, sb⟩ := hb
  exact ⟨_, pe_op ho pa pb, sem_op c sa sb⟩
theorem pd_cmp {op : CmpOp} {r : R2} {rd : DE2} {a b : Expr} {ta tb : DE} (ho : OpR X (compareOp op) r) (c : Conn X.K r rd) (ha : PD X W a ta) (hb : PD X W b tb) (hm : behindInMarks op b = false) : PD X W (.Compare a [op] [b] pos) (eOp rd ta tb) := by
  obtain ⟨te, pa, sa⟩ := ha
  obtain ⟨tf, pb, sb⟩ := hb
  exact ⟨_, pe_cmpR ho pa pb hm, sem_op c sa sb⟩
theorem pd_ix {r : R2} {rd : DE2} {a b : Expr} {ta tb : DE} (ho : IxR X r) (c : Conn X.K r rd) (ha : PD X W a ta) (hb : PD X W b tb) (hs : PlainIx b) : PD X W (.Subscript a b pos) (eOp rd ta tb) := by
  obtain ⟨te, pa, sa⟩ := ha
  obtain ⟨tf, pb, sb⟩ := hb
  exact ⟨_, pe_ix ho pa pb hs, sem_op c sa sb⟩
theorem OpR.or {f : Value → Value → Sem Value} {r r' : R2} (h : OpR X f r) (h' : OpR X f r') : OpR X f (fun x y H Q => r x y H Q ∨ r' x y H Q) := by
  intro pins s σ H x y v u Q I rx ry q
  rcases q with q | q
  · exact h pins s σ H x y v u Q I rx ry q
  · exact h' pins s σ H x y v u Q I rx ry q
theorem Conn.inl {K : PySem.W.Frag} {r r' : R2} {rd : DE2} (h : Conn K r rd) : Conn K (fun x y H Q => r x y H Q ∨ r' x y H Q) rd := fun B Hf ρ σ H x y a b Q Qd S ra rb q k => .inl (h B Hf ρ σ H x y a b Q Qd S ra rb q k)

/-! ### one operand -/
abbrev DE1 := SD → (VR → Prop) → Prop
abbrev eUn (rd : DE1) (ta : DE) : DE := fun ρ Q E => ta ρ (fun x ρ1 => match peek (stl x) ρ1 with | some a => rd a fun z => Q z ρ1 | none => False) E
def Conn1 (K : PySem.W.Frag) (r : V → Hp → VK → Prop) (rd : DE1) : Prop := ∀ B Hf ρ σ H x a (Q : VK) Qd, SO K B Hf ρ σ H → RepS K Hf H x a → rd a Qd → (∀ z H' v, Qd z → EV K B ρ σ H' z v → Q v H') → r x H Q
theorem sem_un {r : V → Hp → VK → Prop} {rd : DE1} {te : TE} {ta : DE} (c : Conn1 X.K r rd) (ha : Sem1 X.K W te ta) : Sem1 X.K W (tUn r te) (eUn rd ta) := by
  intro B Hf ρ σ H Q Qd Ed S h hQ hE
  refine ha B Hf ρ σ H _ _ Ed S h (fun r1 ρ1 H1 v1 q1 e1 => ?_) hE
  obtain ⟨Hf1, S1, h1⟩ := e1.settle
  cases p : peek (stl r1) ρ1 with
  | none => rw [p] at q1; exact q1.elim
  | some a =>
    rw [p] at q1
    exact c B Hf1 ρ1 σ H1 v1 a Q _ S1 (h1.peek S1 p) q1 fun z H' v qz ez => hQ z ρ1 H' v qz ez
theorem pd_un {op : UnaryOp} {r : V → Hp → VK → Prop} {rd : DE1} {a : Expr} {ta : DE} (ho : UnR X (unaryOp op) r) (c : Conn1 X.K r rd) (ha : PD X W a ta) : PD X W (.UnaryOp op a pos) (eUn rd ta) := by
  obtain ⟨te, pa, sa⟩ := ha
  exact ⟨_, pe_un ho pa, sem_un c sa⟩

/-! ### tests -/
abbrev dB (t : DE) : DT := fun ρ Q E => t ρ (fun r ρ1 => match peek (stl r) ρ1 with | some (.d (.bool b)) => Q b ρ1 | _ => False) E
theorem sem_b {te : TE} {t : DE} (ha : Sem1 X.K W te t) : SemT X.K W (tB te) (dB t) := by
  intro B Hf ρ σ H Q Qd Ed S h hQ hE
  refine ha B Hf ρ σ H _ _ Ed S h (fun r1 ρ1 H1 v1 q1 e1 => ?_) hE
  obtain ⟨Hf1, S1, h1⟩ := e1.settle
  cases p : peek (stl r1) ρ1 with
  | none => rw [p] at q1; exact q1.elim
  | some a =>
    rw [p] at q1
    have R := h1.peek S1 p
    cases a with
    | sc ns => exact q1.elim
    | d d =>
      cases d with
      | bool b =>
        have R : Rep X.K Hf1 v1 (.bool b) := R
        cases R
        exact ⟨b, rfl, hQ b ρ1 H1 Hf1 q1 S1⟩
      | _ => exact q1.elim
theorem ptd_val {e : Expr} {t : DE} (ha : PD X W e t) (he : ∀ whole, isTrue e X.env whole = (do let v ← whole; standAt e.pos; holding [v] (truthy v)) := by intro _; rfl) : PTD X W e (dB t) := by
  obtain ⟨te, pa, sa⟩ := ha
  exact ⟨_, pt_val pa he, sem_b sa⟩
theorem ptd_cmp {op : CmpOp} {r : R2} {rd : DE2} {a b : Expr} {ta tb : DE} (ho : OpR X (compareOp op) r) (c : Conn X.K r rd) (ha : PD X W a ta) (hb : PD X W b tb) (hm : behindInMarks op b = false) : PTD X W (.Compare a [op] [b] pos) (dB (eOp rd ta tb)) := by
  obtain ⟨te, pa, sa⟩ := ha
  obtain ⟨tf, pb, sb⟩ := hb
  exact ⟨_, pt_cmpR ho pa pb hm, sem_b (sem_op c sa sb)⟩
abbrev dAnd (t u : DT) : DT := fun ρ Q E => t ρ (fun b ρ1 => if b = true then u ρ1 Q E else Q false ρ1) E
abbrev dOr (t u : DT) : DT := fun ρ Q E => t ρ (fun b ρ1 => if b = true then Q true ρ1 else u ρ1 Q E) E
abbrev dNot (t : DT) : DT := fun ρ Q E => t ρ (fun b ρ1 => Q (!b) ρ1) E
theorem sem_and {te tf : TT} {t u : DT} (ha : SemT X.K W te t) (hb : SemT X.K W tf u) : SemT X.K W (tAnd te tf) (dAnd t u) := by
  intro B Hf ρ σ H Q Qd Ed S h hQ hE
  refine ha B Hf ρ σ H _ _ Ed S h (fun b ρ1 H1 Hf1 q1 S1 => ?_) hE
  cases b with
  | true => exact hb B Hf1 ρ1 σ H1 Q Qd Ed S1 q1 hQ hE
  | false => exact hQ _ _ _ _ q1 S1
theorem sem_or {te tf : TT} {t u : DT} (ha : SemT X.K W te t) (hb : SemT X.K W tf u) : SemT X.K W (tOr te tf) (dOr t u) := by
  intro B Hf ρ σ H Q Qd Ed S h hQ hE
  refine ha B Hf ρ σ H _ _ Ed S h (fun b ρ1 H1 Hf1 q1 S1 => ?_) hE
  cases b with
  | false => exact hb B Hf1 ρ1 σ H1 Q Qd Ed S1 q1 hQ hE
  | true => exact hQ _ _ _ _ q1 S1
theorem sem_not {te : TT} {t : DT} (ha : SemT X.K W te t) : SemT X.K W (tNot te) (dNot t) := by
  intro B Hf ρ σ H Q Qd Ed S h hQ hE
  exact ha B Hf ρ σ H _ _ Ed S h (fun b ρ1 H1 Hf1 q1 S1 => hQ _ _ _ _ q1 S1) hE
theorem pwd_and1 {a : Expr} {t : DT} (ha : PTD X W a t) : PWD X W (.BoolOp .And [a] pos) t := let ⟨_, p, s⟩ := ha; ⟨_, pw_and1 p, s⟩
theorem pwd_or1 {a : Expr} {t : DT} (ha : PTD X W a t) : PWD X W (.BoolOp .Or [a] pos) t := let ⟨_, p, s⟩ := ha; ⟨_, pw_or1 p, s⟩
theorem pwd_and {a b : Expr} {rest : List Expr} {t u : DT} (ha : PTD X W a t) (hb : PWD X W (.BoolOp .And (b :: rest) pos) u) : PWD X W (.BoolOp .And (a :: b :: rest) pos) (dAnd t u) := let ⟨_, p, s⟩ := ha; let ⟨_, p', s'⟩ := hb; ⟨_, pw_and p p', sem_and s s'⟩
theorem pwd_or {a b : Expr} {rest : List Expr} {t u : DT} (ha : PTD X W a t) (hb : PWD X W (.BoolOp .Or (b :: rest) pos) u) : PWD X W (.BoolOp .Or (a :: b :: rest) pos) (dOr t u) := let ⟨_, p, s⟩ := ha; let ⟨_, p', s'⟩ := hb; ⟨_, pw_or p p', sem_or s s'⟩
theorem PWD.pt {e : Expr} {t : DT} (h : PWD X W e t) : PTD X W e t := let ⟨_, p, s⟩ := h; ⟨_, p.pt, s⟩
theorem ptd_not {a : Expr} {t : DT} (ha : PTD X W a t) : PTD X W (.UnaryOp .Not a pos) (dNot t) := let ⟨_, p, s⟩ := ha; ⟨_, pt_not p, sem_not s⟩
/-- and, or, not as values of bools -/
abbrev eAnd (ta tb : DE) : DE := fun ρ Q E => ta ρ (fun r ρ1 => match peek (stl r) ρ1 with | some (.d (.bool b)) => (if b = true then tb ρ1 Q E else Q (.fz (.bool false)) ρ1) | _ => False) E
abbrev eOr (ta tb : DE) : DE := fun ρ Q E => ta ρ (fun r ρ1 => match peek (stl r) ρ1 with | some (.d (.bool b)) => (if b = true then Q (.fz (.bool true)) ρ1 else tb ρ1 Q E) | _ => False) E
abbrev eNot (ta : DE) : DE := fun ρ Q E => ta ρ (fun r ρ1 => match peek (stl r) ρ1 with | some (.d (.bool b)) => Q (.fz (.bool (!b))) ρ1 | _ => False) E
theorem bool_of {K : PySem.W.Frag} {B : Bs} {Hf H : Hp} {ρ : List Sl} {σ : L2.St} {r : VR} {v : V} {P : Bool → Prop} (S : SO K B Hf ρ σ H) (h : HV K Hf σ (stl r) v) (q : match peek (stl r) ρ with | some (.d (.bool b)) => P b | _ => False) : ∃ b, v = .bl b ∧ P b := by
  cases p : peek (stl r) ρ with
  | none => rw [p] at q; exact q.elim
  | some a =>
    rw [p] at q
    have R := h.peek S p
    cases a with
    | sc ns => exact q.elim
    | d d =>
      cases d with
      | bool b =>
        have R : Rep K Hf v (.bool b) := R
        cases R
        exact ⟨b, rfl, q⟩
      | _ => exact q.elim
theorem pd_one {op} {a : Expr} {t : DE} (h : PD X W a t) : PD X W (.BoolOp op [a] pos) t := let ⟨_, p, s⟩ := h; ⟨_, pe_one p, s⟩
theorem pd_and {a b : Expr} {rest : List Expr} {ta tb : DE} (ha : PD X W a ta) (hb : PD X W (.BoolOp .And (b :: rest) pos) tb) : PD X W (.BoolOp .And (a :: b :: rest) pos) (eAnd ta tb) := by
  obtain ⟨te, pa, sa⟩ := ha
  obtain ⟨tf, pb, sb⟩ := hb
  refine ⟨_, pe_and pa pb, ?_⟩
  intro B Hf ρ σ H Q Qd Ed S h hQ hE
  refine sa B Hf ρ σ H _ _ Ed S h (fun r1 ρ1 H1 v1 q1 e1 => ?_) hE
  obtain ⟨Hf1, S1, h1⟩ := e1.settle
  obtain ⟨b, rfl, q⟩ := bool_of S1 h1 q1
  refine ⟨b, rfl, ?_⟩
  cases b with
  | true => exact sb B Hf1 ρ1 σ H1 Q Qd Ed S1 q hQ hE
  | false => exact hQ _ _ _ _ q ⟨Hf1, S1, .bl _⟩
theorem pd_or {a b : Expr} {rest : List Expr} {ta tb : DE} (ha : PD X W a ta) (hb : PD X W (.BoolOp .Or (b :: rest) pos) tb) : PD X W (.BoolOp .Or (a :: b :: rest) pos) (eOr ta tb) := by
  obtain ⟨te, pa, sa⟩ := ha
  obtain ⟨tf, pb, sb⟩ := hb
  refine ⟨_, pe_or pa pb, ?_⟩
  intro B Hf ρ σ H Q Qd Ed S h hQ hE
  refine sa B Hf ρ σ H _ _ Ed S h (fun r1 ρ1 H1 v1 q1 e1 => ?_) hE
  obtain ⟨Hf1, S1, h1⟩ := e1.settle
  obtain ⟨b, rfl, q⟩ := bool_of S1 h1 q1
  refine ⟨b, rfl, ?_⟩
  cases b with
  | false => exact sb B Hf1 ρ1 σ H1 Q Qd Ed S1 q hQ hE
  | true => exact hQ _ _ _ _ q ⟨Hf1, S1, .bl _⟩
theorem pd_not {a : Expr} {ta : DE} (ha : PD X W a ta) : PD X W (.UnaryOp .Not a pos) (eNot ta) := by
  obtain ⟨te, pa, sa⟩ := ha
  refine ⟨_, pe_not pa, ?_⟩
  intro B Hf ρ σ H Q Qd Ed S h hQ hE
  refine sa B Hf ρ σ H _ _ Ed S h (fun r1 ρ1 H1 v1 q1 e1 => ?_) hE
  obtain ⟨Hf1, S1, h1⟩ := e1.settle
  obtain ⟨b, rfl, q⟩ := bool_of S1 h1 q1
  exact ⟨b, rfl, hQ _ _ _ _ q ⟨Hf1, S1, .bl _⟩⟩
abbrev eIf (t : DT) (ta tb : DE) : DE := fun ρ Q E => t ρ (fun b ρ1 => if b = true then ta ρ1 Q E else tb ρ1 Q E) E
theorem pd_ifExp {c a b : Expr} {t : DT} {ta tb : DE} (hc : PTD X W c t) (ha : PD X W a ta) (hb : PD X W b tb) : PD X W (.IfExp c a b pos) (eIf t ta tb) := by
  obtain ⟨te, pa, sa⟩ := ha
  obtain ⟨tf, pb, sb⟩ := hb
  obtain ⟨tc, pc, sc⟩ := hc
  refine ⟨_, pe_ifExp pc pa pb, ?_⟩
  intro B Hf ρ σ H Q Qd Ed S h hQ hE
  refine sc B Hf ρ σ H _ _ Ed S h (fun b ρ1 H1 Hf1 q1 S1 => ?_) hE
  cases b with
  | true => exact sa B Hf1 ρ1 σ H1 Q Qd Ed S1 q1 hQ hE
  | false => exact sb B Hf1 ρ1 σ H1 Q Qd Ed S1 q1 hQ hE

/-! ### arguments that are read -/
abbrev aNil : DA := fun ρ Q _ => Q [] ρ
abbrev aCons (te : DE) (ta : DA) : DA := fun ρ Q E => te ρ (fun r ρ1 => ta ρ1 (fun rs ρ2 => Q (stl r :: rs) ρ2) E) E
theorem pad_nil : PAD X W [] aNil := ⟨_, pa_nil, fun B Hf ρ σ H Q Qd Ed S h hQ hE => hQ _ _ _ _ _ h S .nil rfl⟩
theorem pad_cons {e : Expr} {es : List Expr} {te : DE} {ta : DA} (he : PD X W e te) (ha : PAD X W es ta) (hs : starEach (e :: es) X.env = (false, eval e X.env) :: starEach es X.env := by rfl) : PAD X W (e :: es) (aCons te ta) := by
  obtain ⟨t1, p1, s1⟩ := he
  obtain ⟨t2, p2, s2⟩ := ha
  refine ⟨_, pa_cons p1 p2 hs, ?_⟩
  intro B Hf ρ σ H Q Qd Ed S h hQ hE
  refine s1 B Hf ρ σ H _ _ Ed S h (fun r1 ρ1 H1 v1 q1 e1 => ?_) hE
  obtain ⟨Hf1, S1, h1⟩ := e1.settle
  refine s2 (B.up Hf1) Hf1 ρ1 σ H1 _ _ Ed S1.raise q1 (fun rs ρ2 H2 Hf2 vs q2 S2 h2 l2 => ?_) (hE.up S1.up)
  exact hQ _ _ _ _ _ q2 (S2.base S1.up) (.cons (h1.mono S2.up) h2) (congrArg (· + 1) l2)
abbrev peeks : List VR → List Sl → Option (List SD)
  | [], _ => some []
  | r :: rs, ρ => match peek r ρ, peeks rs ρ with
    | some a, some as => some (a :: as)
    | _, _ => none
abbrev DEn := List SD → (VR → Prop) → Prop
abbrev eCB (rd : DEn) (ta : DA) : DE := fun ρ Q E => ta ρ (fun rs ρ1 => match peeks rs ρ1 with | some as => rd as fun z => Q z ρ1 | none => False) E
def ConnN (K : PySem.W.Frag) (r : List V → Hp → VK → Prop) (rd : DEn) : Prop := ∀ B Hf ρ σ H xs as (Q : VK) Qd, SO K B Hf ρ σ H → Paired (RepS K Hf H) xs as → rd as Qd → (∀ z H' v, Qd z → EV K B ρ σ H' z v → Q v H') → r xs H Q
theorem HVs.peeks {K : PySem.W.Frag} {B : Bs} {Hf H : Hp} {ρ : List Sl} {σ : L2.St} (S : SO K B Hf ρ σ H) : ∀ {rs : List VR} {vs : List V} {as : List SD}, HVs K Hf σ rs vs → DL.peeks rs ρ = some as → Paired (RepS K Hf H) vs as
  | [], _, _, .nil, e => by cases e; exact .nil
  | r :: rs, _, _, .cons h hs, e => by
    unfold DL.peeks at e
    cases e1 : peek r ρ with
    | none => rw [e1] at e; cases e
    | some a =>
      cases e2 : DL.peeks rs ρ with
      | none => rw [e1, e2] at e; cases e
      | some as =>
        rw [e1, e2] at e; cases e
        exact .cons (h.peek S e1) (HVs.peeks S hs e2)
theorem sem_cb {r : List V → Hp → VK → Prop} {rd : DEn} {te : TA} {ta : DA} {n : Nat} (c : ConnN X.K r rd) (ha : SemA X.K W te n ta) : Sem1 X.K W (tCB r te) (eCB rd ta) := by
  intro B Hf ρ σ H Q Qd Ed S h hQ hE
  refine ha B Hf ρ σ H _ _ Ed S h (fun rs ρ1 H1 Hf1 vs q1 S1 h1 _ => ?_) hE
  cases p : peeks rs ρ1 with
  | none => rw [p] at q1; exact q1.elim
  | some as =>
    rw [p] at q1
    exact c B Hf1 ρ1 σ H1 vs as Q _ S1 (h1.peeks S1 p) q1 fun z H' v qz ez => hQ z ρ1 H' v qz ez
theorem pd_callB {x : Str} {p : Pos} {e : Expr} {es : List Expr} {id : String} {r : List V → Hp → VK → Prop} {rd : DEn} {ta : DA} (hc : CallR X (.builtin id) r) (c : ConnN X.K r rd) (hg : Gl X x) (hm : X.mg x = none) (hv : bootBuiltins x = some (.builtin id)) (ha : PAD X W (e :: es) ta)
    (hn : x ≠ "__name__" := by decide) (hdb : (x == ("__debug__" : Str)) = false := by decide)
    (he : starEach (e :: es) X.env = (false, eval e X.env) :: starEach es X.env := by rfl) (hpl : (backTo pos (starEach es X.env)).any (·.1) = false := by rfl) : PD X W (.Call (.Name x p) (e :: es) [] pos) (eCB rd ta) := by
  obtain ⟨te, pa, sa⟩ := ha
  exact ⟨_, pe_callB hc hg hm hv pa hn hdb he hpl, sem_cb c sa⟩
theorem pd_callTy {x : Str} {p : Pos} {e : Expr} {es : List Expr} {T : String} {r : List V → Hp → VK → Prop} {rd : DEn} {ta : DA} (hc : CallR X (.type T) r) (c : ConnN X.K r rd) (hg : Gl X x) (hm : X.mg x = none) (hv : bootBuiltins x = some (.type T)) (ha : PAD X W (e :: es) ta)
    (hn : x ≠ "__name__" := by decide) (hdb : (x == ("__debug__" : Str)) = false := by decide)
    (he : starEach (e :: es) X.env = (false, eval e X.env) :: starEach es X.env := by rfl) (hpl : (backTo pos (starEach es X.env)).any (·.1) = false := by rfl) : PD X W (.Call (.Name x p) (e :: es) [] pos) (eCB rd ta) := by
  obtain ⟨te, pa, sa⟩ := ha
  exact ⟨_, pe_callTy hc hg hm hv pa hn hdb he hpl, sem_cb c sa⟩

/-! ### items that are kept: displays -/
abbrev fNil : DF := fun ρ Q _ => Q [] ρ
abbrev fCons (te : DE) (ta : DF) : DF := fun ρ Q E => te ρ (fun r ρ1 => frz r ρ1 fun d ρ2 => ta ρ2 (fun ds ρ3 => Q (d :: ds) ρ3) E) E
theorem pfd_nil : PFD X W [] fNil := ⟨_, pa_nil, fun B Hf ρ σ H Q Qd Ed S h hQ hE => hQ _ _ _ _ _ h S .nil rfl⟩
theorem pfd_cons {e : Expr} {es : List Expr} {te : DE} {ta : DF} (he : PD X W e te) (ha : PFD X W es ta) (hs : starEach (e :: es) X.env = (false, eval e X.env) :: starEach es X.env := by rfl) : PFD X W (e :: es) (fCons te ta) := by
  obtain ⟨t1, p1, s1⟩ := he
  obtain ⟨t2, p2, s2⟩ := ha
  refine ⟨_, pa_cons p1 p2 hs, ?_⟩
  intro B Hf ρ σ H Q Qd Ed S h hQ hE
  refine s1 B Hf ρ σ H _ _ Ed S h (fun r1 ρ1 H1 v1 q1 e1 => ?_) hE
  obtain ⟨Hf1, d, ρ2, S1, h1, q⟩ := e1.frz q1
  refine s2 (B.up Hf1) Hf1 ρ2 σ H1 _ _ Ed S1.raise q (fun ds ρ3 H2 Hf2 vs q2 S2 h2 hl => ?_) (hE.up S1.up)
  exact hQ _ _ _ _ _ q2 (S2.base S1.up) (.cons (h1.same S2.up) h2) (congrArg (· + 1) hl)
abbrev eTup (ta : DF) : DE := fun ρ Q E => ta ρ (fun ds ρ1 => Q (.fz (.tuple ds)) ρ1) E
abbrev eLst (ta : DF) : DE := fun ρ Q E => ta ρ (fun ds ρ1 => Q (.ow (.l ds)) ρ1) E
theorem pd_tup {es : List Expr} {x1} {ta : DF} (ha : PFD X W es ta) (hz : es.length ≤ 1000000 := by decide) : PD X W (.Tuple es x1 pos) (eTup ta) := by
  obtain ⟨t1, p1, s1⟩ := ha
  refine ⟨_, pe_tup p1, ?_⟩
  intro B Hf ρ σ H Q Qd Ed S h hQ hE
  refine s1 B Hf ρ σ H _ _ Ed S h (fun ds ρ1 H1 Hf1 vs q1 S1 h1 hl => ?_) hE
  have z : vs.length ≤ sizeLine := by rw [sizeLine_eq]; omega
  refine ⟨z, fun p hp => hQ _ _ _ _ q1 ⟨upd Hf1 p (.tup vs), S1.alloc hp _, .tup (SqT.of upd_same) (h1.same (same_upd (S1.sub.free hp))) (by rw [← h1.length]; exact z)⟩⟩
theorem pd_lst {es : List Expr} {ta : DF} (ha : PFD X W es ta) (hz : es.length ≤ 1000000 := by decide) : PD X W (.List es pos) (eLst ta) := by
  obtain ⟨t1, p1, s1⟩ := ha
  refine ⟨_, pe_lst p1, ?_⟩
  intro B Hf ρ σ H Q Qd Ed S h hQ hE
  refine s1 B Hf ρ σ H _ _ Ed S h (fun ds ρ1 H1 Hf1 vs q1 S1 h1 hl => ?_) hE
  have z : vs.length ≤ sizeLine := by rw [sizeLine_eq]; omega
  exact ⟨z, fun p hp => hQ _ _ _ _ q1 ⟨Hf1, S1.allocL hp h1 (by rw [← h1.length]; exact z)⟩⟩
end
end DL
set_option Elab.async false
set_option linter.all false
set_option maxRecDepth 100000
set_option maxHeartbeats 1000000
/-! DLc: the operators and built-ins over data. -/
namespace DL
open PySem PySem.Spec PyProof.Rows L2
section
variable {X : Cx} {K : PySem.W.Frag}

theorem RepS.int {Hf H : Hp} {v : V} {i : Int} (h : RepS K Hf H v (.d (.int i))) : v = .int i := by
  have h : Rep K Hf v (.int i) := h
  cases h; rfl
theorem RepS.bool {Hf H : Hp} {v : V} {i : Bool} (h : RepS K Hf H v (.d (.bool i))) : v = .bl i := by
  have h : Rep K Hf v (.bool i) := h
  cases h; rfl
theorem RepS.str {Hf H : Hp} {v : V} {i : Str} (h : RepS K Hf H v (.d (.str i))) : v = .str i := by
  have h : Rep K Hf v (.str i) := h
  cases h; rfl
theorem RepS.non {Hf H : Hp} {v : V} (h : RepS K Hf H v (.d .none)) : v = .non := by
  have h : Rep K Hf v .none := h
  cases h; rfl
theorem RepS.tup {Hf H : Hp} {v : V} {ds : List D} (h : RepS K Hf H v (.d (.tuple ds))) : ∃ a vs, v = .ref a ∧ SqT K Hf a vs ∧ Reps K Hf vs ds ∧ ds.length ≤ sizeLine := by
  have q : Rep K Hf v (.tuple ds) := h
  clear h
  cases q with
  | tup h r z => exact ⟨_, _, rfl, h, r, z⟩
theorem ev_fz {B : Bs} {Hf H : Hp} {ρ : List Sl} {σ : L2.St} {v : V} {d : D} (S : SO K B Hf ρ σ H) (h : Rep K Hf v d) : EV K B ρ σ H (.fz d) v := ⟨Hf, S, h⟩

/-! ### whole numbers -/
/-- two ints in, under C, an int or a truth out -/
abbrev dI (C : Int → Int → Prop) (g : Int → Int → D) : DE2
  | .d (.int i), .d (.int j), Q => C i j ∧ Q (.fz (g i j))
  | _, _, _ => False
abbrev dI0 (g : Int → Int → D) : DE2
  | .d (.int i), .d (.int j), Q => Q (.fz (g i j))
  | _, _, _ => False
theorem ints_of {C : Int → Int → Prop} {g : Int → Int → D} {a b : SD} {Q : VR → Prop} (h : dI C g a b Q) : ∃ i j, a = .d (.int i) ∧ b = .d (.int j) ∧ C i j ∧ Q (.fz (g i j)) := by
  cases a with
  | sc _ => exact h.elim
  | d a =>
    cases a with
    | int i =>
      cases b with
      | sc _ => exact h.elim
      | d b =>
        cases b with
        | int j => exact ⟨i, j, rfl, rfl, h.1, h.2⟩
        | _ => exact h.elim
    | _ => exact h.elim
theorem ints_of0 {g : Int → Int → D} {a b : SD} {Q : VR → Prop} (h : dI0 g a b Q) : ∃ i j, a = .d (.int i) ∧ b = .d (.int j) ∧ Q (.fz (g i j)) := by
  cases a with
  | sc _ => exact h.elim
  | d a =>
    cases a with
    | int i =>
      cases b with
      | sc _ => exact h.elim
      | d b =>
        cases b with
        | int j => exact ⟨i, j, rfl, rfl, h⟩
        | _ => exact h.elim
    | _ => exact h.elim
theorem conn_I {C : Int → Int → Prop} {g : Int → Int → V} {g' : Int → Int → D} (hg : ∀ i j H, Rep K H (g i j) (g' i j)) : Conn K (rI C g) (dI C g') := by
  intro B Hf ρ σ H x y a b Q Qd S ra rb q k
  obtain ⟨i, j, rfl, rfl, hc, q⟩ := ints_of q
  exact ⟨i, j, ra.int, rb.int, hc, k _ _ _ q ⟨Hf, S, hg i j Hf⟩⟩
theorem conn_I0 {g : Int → Int → V} {g' : Int → Int → D} (hg : ∀ i j H, Rep K H (g i j) (g' i j)) : Conn K (rI0 g) (dI0 g') := by
  intro B Hf ρ σ H x y a b Q Qd S ra rb q k
  obtain ⟨i, j, rfl, rfl, q⟩ := ints_of0 q
  exact ⟨i, j, ra.int, rb.int, k _ _ _ q ⟨Hf, S, hg i j Hf⟩⟩
abbrev dSub : DE2 := dI0 fun i j => .int (i - j)
abbrev dMul : DE2 := dI CMulW fun i j => .int (i * j)
abbrev dDiv : DE2 := dI CDivW fun i j => .int (i / j)
abbrev dMod : DE2 := dI (fun _ j => 0 < j) fun i j => .int (i % j)
/-- i ** j: j not below 0, the power small -/
def CPowW (i j : Int) : Prop := 0 ≤ j ∧ (Builtin.Int.intBits i : Int) * j ≤ 2 ^ 27
abbrev dPow : DE2 := dI CPowW fun i j => .int (i ^ j.toNat)
abbrev dLt : DE2 := dI0 fun i j => .bool (decide (i < j))
abbrev dLe : DE2 := dI0 fun i j => .bool (decide (i ≤ j))
abbrev dGt : DE2 := dI0 fun i j => .bool (decide (j < i))
abbrev dGe : DE2 := dI0 fun i j => .bool (decide (j ≤ i))
theorem op_powW : OpR X (binaryOp .Pow) (rI CPowW fun i j => .int (i ^ j.toNat)) := opI fun _ _ _ _ _ _ _ hc q => pow_int hc.1 hc.2 q
theorem c_sub : Conn K (rI0 fun i j => .int (i - j)) dSub := conn_I0 fun _ _ _ => .int _
theorem c_mul : Conn K (rI CMulW fun i j => .int (i * j)) dMul := conn_I fun _ _ _ => .int _
theorem c_div : Conn K (rI CDivW fun i j => .int (i / j)) dDiv := conn_I fun _ _ _ => .int _
theorem c_mod : Conn K (rI (fun _ j => 0 < j) fun i j => .int (i % j)) dMod := conn_I fun _ _ _ => .int _
theorem c_pow : Conn K (rI CPowW fun i j => .int (i ^ j.toNat)) dPow := conn_I fun _ _ _ => .int _
theorem c_lt : Conn K (rI0 fun i j => .bl (decide (i < j))) dLt := conn_I0 fun _ _ _ => .bl _
theorem c_le : Conn K (rI0 fun i j => .bl (decide (i ≤ j))) dLe := conn_I0 fun _ _ _ => .bl _
theorem c_gt : Conn K (rI0 fun i j => .bl (decide (j < i))) dGt := conn_I0 fun _ _ _ => .bl _
theorem c_ge : Conn K (rI0 fun i j => .bl (decide (j ≤ i))) dGe := conn_I0 fun _ _ _ => .bl _

abbrev dNeg : DE1
  | .d (.int i), Q => Q (.fz (.int (-i)))
  | _, _ => False
theorem c_neg : Conn1 K (rU fun i => .int (-i)) dNeg := by
  intro B Hf ρ σ H x a Q Qd S ra q k
  cases a with
  | sc _ => exact q.elim
  | d a =>
    cases a with
    | int i => exact ⟨i, ra.int, k _ _ _ q ⟨Hf, S, .int _⟩⟩
    | _ => exact q.elim

/-! ### plus: ints, tuples, lists, texts -/
def rAddA (K : PySem.W.Frag) : R2 := fun x y H Q => rI0 (fun i j => .int (i + j)) x y H Q ∨ rCatA K x y H Q ∨ rCat x y H Q ∨ (∃ i j, x = .str i ∧ y = .str j ∧ i.length + j.length ≤ sizeLine ∧ Q (.str (i ++ j)) H)
abbrev dAdd : DE2
  | .d (.int i), .d (.int j), Q => Q (.fz (.int (i + j)))
  | .d (.tuple xs), .d (.tuple ys), Q => xs.length + ys.length ≤ sizeLine ∧ Q (.fz (.tuple (xs ++ ys)))
  | .d (.list xs), .d (.list ys), Q => xs.length + ys.length ≤ sizeLine ∧ Q (.ow (.l (xs ++ ys)))
  | .d (.str x), .d (.str y), Q => x.length + y.length ≤ sizeLine ∧ Q (.fz (.str (x ++ y)))
  | _, _, _ => False
theorem c_add : Conn K (rAddA K) dAdd := by
  intro B Hf ρ σ H x y a b Q Qd S ra rb q k
  cases a with
  | sc _ => exact q.elim
  | d a =>
    cases b with
    | sc _ => cases a <;> exact q.elim
    | d b =>
      cases a with
      | int i =>
        cases b with
        | int j => exact .inl ⟨i, j, ra.int, rb.int, k _ _ _ q ⟨Hf, S, .int _⟩⟩
        | _ => exact q.elim
      | str i =>
        cases b with
        | str j => exact .inr (.inr (.inr ⟨i, j, ra.str, rb.str, q.1, k _ _ _ q.2 ⟨Hf, S, .str _⟩⟩))
        | _ => exact q.elim
      | tuple xs =>
        cases b with
        | tuple ys =>
          obtain ⟨hz, q⟩ := q
          obtain ⟨p1, vs, rfl, h1, r1, z1⟩ := ra.tup
          obtain ⟨p2, us, rfl, h2, r2, z2⟩ := rb.tup
          have l1 := r1.length
          have l2 := r2.length
          refine .inr (.inl ⟨p1, p2, vs, us, rfl, rfl, sqT_same S.sub h1, sqT_same S.sub h2, by omega, fun e => ?_, fun e e2 => ?_, fun e e2 p hp => ?_⟩)
          · subst e
            cases r1
            exact k _ _ _ q ⟨Hf, S, .tup h2 r2 z2⟩
          · subst e2
            cases r2
            rw [List.append_nil] at q
            exact k _ _ _ q ⟨Hf, S, .tup h1 r1 z1⟩
          · exact k _ _ _ q ⟨_, S.alloc hp _, .tup (SqT.of upd_same) ((r1.append r2).same (same_upd (S.sub.free hp))) (by rw [List.length_append]; exact hz)⟩
        | _ => exact q.elim
      | list xs =>
        cases b with
        | list ys =>
          obtain ⟨hz, q⟩ := q
          obtain ⟨p1, vs, rfl, h1, r1, z1⟩ := ra
          obtain ⟨p2, us, rfl, h2, r2, z2⟩ := rb
          have l1 := r1.length
          have l2 := r2.length
          exact .inr (.inr (.inl ⟨p1, p2, vs, us, rfl, rfl, h1, h2, by omega, fun p hp => k _ _ _ q ⟨Hf, S.allocL hp (r1.append r2) (by rw [List.length_append]; exact hz)⟩⟩))
        | _ => exact q.elim
      | _ => exact q.elim
theorem op_addA : OpR X (binaryOp .Add) (rAddA X.K) := OpR.or op_add (OpR.or op_catA (OpR.or op_cat (by
  intro pins s σ H x y v u Q I rx ry h
  exact op_add_str pins s σ H x y v u Q I rx ry h)))

/-! ### is -/
abbrev isNoneD : D → Bool
  | .none => true
  | _ => false
abbrev dIsN (n : Bool) : DE2
  | .d d, .d .none, Q => Q (.fz (.bool (n.xor (isNoneD d))))
  | _, _, _ => False
theorem is_non {Hf H : Hp} {v : V} {d : D} (h : RepS K Hf H v (.d d)) : decide (v = .non) = isNoneD d := by
  cases d with
  | none => rw [h.non]; rfl
  | list ds => obtain ⟨a, vs, rfl, _⟩ := h; rfl
  | tuple ds => obtain ⟨a, vs, rfl, _⟩ := h.tup; rfl
  | bool b => rw [h.bool]; rfl
  | int i => rw [h.int]; rfl
  | str x => rw [h.str]; rfl
  | dict kvs =>
    have q : Rep K Hf v (.dict kvs) := h
    clear h
    cases q; rfl
theorem c_isN : Conn K (fun x y H Q => y = .non ∧ Q (.bl (decide (x = .non))) H) (dIsN false) := by
  intro B Hf ρ σ H x y a b Q Qd S ra rb q k
  cases a with
  | sc _ => exact q.elim
  | d a =>
    cases b with
    | sc _ => exact q.elim
    | d b =>
      cases b with
      | none =>
        refine ⟨rb.non, ?_⟩
        rw [is_non ra]
        refine k _ _ _ q ⟨Hf, S, ?_⟩
        rw [Bool.false_xor]
        exact .bl _
      | _ => exact q.elim
theorem c_notN : Conn K (fun x y H Q => y = .non ∧ Q (.bl (!decide (x = .non))) H) (dIsN true) := by
  intro B Hf ρ σ H x y a b Q Qd S ra rb q k
  cases a with
  | sc _ => exact q.elim
  | d a =>
    cases b with
    | sc _ => exact q.elim
    | d b =>
      cases b with
      | none =>
        refine ⟨rb.non, ?_⟩
        rw [is_non ra]
        refine k _ _ _ q ⟨Hf, S, ?_⟩
        rw [Bool.true_xor]
        exact .bl _
      | _ => exact q.elim
abbrev dIsB (n : Bool) : DE2
  | .d (.bool a), .d (.bool b), Q => Q (.fz (.bool (n.xor (a == b))))
  | _, _, _ => False
theorem c_isB : Conn K rIsB (dIsB false) := by
  intro B Hf ρ σ H x y a b Q Qd S ra rb q k
  cases a with
  | sc _ => exact q.elim
  | d a =>
    cases b with
    | sc _ => cases a <;> exact q.elim
    | d b =>
      cases a with
      | bool a =>
        cases b with
        | bool b =>
          refine ⟨a, b, ra.bool, rb.bool, k _ _ _ q ⟨Hf, S, ?_⟩⟩
          rw [Bool.false_xor, Bool.beq_eq_decide_eq]
          exact .bl _
        | _ => exact q.elim
      | _ => exact q.elim
theorem c_notB : Conn K rNotB (dIsB true) := by
  intro B Hf ρ σ H x y a b Q Qd S ra rb q k
  cases a with
  | sc _ => exact q.elim
  | d a =>
    cases b with
    | sc _ => cases a <;> exact q.elim
    | d b =>
      cases a with
      | bool a =>
        cases b with
        | bool b =>
          refine ⟨a, b, ra.bool, rb.bool, k _ _ _ q ⟨Hf, S, ?_⟩⟩
          rw [Bool.true_xor, Bool.beq_eq_decide_eq]
          exact .bl _
        | _ => exact q.elim
      | _ => exact q.elim

/-! ### == of data -/
mutual
theorem Rep.dp {H : Hp} : ∀ (d : D) (v : V), Rep K H v d → d.canLay0 = true → Dp K H v d
  | .none, _, h, _ => by cases h; exact .non
  | .bool b, _, h, _ => by cases h; exact .bl b
  | .int i, _, h, _ => by cases h; exact .int i
  | .str x, _, h, _ => by cases h; exact .str x
  | .list ds, _, h, c => by
    cases h with
    | lst h r z => exact .lst (SqL.of h) (Reps.dp ds _ r (by simpa [PyData.canLay0] using c))
  | .tuple ds, _, h, c => by
    cases h with
    | tup h r z => exact .tup h (Reps.dp ds _ r (by simpa [PyData.canLay0] using c))
  | .dict _, _, _, c => by simp [PyData.canLay0] at c
theorem Reps.dp {H : Hp} : ∀ (ds : List D) (vs : List V), Reps K H vs ds → PyData.canLayAll0 ds = true → DpAll K H vs ds
  | [], _, h, _ => by cases h; exact .nil
  | d :: ds, _, h, c => by
    cases h with
    | cons h r =>
      have c' : d.canLay0 = true ∧ PyData.canLayAll0 ds = true := by simpa [PyData.canLayAll0] using c
      exact .cons (Rep.dp d _ h c'.1) (Reps.dp ds _ r c'.2)
end
/-- ==: two ints at once; data of any depth -/
abbrev dEq (n : Bool) : DE2
  | .d a, .d b, Q => SeqAt.shaped a = true ∧ SeqAt.shaped b = true ∧ Q (.fz (.bool (n.xor (PyData.eqv a b))))
  | _, _, _ => False
theorem c_eq : Conn K (rEqD K) (dEq false) := by
  intro B Hf ρ σ H x y a b Q Qd S ra rb q k
  cases a with
  | sc _ => exact q.elim
  | d a =>
    cases b with
    | sc _ => exact q.elim
    | d b =>
      obtain ⟨s1, s2, q⟩ := q
      refine ⟨a, b, (ra.rep S.sub).dp _ _ (SeqAt.canLay_of_shaped s1), (rb.rep S.sub).dp _ _ (SeqAt.canLay_of_shaped s2), s1, s2, k _ _ _ q ⟨Hf, S, ?_⟩⟩
      rw [Bool.false_xor]
      exact .bl _
theorem c_ne : Conn K (rNeD K) (dEq true) := by
  intro B Hf ρ σ H x y a b Q Qd S ra rb q k
  cases a with
  | sc _ => exact q.elim
  | d a =>
    cases b with
    | sc _ => exact q.elim
    | d b =>
      obtain ⟨s1, s2, q⟩ := q
      refine ⟨a, b, (ra.rep S.sub).dp _ _ (SeqAt.canLay_of_shaped s1), (rb.rep S.sub).dp _ _ (SeqAt.canLay_of_shaped s2), s1, s2, k _ _ _ q ⟨Hf, S, ?_⟩⟩
      rw [Bool.true_xor]
      exact .bl _

/-! ### an item, a length -/
abbrev dIx : DE2
  | .d (.list ds), .d (.int i), Q => ∃ d, atI ds i = some d ∧ Q (.fz d)
  | .d (.tuple ds), .d (.int i), Q => ∃ d, atI ds i = some d ∧ Q (.fz d)
  | .sc ns, .d (.int i), Q => ∃ n, atI ns i = some n ∧ Q (.fz (.int n))
  | .d (.str x), .d (.int i), Q => x.length ≤ sizeLine ∧ ∃ c, atI x.cps.toList i = some c ∧ Q (.fz (.str ⟨#[c]⟩))
  | _, _, _ => False
theorem Reps.atI {H : Hp} {vs : List V} {ds : List D} {i : Int} {d : D} (r : Reps K H vs ds) (h : L2.atI ds i = some d) : ∃ v, L2.atI vs i = some v ∧ Rep K H v d := by
  unfold L2.atI at h ⊢
  rw [← r.length] at h
  cases e : ixN vs.length i with
  | none => rw [e] at h; cases h
  | some j =>
    rw [e] at h
    exact r.get' (i := j) h
theorem atI_map {α β : Type} (f : α → β) {l : List α} {i : Int} {x : α} (h : L2.atI l i = some x) : L2.atI (l.map f) i = some (f x) := by
  unfold L2.atI at h ⊢
  rw [List.length_map]
  cases e : ixN l.length i with
  | none => rw [e] at h; cases h
  | some j =>
    rw [e] at h
    show (l.map f)[j]? = some (f x)
    rw [List.getElem?_map, show l[j]? = some x from h]; rfl
theorem c_ix : Conn K (rIx K) dIx := by
  intro B Hf ρ σ H x y a b Q Qd S ra rb q k
  cases a with
  | sc ns =>
    cases b with
    | sc _ => exact q.elim
    | d b =>
      cases b with
      | int i =>
        obtain ⟨n, e, q⟩ := q
        obtain ⟨p, rfl, h⟩ := ra
        exact .inl ⟨p, _, i, .int n, rfl, rb.int, h, atI_map _ e, k _ _ _ q ⟨Hf, S, .int _⟩⟩
      | _ => exact q.elim
  | d a =>
    cases b with
    | sc _ => cases a <;> exact q.elim
    | d b =>
      cases a with
      | list ds =>
        cases b with
        | int i =>
          obtain ⟨d, e, q⟩ := q
          obtain ⟨p, vs, rfl, h, r, z⟩ := ra
          obtain ⟨v, e2, rv⟩ := r.atI e
          exact .inl ⟨p, vs, i, v, rfl, rb.int, SqL.of h, e2, k _ _ _ q ⟨Hf, S, rv⟩⟩
        | _ => exact q.elim
      | tuple ds =>
        cases b with
        | int i =>
          obtain ⟨d, e, q⟩ := q
          obtain ⟨p, vs, rfl, h, r, z⟩ := ra.tup
          obtain ⟨v, e2, rv⟩ := r.atI e
          exact .inr (.inl ⟨p, vs, i, v, rfl, rb.int, sqT_same S.sub h, e2, k _ _ _ q ⟨Hf, S, rv⟩⟩)
        | _ => exact q.elim
      | str x =>
        cases b with
        | int i =>
          obtain ⟨z, c, e, q⟩ := q
          exact .inr (.inr ⟨x, i, c, ra.str, rb.int, z, e, k _ _ _ q ⟨Hf, S, .str _⟩⟩)
        | _ => exact q.elim
      | _ => exact q.elim
abbrev dLen : DEn
  | [.d (.list ds)], Q => Q (.fz (.int ds.length))
  | [.d (.tuple ds)], Q => Q (.fz (.int ds.length))
  | [.sc ns], Q => Q (.fz (.int ns.length))
  | [.d (.str x)], Q => x.length ≤ sizeLine ∧ Q (.fz (.int x.length))
  | _, _ => False
theorem one_of {P : SD → (VR → Prop) → Prop} {Hf H : Hp} {xs : List V} {a : SD} (r : Paired (RepS K Hf H) xs [a]) : ∃ x, xs = [x] ∧ RepS K Hf H x a := by
  cases r with
  | cons h r => cases r; exact ⟨_, rfl, h⟩
theorem two_of {Hf H : Hp} {xs : List V} {a b : SD} (r : Paired (RepS K Hf H) xs [a, b]) : ∃ x y, xs = [x, y] ∧ RepS K Hf H x a ∧ RepS K Hf H y b := by
  cases r with
  | cons h r =>
    cases r with
    | cons h2 r => cases r; exact ⟨_, _, rfl, h, h2⟩
theorem c_len : ConnN K (fun xs H Q => ∃ x n, xs = [x] ∧ LenV K x H n ∧ Q (.int n) H) dLen := by
  intro B Hf ρ σ H xs as Q Qd S r q k
  cases as with
  | nil => exact q.elim
  | cons a as =>
    cases as with
    | cons _ _ => cases a with | sc _ => exact q.elim | d a => cases a <;> exact q.elim
    | nil =>
      obtain ⟨x, rfl, ra⟩ := one_of (P := fun _ _ => True) r
      cases a with
      | sc ns =>
        obtain ⟨p, rfl, h⟩ := ra
        exact ⟨_, ns.length, rfl, .inl ⟨_, h, by rw [List.length_map]⟩, k _ _ _ q ⟨Hf, S, .int _⟩⟩
      | d a =>
        cases a with
        | list ds =>
          obtain ⟨p, vs, rfl, h, r, z⟩ := ra
          exact ⟨_, ds.length, rfl, .inl ⟨_, SqL.of h, r.length.symm⟩, k _ _ _ q ⟨Hf, S, .int _⟩⟩
        | tuple ds =>
          obtain ⟨p, vs, rfl, h, r, z⟩ := ra.tup
          exact ⟨_, ds.length, rfl, .inr ⟨_, sqT_same S.sub h, r.length.symm⟩, k _ _ _ q ⟨Hf, S, .int _⟩⟩
        | str x =>
          have e := ra.str
          subst e
          exact ⟨_, x.length, rfl, ⟨q.1, rfl⟩, k _ _ _ q.2 ⟨Hf, S, .int _⟩⟩
        | _ => exact q.elim

/-! ### int, abs, max, min, all, any, sum -/
abbrev dInt : DEn
  | [.d (.int i)], Q => Q (.fz (.int i))
  | [.d (.bool b)], Q => Q (.fz (.int (if b then 1 else 0)))
  | _, _ => False
abbrev dAbs : DEn
  | [.d (.int i)], Q => Q (.fz (.int (if i < 0 then -i else i)))
  | _, _ => False
def intsOf : List D → Option (List Int)
  | [] => some []
  | .int i :: r => (intsOf r).map (i :: ·)
  | _ => none
theorem intsOf_eq : ∀ {ds : List D} {ns : List Int}, intsOf ds = some ns → ds = ns.map .int
  | [], ns, h => by cases h; rfl
  | .int i :: r, ns, h => by
    unfold intsOf at h
    cases e : intsOf r with
    | none => rw [e] at h; cases h
    | some l => rw [e] at h; cases h; rw [intsOf_eq e]; rfl
  | .none :: _, _, h => by cases h
  | .bool _ :: _, _, h => by cases h
  | .str _ :: _, _, h => by cases h
  | .list _ :: _, _, h => by cases h
  | .tuple _ :: _, _, h => by cases h
  | .dict _ :: _, _, h => by cases h
/-- two ints, or one list of ints -/
abbrev dMax : DEn
  | [.d (.int i), .d (.int j)], Q => Q (.fz (.int (max i j)))
  | [.d (.list ds)], Q => ∃ ns : List Int, ds = ns.map .int ∧ ns ≠ [] ∧ ∀ m, m ∈ ns → (∀ y, y ∈ ns → y ≤ m) → Q (.fz (.int m))
  | _, _ => False
abbrev dMin : DEn
  | [.d (.int i), .d (.int j)], Q => Q (.fz (.int (min i j)))
  | [.d (.list ds)], Q => ∃ ns : List Int, ds = ns.map .int ∧ ns ≠ [] ∧ ∀ m, m ∈ ns → (∀ y, y ∈ ns → m ≤ y) → Q (.fz (.int m))
  | _, _ => False
abbrev dSum : DEn
  | [.d (.list ds)], Q => ∃ ns : List Int, ds = ns.map .int ∧ Q (.fz (.int ns.sum))
  | _, _ => False
abbrev dAll : DEn
  | [.d (.list ds)], Q => ∃ bs : List Bool, ds = bs.map .bool ∧ Q (.fz (.bool (bs.all id)))
  | _, _ => False
abbrev dAny : DEn
  | [.d (.list ds)], Q => ∃ bs : List Bool, ds = bs.map .bool ∧ Q (.fz (.bool (bs.any id)))
  | _, _ => False
theorem c_int : ConnN K (fun xs H Q => (∃ i, xs = [.int i] ∧ Q (.int i) H) ∨ ∃ k, xs = [.bl k] ∧ Q (.int (if k then 1 else 0)) H) dInt := by
  intro B Hf ρ σ H xs as Q Qd S r q k
  cases as with
  | nil => exact q.elim
  | cons a as =>
    cases as with
    | cons _ _ => cases a with | sc _ => exact q.elim | d a => cases a <;> exact q.elim
    | nil =>
      obtain ⟨x, rfl, ra⟩ := one_of (P := fun _ _ => True) r
      cases a with
      | sc ns => exact q.elim
      | d a =>
        cases a with
        | int i => exact .inl ⟨i, by rw [ra.int], k _ _ _ q ⟨Hf, S, .int _⟩⟩
        | bool i => exact .inr ⟨i, by rw [ra.bool], k _ _ _ q ⟨Hf, S, .int _⟩⟩
        | _ => exact q.elim
theorem c_abs : ConnN K (fun xs H Q => ∃ i, xs = [.int i] ∧ Q (.int (if i < 0 then -i else i)) H) dAbs := by
  intro B Hf ρ σ H xs as Q Qd S r q k
  cases as with
  | nil => exact q.elim
  | cons a as =>
    cases as with
    | cons _ _ => cases a with | sc _ => exact q.elim | d a => cases a <;> exact q.elim
    | nil =>
      obtain ⟨x, rfl, ra⟩ := one_of (P := fun _ _ => True) r
      cases a with
      | sc ns => exact q.elim
      | d a =>
        cases a with
        | int i => exact ⟨i, by rw [ra.int], k _ _ _ q ⟨Hf, S, .int _⟩⟩
        | _ => exact q.elim
theorem RepS.intsL {Hf H : Hp} {v : V} {ns : List Int} (h : RepS K Hf H v (.d (.list (ns.map .int)))) : ∃ a, v = .ref a ∧ SqL K H a (ns.map V.int) := by
  obtain ⟨a, vs, rfl, h, r, z⟩ := h
  rw [r.ints] at h
  exact ⟨a, rfl, SqL.of h⟩
theorem RepS.boolsL {Hf H : Hp} {v : V} {ns : List Bool} (h : RepS K Hf H v (.d (.list (ns.map .bool)))) : ∃ a, v = .ref a ∧ SqL K H a (ns.map V.bl) := by
  obtain ⟨a, vs, rfl, h, r, z⟩ := h
  rw [r.bools] at h
  exact ⟨a, rfl, SqL.of h⟩
def rMaxA (K : PySem.W.Frag) : List V → Hp → VK → Prop := fun xs H Q => (∃ i j, xs = [.int i, .int j] ∧ Q (.int (if j > i then j else i)) H) ∨ rMax K xs H Q
def rMinA (K : PySem.W.Frag) : List V → Hp → VK → Prop := fun xs H Q => (∃ i j, xs = [.int i, .int j] ∧ Q (.int (if j < i then j else i)) H) ∨ rMin K xs H Q
theorem cr_maxA (hc : X.calm = true) : CallR X (.builtin "max") (rMaxA X.K) := CallR.or (call_max2 hc) (cr_max hc)
theorem cr_minA (hc : X.calm = true) : CallR X (.builtin "min") (rMinA X.K) := CallR.or (call_min2 hc) (cr_min hc)
theorem c_max : ConnN K (rMaxA K) dMax := by
  intro B Hf ρ σ H xs as Q Qd S r q k
  match as, r, q with
  | [.d (.int i), .d (.int j)], r, q =>
    obtain ⟨x, y, rfl, r1, r2⟩ := two_of r
    refine .inl ⟨i, j, by rw [r1.int, r2.int], k _ _ _ q ⟨Hf, S, ?_⟩⟩
    have e : max i j = if j > i then j else i := by rw [Int.max_def]; split <;> split <;> omega
    rw [e]; exact .int _
  | [.d (.list ds)], r, q =>
    obtain ⟨x, rfl, ra⟩ := one_of (P := fun _ _ => True) r
    obtain ⟨ns, rfl, hn, q⟩ := q
    obtain ⟨a, rfl, h⟩ := ra.intsL
    exact .inr ⟨a, ns, rfl, h, List.length_pos_iff.mpr hn, fun m h1 h2 => k _ _ _ (q m h1 h2) ⟨Hf, S, .int _⟩⟩
theorem c_min : ConnN K (rMinA K) dMin := by
  intro B Hf ρ σ H xs as Q Qd S r q k
  match as, r, q with
  | [.d (.int i), .d (.int j)], r, q =>
    obtain ⟨x, y, rfl, r1, r2⟩ := two_of r
    refine .inl ⟨i, j, by rw [r1.int, r2.int], k _ _ _ q ⟨Hf, S, ?_⟩⟩
    have e : min i j = if j < i then j else i := by rw [Int.min_def]; split <;> split <;> omega
    rw [e]; exact .int _
  | [.d (.list ds)], r, q =>
    obtain ⟨x, rfl, ra⟩ := one_of (P := fun _ _ => True) r
    obtain ⟨ns, rfl, hn, q⟩ := q
    obtain ⟨a, rfl, h⟩ := ra.intsL
    exact .inr ⟨a, ns, rfl, h, List.length_pos_iff.mpr hn, fun m h1 h2 => k _ _ _ (q m h1 h2) ⟨Hf, S, .int _⟩⟩
theorem c_sum : ConnN K (rSum K) dSum := by
  intro B Hf ρ σ H xs as Q Qd S r q k
  match as, r, q with
  | [.d (.list ds)], r, q =>
    obtain ⟨x, rfl, ra⟩ := one_of (P := fun _ _ => True) r
    obtain ⟨ns, rfl, q⟩ := q
    obtain ⟨a, rfl, h⟩ := ra.intsL
    exact ⟨a, ns, rfl, h, k _ _ _ q ⟨Hf, S, .int _⟩⟩
theorem c_all : ConnN K (rAll K) dAll := by
  intro B Hf ρ σ H xs as Q Qd S r q k
  match as, r, q with
  | [.d (.list ds)], r, q =>
    obtain ⟨x, rfl, ra⟩ := one_of (P := fun _ _ => True) r
    obtain ⟨ns, rfl, q⟩ := q
    obtain ⟨a, rfl, h⟩ := ra.boolsL
    exact ⟨a, ns, rfl, h, k _ _ _ q ⟨Hf, S, .bl _⟩⟩
theorem c_any : ConnN K (rAny K) dAny := by
  intro B Hf ρ σ H xs as Q Qd S r q k
  match as, r, q with
  | [.d (.list ds)], r, q =>
    obtain ⟨x, rfl, ra⟩ := one_of (P := fun _ _ => True) r
    obtain ⟨ns, rfl, q⟩ := q
    obtain ⟨a, rfl, h⟩ := ra.boolsL
    exact ⟨a, ns, rfl, h, k _ _ _ q ⟨Hf, S, .bl _⟩⟩

/-! ### list(x), tuple(x) -/
abbrev dList : DEn
  | [.d (.list ds)], Q => Q (.ow (.l ds))
  | [.d (.tuple ds)], Q => Q (.ow (.l ds))
  | _, _ => False
abbrev dTuple : DEn
  | [.d (.list ds)], Q => Q (.fz (.tuple ds))
  | [.d (.tuple ds)], Q => Q (.fz (.tuple ds))
  | _, _ => False
theorem c_list : ConnN K (fun xs H Q => ∃ p ys, xs = [.ref p] ∧ (SqL K H p ys ∨ SqT K H p ys) ∧ ∀ l, H l = none → Q (.ref l) (upd H l (.lst ys))) dList := by
  intro B Hf ρ σ H xs as Q Qd S r q k
  match as, r, q with
  | [.d (.list ds)], r, q =>
    obtain ⟨x, rfl, ra⟩ := one_of (P := fun _ _ => True) r
    obtain ⟨p, vs, rfl, h, r, z⟩ := ra
    exact ⟨p, vs, rfl, .inl (SqL.of h), fun l hl => k _ _ _ q ⟨Hf, S.allocL hl r z⟩⟩
  | [.d (.tuple ds)], r, q =>
    obtain ⟨x, rfl, ra⟩ := one_of (P := fun _ _ => True) r
    obtain ⟨p, vs, rfl, h, r, z⟩ := ra.tup
    exact ⟨p, vs, rfl, .inr (sqT_same S.sub h), fun l hl => k _ _ _ q ⟨Hf, S.allocL hl r z⟩⟩
theorem c_tuple : ConnN K (fun xs H Q => ∃ p ys, xs = [.ref p] ∧ ((SqL K H p ys ∧ ∀ l, H l = none → Q (.ref l) (upd H l (.tup ys))) ∨ (SqT K H p ys ∧ Q (.ref p) H))) dTuple := by
  intro B Hf ρ σ H xs as Q Qd S r q k
  match as, r, q with
  | [.d (.list ds)], r, q =>
    obtain ⟨x, rfl, ra⟩ := one_of (P := fun _ _ => True) r
    obtain ⟨p, vs, rfl, h, r, z⟩ := ra
    exact ⟨p, vs, rfl, .inl ⟨SqL.of h, fun l hl => k _ _ _ q ⟨_, S.alloc hl _, .tup (SqT.of upd_same) (r.same (same_upd (S.sub.free hl))) z⟩⟩⟩
  | [.d (.tuple ds)], r, q =>
    obtain ⟨x, rfl, ra⟩ := one_of (P := fun _ _ => True) r
    obtain ⟨p, vs, rfl, h, r, z⟩ := ra.tup
    exact ⟨p, vs, rfl, .inr ⟨sqT_same S.sub h, k _ _ _ q ⟨Hf, S, .tup h r z⟩⟩⟩
end
end DL
set_option Elab.async false
set_option linter.all false
set_option maxRecDepth 100000
set_option maxHeartbeats 1000000
/-! DLd: targets, statements, loops, comprehensions over data. -/
namespace DL
open PySem PySem.Spec PyProof.Rows L2

structure DEnds where
  nx : List Sl → Prop
  rt : VR → List Sl → Prop
  bk : List Sl → Prop
  ct : List Sl → Prop
  ex : XD
abbrev DS := DEnds → List Sl → Prop
structure LiftOk (K : PySem.W.Frag) (B : Bs) (W : WX) (D : DEnds) (D' : Ends) : Prop where
  nx : ∀ ρ σ H Hf, D.nx ρ → SO K B Hf ρ σ H → D'.nx σ H
  rt : ∀ r ρ σ H v, D.rt r ρ → EV K B ρ σ H r v → D'.rt v H
  bk : ∀ ρ σ H Hf, D.bk ρ → SO K B Hf ρ σ H → D'.bk σ H
  ct : ∀ ρ σ H Hf, D.ct ρ → SO K B Hf ρ σ H → D'.ct σ H
  ex : XL K B W D.ex
def SemS (K : PySem.W.Frag) (W : WX) (ts : TS) (t : DS) : Prop := ∀ B Hf ρ σ H (D : DEnds) (D' : Ends), SO K B Hf ρ σ H → LiftOk K B W D D' → t D ρ → ts D' σ H
structure PSD (X : Cx) (W : WX) (st : Stmt) (t : DS) : Prop where
  ex : ∃ ts, PS X st ts ∧ SemS X.K W ts t
structure PBD (X : Cx) (W : WX) (st : List Stmt) (t : DS) : Prop where
  ex : ∃ ts, PSs X st ts ∧ SemS X.K W ts t
theorem EV.base {K : PySem.W.Frag} {B : Bs} {Hf H : Hp} {ρ : List Sl} {σ : L2.St} {r : VR} {v : V} (h : EV K (B.up Hf) ρ σ H r v) (S0 : Same B.hf Hf) : EV K B ρ σ H r v := by
  cases r with
  | fz d => obtain ⟨Hf', S, q⟩ := h; exact ⟨Hf', S.base S0, q⟩
  | ow c => obtain ⟨Hf', S⟩ := h; exact ⟨Hf', S.base S0⟩
  | bw i => obtain ⟨⟨Hf', S⟩, e⟩ := h; exact ⟨⟨Hf', S.base S0⟩, e⟩
  | sc ns => obtain ⟨Hf', a, S, q⟩ := h; exact ⟨Hf', a, S.base S0, q⟩
theorem LiftOk.up {K : PySem.W.Frag} {B : Bs} {W : WX} {D : DEnds} {D' : Ends} {Hf : Hp} (L : LiftOk K B W D D') (S : Same B.hf Hf) : LiftOk K (B.up Hf) W D D' :=
  ⟨fun ρ σ H Hf' q S' => L.nx ρ σ H Hf' q (S'.base S), fun r ρ σ H v q e => L.rt r ρ σ H v q (e.base S), fun ρ σ H Hf' q S' => L.bk ρ σ H Hf' q (S'.base S), fun ρ σ H Hf' q S' => L.ct ρ σ H Hf' q (S'.base S), L.ex.up S⟩

section
variable {X : Cx} {W : WX} {pos : Pos}

/-! ### slots are set -/
theorem SO.setFz {K : PySem.W.Frag} {B : Bs} {Hf H : Hp} {ρ : List Sl} {σ : L2.St} (S : SO K B Hf ρ σ H) (i : Nat) {s : Sl} {v : V} (h : SlO K Hf H s (some v) []) : SO K B Hf (setS ρ i s) (σ.set i (some v)) H := by
  rw [setS_eq]
  by_cases lt : i < ρ.length
  · have e : ρ[i]? = some ρ[i] := by simp [lt]
    have S1 := S.nilSl e
    have S2 : SO K B Hf (s :: ρ.set i .nil) (some v :: σ) H := by
      obtain ⟨fp, s1, s2, s3⟩ := S1.sl
      exact ⟨S1.up, S1.sub, S1.fr, fp, ⟨some v, σ, [], fp, rfl, rfl, h, s1⟩, s2, s3⟩
    have S3 := S2.putSl (i := i) (by rw [List.getElem?_set_self lt])
    rw [List.set_set] at S3
    exact S3
  · have l2 : ¬ i < σ.length := by rw [S.len]; exact lt
    rw [List.set_eq_of_length_le (by omega), List.set_eq_of_length_le (by omega)]
    exact S
theorem SO.setOw {K : PySem.W.Frag} {B : Bs} {Hf H : Hp} {ρ : List Sl} {σ : L2.St} {s : Sl} {v : Option V} (S : SO K B Hf (s :: ρ) (v :: σ) H) (i : Nat) : SO K B Hf (setS ρ i s) (σ.set i v) H := by
  rw [setS_eq]
  have ll : σ.length = ρ.length := S.drop.len
  by_cases lt : i < ρ.length
  · have e : (s :: ρ)[i + 1]? = some ρ[i] := by simp [lt]
    have S1 := S.nilSl e
    have S1 : SO K B Hf (s :: ρ.set i .nil) (v :: σ) H := S1
    have S3 := S1.putSl (i := i) (by rw [List.getElem?_set_self lt])
    rw [List.set_set] at S3
    exact S3
  · rw [List.set_eq_of_length_le (by omega), List.set_eq_of_length_le (by omega)]
    exact S.drop
theorem SO.setNone {K : PySem.W.Frag} {B : Bs} {Hf H : Hp} {ρ : List Sl} {σ : L2.St} (S : SO K B Hf ρ σ H) (i : Nat) : SO K B Hf (setS ρ i .nil) (σ.set i none) H := by
  rw [setS_eq]
  by_cases lt : i < ρ.length
  · have e : ρ[i]? = some ρ[i] := by simp [lt]
    have S1 := S.nilSl e
    have S2 : SO K B Hf (.nil :: ρ.set i .nil) (none :: σ) H := by
      obtain ⟨fp, s1, s2, s3⟩ := S1.sl
      exact ⟨S1.up, S1.sub, S1.fr, fp, ⟨none, σ, [], fp, rfl, rfl, rfl, s1⟩, s2, s3⟩
    have S3 := S2.putSl (i := i) (by rw [List.getElem?_set_self lt])
    rw [List.set_set] at S3
    exact S3
  · have l2 : ¬ i < σ.length := by rw [S.len]; exact lt
    rw [List.set_eq_of_length_le (by omega), List.set_eq_of_length_le (by omega)]
    exact S
theorem SO.setNilD {K : PySem.W.Frag} {B : Bs} {Hf H : Hp} {ρ : List Sl} {σ : L2.St} (S : SO K B Hf ρ σ H) (i : Nat) : SO K B Hf (setS ρ i .nil) σ H := by
  rw [setS_eq]
  by_cases lt : i < ρ.length
  · exact S.nilSl (s := ρ[i]) (by simp [lt])
  · rw [List.set_eq_of_length_le (by omega)]
    exact S
/-- a value is stored into a slot -/
abbrev asg (i : Nat) (r : VR) (ρ : List Sl) (Q : List Sl → Prop) : Prop := match r with
  | .fz d => Q (setS ρ i (.fz d))
  | .ow c => Q (setS ρ i (.ow c))
  | .sc ns => Q (setS ρ i (.sc ns))
  | .bw j => frz (.bw j) ρ fun d ρ' => Q (setS ρ' i (.fz d))
theorem EV.asg {K : PySem.W.Frag} {B : Bs} {H : Hp} {ρ : List Sl} {σ : L2.St} {r : VR} {v : V} {i : Nat} {Q : List Sl → Prop} (h : EV K B ρ σ H r v) (q : asg i r ρ Q) : ∃ Hf ρ', SO K B Hf ρ' (σ.set i (some v)) H ∧ Q ρ' := by
  cases r with
  | fz d => obtain ⟨Hf, S, p⟩ := h; exact ⟨Hf, _, S.setFz i (s := .fz d) ⟨rfl, v, rfl, p⟩, q⟩
  | ow c => obtain ⟨Hf, S⟩ := h; exact ⟨Hf, _, S.setOw i, q⟩
  | sc ns => obtain ⟨Hf, a, S, e, p⟩ := h; subst e; exact ⟨Hf, _, S.setFz i (s := .sc ns) ⟨rfl, a, rfl, p⟩, q⟩
  | bw j =>
    obtain ⟨Hf, d, ρ', S, p, q⟩ := h.frz (Q := fun d ρ' => Q (setS ρ' i (.fz d))) q
    exact ⟨Hf, _, S.setFz i (s := .fz d) ⟨rfl, v, rfl, p⟩, q⟩

/-! ### targets -/
abbrev DG := D → List Sl → (List Sl → Prop) → Prop
abbrev DGs := List D → List Sl → (List Sl → Prop) → Prop
def SemG (K : PySem.W.Frag) (g : TG) (t : DG) (ix : List Nat) : Prop := ∀ B Hf ρ σ H v d (Q : L2.St → Hp → Prop) Qd, SO K B Hf ρ σ H → Rep K Hf v d → t d ρ Qd → (∀ ρ' σ', Qd ρ' → SO K B Hf ρ' σ' H → (∀ vs : List Nat, (∀ i ∈ ix, i ∈ vs) → wipe σ' vs = wipe σ vs) → Q σ' H) → g v σ H Q
structure PGD (X : Cx) (tg : Expr) (t : DG) (ix : List Nat) : Prop where
  ex : ∃ g, PG X tg g ∧ SemG X.K g t ix
def SemGs (K : PySem.W.Frag) (g : TGs) (t : DGs) (ix : List Nat) : Prop := ∀ B Hf ρ σ H vs ds (Q : L2.St → Hp → Prop) Qd, SO K B Hf ρ σ H → Reps K Hf vs ds → t ds ρ Qd → (∀ ρ' σ', Qd ρ' → SO K B Hf ρ' σ' H → (∀ vs : List Nat, (∀ i ∈ ix, i ∈ vs) → wipe σ' vs = wipe σ vs) → Q σ' H) → g vs σ H Q
structure PGsD (X : Cx) (tg : List Expr) (t : DGs) (ix : List Nat) : Prop where
  ex : ∃ g, PGs X tg g ∧ SemGs X.K g t ix
theorem wipe_set_in {σ : L2.St} {i : Nat} {v : Option V} : ∀ {vs : List Nat}, i ∈ vs → wipe (σ.set i v) vs = wipe σ vs
  | [], h => by simp at h
  | w :: ws, h => by
    show (wipe (σ.set i v) ws).set w none = (wipe σ ws).set w none
    by_cases e : i ∈ ws
    · rw [wipe_set_in e]
    · have hw : i = w := by
        rcases List.mem_cons.mp h with h | h
        · exact h
        · exact absurd h e
      subst hw
      have c : ∀ (us : List Nat), i ∉ us → wipe (σ.set i v) us = (wipe σ us).set i v := by
        intro us
        induction us with
        | nil => intro _; rfl
        | cons u us ih =>
          intro hn
          have h1 : i ≠ u := fun z => hn (by simp [z])
          show (wipe (σ.set i v) us).set u none = ((wipe σ us).set u none).set i v
          rw [ih (fun z => hn (List.mem_cons_of_mem _ z)), List.set_comm _ _ h1]
      rw [c ws e, List.set_set]
abbrev gN (i : Nat) : DG := fun d ρ Q => Q (setS ρ i (.fz d))
theorem pgd_name {i : Nat} {x : Str} (hN : X.N.Nodup) (hi : X.N[i]? = some x) (hx : Loc X.env.scope x) (hf : X.fn x = true ∨ X.env.scope.names.lookup x = some .local := by first | exact .inl rfl | exact .inr rfl | assumption) : PGD X (.Name x pos) (gN i) [i] := by
  refine ⟨_, pg_name hN hi hx hf, ?_⟩
  intro B Hf ρ σ H v d Q Qd S r h k
  exact k _ _ h (S.setFz i (s := .fz d) ⟨rfl, v, rfl, r⟩) fun vs hv => wipe_set_in (hv i (by simp))
abbrev gsNil : DGs := fun ds ρ Q => match ds with | [] => Q ρ | _ :: _ => False
abbrev gsCons (t : DG) (u : DGs) : DGs := fun ds ρ Q => match ds with | [] => False | d :: r => t d ρ fun ρ' => u r ρ' Q
theorem pgsd_nil : PGsD X [] gsNil [] := by
  refine ⟨_, pgs_nil, ?_⟩
  intro B Hf ρ σ H vs ds Q Qd S r h k
  cases r with
  | nil => exact ⟨rfl, k _ _ h S fun _ _ => rfl⟩
  | cons _ _ => exact h.elim
theorem pgsd_cons {e : Expr} {es : List Expr} {t : DG} {u : DGs} {i1 i2 : List Nat} (h1 : PGD X e t i1) (h2 : PGsD X es u i2)
    (hs : (assignEach (e :: es) X.env).map (·.2) = assign e X.env :: (assignEach es X.env).map (·.2) := by rfl) : PGsD X (e :: es) (gsCons t u) (i1 ++ i2) := by
  obtain ⟨g, p, s⟩ := h1
  obtain ⟨g2, p2, s2⟩ := h2
  refine ⟨_, pgs_cons p p2 hs, ?_⟩
  intro B Hf ρ σ H vs ds Q Qd S r h k
  cases r with
  | nil => exact h.elim
  | @cons v vs d ds rv rs =>
    refine ⟨v, vs, rfl, ?_⟩
    refine s B Hf ρ σ H v d _ _ S rv h fun ρ1 σ1 q1 S1 w1 => ?_
    refine s2 B Hf ρ1 σ1 H vs ds _ _ S1 rs q1 fun ρ2 σ2 q2 S2 w2 => ?_
    exact k _ _ q2 S2 fun us hu => (w2 us fun i hi => hu i (List.mem_append_right _ hi)).trans (w1 us fun i hi => hu i (List.mem_append_left _ hi))
abbrev gT (t : DGs) : DG := fun d ρ Q => match d with | .tuple ds => t ds ρ Q | _ => False
theorem gs_len {K : PySem.W.Frag} : True := trivial
theorem pgd_tup {es : List Expr} {k : Nat} {t : DGs} {ix : List Nat} {n : Nat} (hc : X.calm = true) (h : PGsD X es t ix) (hl : ∀ ds ρ Q, t ds ρ Q → ds.length = n)
    (hn : (assignEach es X.env).length = n := by rfl) (hst : (assignEach es X.env).findIdx? (·.1) = none := by rfl) : PGD X (.Tuple es k pos) (gT t) ix := by
  obtain ⟨g, p, s⟩ := h
  refine ⟨_, pg_tup hc p hn hst, ?_⟩
  intro B Hf ρ σ H v d Q Qd S r h k
  cases r with
  | tup hs rs z =>
    rename_i a xs ds
    exact ⟨a, xs, rfl, sqT_same S.sub hs, by rw [rs.length]; exact hl _ _ _ h, s B Hf ρ σ H xs ds Q Qd S rs h k⟩
  | _ => exact h.elim
theorem gs_len0 (ds : List D) (ρ : List Sl) (Q : List Sl → Prop) (h : gsNil ds ρ Q) : ds.length = 0 := by
  cases ds with
  | nil => rfl
  | cons _ _ => exact h.elim
theorem gs_lenS {u : DGs} {n : Nat} {i : Nat} (hu : ∀ ds ρ Q, u ds ρ Q → ds.length = n) (ds : List D) (ρ : List Sl) (Q : List Sl → Prop) (h : gsCons (gN i) u ds ρ Q) : ds.length = n + 1 := by
  cases ds with
  | nil => exact h.elim
  | cons d r => exact congrArg (· + 1) (hu _ _ _ h)
theorem gs_lenT {u v : DGs} {n : Nat} (hu : ∀ ds ρ Q, u ds ρ Q → ds.length = n) (ds : List D) (ρ : List Sl) (Q : List Sl → Prop) (h : gsCons (gT v) u ds ρ Q) : v = v → (∀ es ρ Q, v es ρ Q → ∃ ρ', Q ρ') → ds.length = n + 1 := by
  intro _ hv
  cases ds with
  | nil => exact h.elim
  | cons d r =>
    cases d with
    | tuple es =>
      obtain ⟨ρ', q⟩ := hv _ _ _ h
      exact congrArg (· + 1) (hu _ _ _ q)
    | _ => exact h.elim

/-! ### statements -/
abbrev sNext : DS := fun D ρ => D.nx ρ
abbrev sSeq (t u : DS) : DS := fun D ρ => t { D with nx := u D } ρ
theorem pbd_nil : PBD X W [] sNext := ⟨_, pss_nil, fun B Hf ρ σ H D D' S L h => L.nx _ _ _ _ h S⟩
theorem pbd_cons {st : Stmt} {rest : List Stmt} {t u : DS} (h1 : PSD X W st t) (h2 : PBD X W rest u) : PBD X W (st :: rest) (sSeq t u) := by
  obtain ⟨t1, p1, s1⟩ := h1
  obtain ⟨t2, p2, s2⟩ := h2
  refine ⟨_, pss_cons p1 p2, ?_⟩
  intro B Hf ρ σ H D D' S L h
  exact s1 B Hf ρ σ H { D with nx := u D } { D' with nx := t2 D' } S ⟨fun ρ σ H Hf q S => s2 B Hf ρ σ H D D' S L q, L.rt, L.bk, L.ct, L.ex⟩ h
theorem pbd_one {st : Stmt} {t : DS} (h1 : PSD X W st t) : PBD X W [st] t := let ⟨_, p, s⟩ := h1; ⟨_, pss_one p, s⟩
theorem psd_pass : PSD X W (.Pass pos) sNext := ⟨_, ps_pass, fun B Hf ρ σ H D D' S L h => L.nx _ _ _ _ h S⟩
abbrev sBreak : DS := fun D ρ => D.bk ρ
abbrev sCont : DS := fun D ρ => D.ct ρ
theorem psd_break : PSD X W (.Break pos) sBreak := ⟨_, ps_break, fun B Hf ρ σ H D D' S L h => L.bk _ _ _ _ h S⟩
theorem psd_continue : PSD X W (.Continue pos) sCont := ⟨_, ps_continue, fun B Hf ρ σ H D D' S L h => L.ct _ _ _ _ h S⟩
abbrev sRet (te : DE) : DS := fun D ρ => te ρ D.rt D.ex
theorem psd_ret {e : Expr} {te : DE} (he : PD X W e te) : PSD X W (.Return (some e) pos) (sRet te) := by
  obtain ⟨t, p, s⟩ := he
  refine ⟨_, ps_ret p, ?_⟩
  intro B Hf ρ σ H D D' S L h
  exact s B Hf ρ σ H _ _ _ S h (fun r ρ' H' v q e => L.rt _ _ _ _ _ q e) L.ex
abbrev sRetN : DS := fun D ρ => D.rt (.fz .none) ρ
theorem psd_retN : PSD X W (.Return none pos) sRetN := ⟨_, ps_retN, fun B Hf ρ σ H D D' S L h => L.rt _ _ _ _ _ h ⟨Hf, S, .non⟩⟩
abbrev sDrop (te : DE) : DS := fun D ρ => te ρ (fun _ ρ1 => D.nx ρ1) D.ex
theorem EV.so {K : PySem.W.Frag} {B : Bs} {H : Hp} {ρ : List Sl} {σ : L2.St} {r : VR} {v : V} (h : EV K B ρ σ H r v) : ∃ Hf, SO K B Hf ρ σ H := let ⟨Hf, S, _⟩ := h.settle; ⟨Hf, S⟩
theorem psd_expr {e : Expr} {te : DE} (he : PD X W e te) (hs : swapsWith e none pos.line X.env = pure false := by rfl) : PSD X W (.Expr e pos) (sDrop te) := by
  obtain ⟨t, p, s⟩ := he
  refine ⟨_, ps_expr p hs, ?_⟩
  intro B Hf ρ σ H D D' S L h
  exact s B Hf ρ σ H _ _ _ S h (fun r ρ' H' v q e => let ⟨Hf', S'⟩ := e.so; L.nx _ _ _ _ q S') L.ex
abbrev sIf (c : DT) (t u : DS) : DS := fun D ρ => c ρ (fun b ρ1 => if b = true then t D ρ1 else u D ρ1) D.ex
theorem psd_if {c : Expr} {a b : List Stmt} {tc : DT} {t u : DS} (hc : PTD X W c tc) (ha : PBD X W a t) (hb : PBD X W b u) : PSD X W (.If c a b pos) (sIf tc t u) := by
  obtain ⟨t1, p1, s1⟩ := hc
  obtain ⟨t2, p2, s2⟩ := ha
  obtain ⟨t3, p3, s3⟩ := hb
  refine ⟨_, ps_if p1 p2 p3, ?_⟩
  intro B Hf ρ σ H D D' S L h
  refine s1 B Hf ρ σ H _ _ _ S h (fun b ρ' H' Hf' q S' => ?_) L.ex
  cases b with
  | true => exact s2 B Hf' ρ' σ H' D D' S' L q
  | false => exact s3 B Hf' ρ' σ H' D D' S' L q
abbrev sSet (i : Nat) (te : DE) : DS := fun D ρ => te ρ (fun r ρ1 => asg i r ρ1 D.nx) D.ex
theorem sem_set {i : Nat} {te : TE} {t : DE} (s : Sem1 X.K W te t) : SemS X.K W (tAsg te (gName i)) (sSet i t) := by
  intro B Hf ρ σ H D D' S L h
  refine s B Hf ρ σ H _ _ _ S h (fun r ρ' H' v q e => ?_) L.ex
  obtain ⟨Hf', ρ2, S2, q2⟩ := e.asg q
  exact L.nx _ _ _ _ q2 S2
theorem psd_set (i : Nat) {x : Str} {e : Expr} {te : DE} {pos' : Pos} (hN : X.N.Nodup) (he : PD X W e te) (hi : X.N[i]? = some x := by rfl) (hx : Loc X.env.scope x := by first | exact Or.inl rfl | exact Or.inr rfl)
    (hs : swapsWith e (some (.Name x pos')) pos.line X.env = pure false := by rfl) (hf : X.fn x = true ∨ X.env.scope.names.lookup x = some .local := by first | exact .inl rfl | exact .inr rfl | assumption) :
    PSD X W (.Assign [.Name x pos'] e pos) (sSet i te) := by
  obtain ⟨t, p, s⟩ := he
  exact ⟨_, ps_set hN hi hx p hs hf, sem_set s⟩
/-- target = value, the value kept -/
abbrev sAsg (te : DE) (g : DG) : DS := fun D ρ => te ρ (fun r ρ1 => frz r ρ1 fun d ρ2 => g d ρ2 D.nx) D.ex
theorem psd_asg {tg e : Expr} {te : DE} {g : DG} {ix : List Nat} (he : PD X W e te) (hg : PGD X tg g ix) (hs : swapsWithSole [tg] e pos.line X.env = pure false := by rfl) (hw : swappedStores [tg] e X.env = pure none := by rfl)
    (h1 : (assignEach [tg] X.env).map (·.2) = [assign tg X.env] := by rfl) : PSD X W (.Assign [tg] e pos) (sAsg te g) := by
  obtain ⟨t, p, s⟩ := he
  obtain ⟨g1, p1, s1⟩ := hg
  refine ⟨_, ps_asg p p1 hs hw h1, ?_⟩
  intro B Hf ρ σ H D D' S L h
  refine s B Hf ρ σ H _ _ _ S h (fun r ρ' H' v q e => ?_) L.ex
  obtain ⟨Hf', d, ρ2, S2, rv, q2⟩ := e.frz q
  exact s1 B Hf' ρ2 σ H' v d _ _ S2 rv q2 fun ρ3 σ3 q3 S3 _ => L.nx _ _ _ _ q3 S3
/-- two, three names at once -/
abbrev sPar (is : List Nat) (ta : DF) : DS := fun D ρ => ta ρ (fun ds ρ1 => match is, ds with
  | [i, j], [a, b] => D.nx (setS (setS ρ1 i (.fz a)) j (.fz b))
  | [i, j, k], [a, b, c] => D.nx (setS (setS (setS ρ1 i (.fz a)) j (.fz b)) k (.fz c))
  | _, _ => False) D.ex
theorem psd_par (i j : Nat) {x y : Str} {a b : Expr} {ta : DF} {px py pt : Pos} {kt k2 pt2} (hc : X.calm = true) (hN : X.N.Nodup) (ha : PFD X W [a, b] ta) (hi : X.N[i]? = some x := by rfl) (hj : X.N[j]? = some y := by rfl) (hij : i ≠ j := by decide)
    (hx : X.env.scope.names.lookup x = some .local := by rfl) (hy : X.env.scope.names.lookup y = some .local := by rfl)
    (hw : swappedStores [.Tuple [.Name x px, .Name y py] kt pt] (.Tuple [a, b] k2 pt2) X.env = pure (some [x, y]) := by rfl)
    (hs : swapsWithSole [.Tuple [.Name x px, .Name y py] kt pt] (.Tuple [a, b] k2 pt2) pos.line X.env = pure false := by rfl) :
    PSD X W (.Assign [.Tuple [.Name x px, .Name y py] kt pt] (.Tuple [a, b] k2 pt2) pos) (sPar [i, j] ta) := by
  obtain ⟨t, p, s⟩ := ha
  refine ⟨_, ps_par hc hN hi hj hij hx hy p hw hs, ?_⟩
  intro B Hf ρ σ H D D' S L h
  refine s B Hf ρ σ H _ _ _ S h (fun ds ρ1 H1 Hf1 vs q S1 r hl => ?_) L.ex
  match ds, r, q with
  | [], .nil, q => exact q.elim
  | [_], .cons _ .nil, q => exact q.elim
  | [a, b], .cons (v := v1) r1 (.cons (v := v2) r2 .nil), q =>
    exact ⟨v1, v2, rfl, L.nx _ _ _ _ q ((S1.setFz i (s := .fz a) ⟨rfl, v1, rfl, r1⟩).setFz j (s := .fz b) ⟨rfl, v2, rfl, r2⟩)⟩
  | _ :: _ :: _ :: _, .cons _ (.cons _ (.cons _ _)), q => exact q.elim
theorem psd_par3 (i j l : Nat) {x y z : Str} {a b c : Expr} {ta : DF} {px py pz pt : Pos} {kt k2 pt2} (hc : X.calm = true) (hN : X.N.Nodup) (ha : PFD X W [a, b, c] ta) (hi : X.N[i]? = some x := by rfl) (hj : X.N[j]? = some y := by rfl) (hl : X.N[l]? = some z := by rfl)
    (hij : i ≠ j := by decide) (hil : i ≠ l := by decide) (hjl : j ≠ l := by decide)
    (hx : X.env.scope.names.lookup x = some .local := by rfl) (hy : X.env.scope.names.lookup y = some .local := by rfl) (hz : X.env.scope.names.lookup z = some .local := by rfl)
    (hw : swappedStores [.Tuple [.Name x px, .Name y py, .Name z pz] kt pt] (.Tuple [a, b, c] k2 pt2) X.env = pure (some [x, y, z]) := by rfl)
    (hs : swapsWithSole [.Tuple [.Name x px, .Name y py, .Name z pz] kt pt] (.Tuple [a, b, c] k2 pt2) pos.line X.env = pure false := by rfl) :
    PSD X W (.Assign [.Tuple [.Name x px, .Name y py, .Name z pz] kt pt] (.Tuple [a, b, c] k2 pt2) pos) (sPar [i, j, l] ta) := by
  obtain ⟨t, p, s⟩ := ha
  refine ⟨_, ps_par3 hc hN hi hj hl hij hil hjl hx hy hz p hw hs, ?_⟩
  intro B Hf ρ σ H D D' S L h
  refine s B Hf ρ σ H _ _ _ S h (fun ds ρ1 H1 Hf1 vs q S1 r hl => ?_) L.ex
  match ds, r, q with
  | [], .nil, q => exact q.elim
  | [_], .cons _ .nil, q => exact q.elim
  | [_, _], .cons _ (.cons _ .nil), q => exact q.elim
  | [a, b, c], .cons (v := v1) r1 (.cons (v := v2) r2 (.cons (v := v3) r3 .nil)), q =>
    exact ⟨v1, v2, v3, rfl, L.nx _ _ _ _ q (((S1.setFz i (s := .fz a) ⟨rfl, v1, rfl, r1⟩).setFz j (s := .fz b) ⟨rfl, v2, rfl, r2⟩).setFz l (s := .fz c) ⟨rfl, v3, rfl, r3⟩)⟩
  | _ :: _ :: _ :: _ :: _, .cons _ (.cons _ (.cons _ (.cons _ _))), q => exact q.elim

/-! ### what is walked -/
abbrev DI := List Sl → (List D → List Sl → Prop) → XD → Prop
def IterOk (K : PySem.W.Frag) (Hf : Hp) (J : It) (items : List D) : Prop := ∃ (Y : Nat → Hp → V → Hp → Prop) (G : Hp → Prop), Walk J items.length G Y ∧ (∀ H, Same Hf H → G H) ∧
  ∀ i H v H', i < items.length → Same Hf H → Y i H v H' → ∃ d, items[i]? = some d ∧ ((H' = H ∧ Rep K Hf v d) ∨ ∃ T vs ds, v = .ref T ∧ H T = none ∧ H' = upd H T (.tup vs) ∧ d = .tuple ds ∧ Reps K Hf vs ds ∧ ds.length ≤ sizeLine)
def SemI (K : PySem.W.Frag) (W : WX) (wi : TI) (t : DI) : Prop := ∀ B Hf ρ σ H (R : It → Hp → Prop) Rd Ed, SO K B Hf ρ σ H → t ρ Rd Ed → (∀ items ρ' H' Hf' J, Rd items ρ' → SO K B Hf' ρ' σ H' → IterOk K Hf' J items → items.length ≤ sizeLine → R J H') → XL K B W Ed → wi σ H R
structure PID (X : Cx) (W : WX) (tg iter : Expr) (t : DI) : Prop where
  ex : ∃ wi, PI X tg iter wi ∧ SemI X.K W wi t
/-- the item at a turn, as the target meets it -/
theorem iter_item {K : PySem.W.Frag} {B : Bs} {Hf Hf' H H' : Hp} {ρ : List Sl} {σ : L2.St} {v : V} {d : D} (S : SO K (B.up Hf) Hf' ρ σ H)
    (h : (H' = H ∧ Rep K Hf v d) ∨ ∃ T vs ds, v = .ref T ∧ H T = none ∧ H' = upd H T (.tup vs) ∧ d = .tuple ds ∧ Reps K Hf vs ds ∧ ds.length ≤ sizeLine) : ∃ Hf2, SO K (B.up Hf) Hf2 ρ σ H' ∧ Rep K Hf2 v d ∧ Same Hf' Hf2 := by
  rcases h with ⟨rfl, r⟩ | ⟨T, vs, ds, rfl, hT, rfl, rfl, r, z⟩
  · exact ⟨Hf', S, r.same S.up, Same.refl _⟩
  · have S2 := S.alloc hT (.tup vs)
    exact ⟨_, S2, .tup (SqT.of upd_same) (r.same S2.up) z, same_upd (S.sub.free hT)⟩
def sFor (src : DI) (g : DG) (body : DS) : DS := fun D ρ => src ρ (fun items ρ1 => ∃ Inv : Nat → List Sl → Prop, Inv 0 ρ1 ∧
  (∀ i d ρ2, items[i]? = some d → Inv i ρ2 → g d ρ2 fun ρ3 => body { nx := Inv (i + 1), ct := Inv (i + 1), bk := D.nx, rt := D.rt, ex := D.ex } ρ3) ∧ (∀ ρ2, Inv items.length ρ2 → D.nx ρ2)) D.ex
theorem psd_for {tg iter : Expr} {body : List Stmt} {src : DI} {g : DG} {ix : List Nat} {t : DS} (hp : PassesOwn (model X.prog X.w) X.A X.env X.xe) (hc : X.calm = true) (hi : PID X W tg iter src) (hg : PGD X tg g ix) (hb : PBD X W body t)
    (hs : ∀ x, foldedSetIterable iter X.env x = pure x := by intro _; rfl) : PSD X W (.For tg iter body [] pos) (sFor src g t) := by
  obtain ⟨wi, p1, s1⟩ := hi
  obtain ⟨g1, p2, s2⟩ := hg
  obtain ⟨tb, p3, s3⟩ := hb
  refine ⟨_, ps_for hp hc p1 p2 p3 hs, ?_⟩
  intro B Hf ρ σ H D D' S L h
  refine s1 B Hf ρ σ H _ _ _ S h (fun items ρ1 H1 Hf1 J q S1 io z => ?_) L.ex
  obtain ⟨Inv, i0, turn, fin⟩ := q
  obtain ⟨Y, G, wk, hG, hY⟩ := io
  refine for_it wk (fun i σ' H' => ∃ ρ' Hf', SO X.K (B.up Hf1) Hf' ρ' σ' H' ∧ Inv i ρ') ⟨ρ1, Hf1, S1.raise, i0⟩ ?_ ?_ ?_
  · rintro i σ' H' hi ⟨ρ', Hf', S', _⟩
    exact hG H' (S'.up.trans S'.sub)
  · rintro i v σ' H2 H3 hi ⟨ρ', Hf', S', iv⟩ y
    obtain ⟨d, hd, hh⟩ := hY i H2 v H3 hi (S'.up.trans S'.sub) y
    obtain ⟨Hf2, S2, r, _⟩ := iter_item S' hh
    refine s2 (B.up Hf1) Hf2 ρ' σ' H3 v d _ _ S2 r (turn i d ρ' hd iv) fun ρ3 σ3 q3 S3 _ => ?_
    refine s3 (B.up Hf1) Hf2 ρ3 σ3 H3 { nx := Inv (i + 1), ct := Inv (i + 1), bk := D.nx, rt := D.rt, ex := D.ex } _ S3 ⟨fun ρ σ H Hf q S => ⟨ρ, Hf, S, q⟩, fun r ρ σ H v q e => L.rt _ _ _ _ _ q (e.base S1.up), fun ρ σ H Hf q S => L.nx _ _ _ _ q (S.base S1.up), fun ρ σ H Hf q S => ⟨ρ, Hf, S, q⟩, L.ex.up S1.up⟩ q3
  · rintro σ' H' ⟨ρ', Hf', S', iv⟩
    exact L.nx _ _ _ _ (fin ρ' iv) (S'.base S1.up)
def sWhile (c : DT) (body : DS) : DS := fun D ρ => ∃ (Inv : List Sl → Prop) (μ : List Sl → Nat), Inv ρ ∧ ∀ ρ1, Inv ρ1 → c ρ1 (fun b ρ2 => if b = true then body { nx := fun ρ' => Inv ρ' ∧ μ ρ' < μ ρ1, ct := fun ρ' => Inv ρ' ∧ μ ρ' < μ ρ1, bk := D.nx, rt := D.rt, ex := D.ex } ρ2 else D.nx ρ2) D.ex
theorem psd_while {c : Expr} {body : List Stmt} {tc : DT} {t : DS} (hp : PassesOwn (model X.prog X.w) X.A X.env X.xe) (hc : PTD X W c tc) (hb : PBD X W body t) : PSD X W (.While c body [] pos) (sWhile tc t) := by
  obtain ⟨t1, p1, s1⟩ := hc
  obtain ⟨t2, p2, s2⟩ := hb
  refine ⟨_, ps_while hp p1 p2, ?_⟩
  intro B Hf ρ σ H D D' S L h
  obtain ⟨Inv, μ, i0, turn⟩ := h
  refine ⟨fun m σ' H' => ∃ ρ' Hf', SO X.K B Hf' ρ' σ' H' ∧ Inv ρ' ∧ m = μ ρ', ⟨_, ρ, Hf, S, i0, rfl⟩, ?_⟩
  rintro m σ' H' ⟨ρ', Hf', S', iv, rfl⟩
  refine s1 B Hf' ρ' σ' H' _ _ _ S' (turn ρ' iv) (fun b ρ2 H2 Hf2 q S2 => ?_) L.ex
  cases b with
  | false => exact L.nx _ _ _ _ q S2
  | true =>
    refine ⟨fun σ3 H3 => ∃ ρ3 Hf3, SO X.K B Hf3 ρ3 σ3 H3 ∧ Inv ρ3 ∧ μ ρ3 < μ ρ', fun σ3 H3 ⟨ρ3, Hf3, S3, i3, l3⟩ => ⟨_, l3, ρ3, Hf3, S3, i3, rfl⟩, ?_⟩
    exact s2 B Hf2 ρ2 σ' H2 { nx := fun ρ3 => Inv ρ3 ∧ μ ρ3 < μ ρ', ct := fun ρ3 => Inv ρ3 ∧ μ ρ3 < μ ρ', bk := D.nx, rt := D.rt, ex := D.ex } _ S2 ⟨fun ρ σ H Hf q S => ⟨ρ, Hf, S, q.1, q.2⟩, L.rt, L.nx, fun ρ σ H Hf q S => ⟨ρ, Hf, S, q.1, q.2⟩, L.ex⟩ q

/-! ### comprehensions -/
abbrev nils : List Sl → List Nat → List Sl
  | ρ, [] => ρ
  | ρ, v :: vs => setS (nils ρ vs) v .nil
theorem SO.nils {K : PySem.W.Frag} {B : Bs} {Hf H : Hp} {ρ : List Sl} {σ : L2.St} (S : SO K B Hf ρ σ H) : ∀ vs, SO K B Hf (nils ρ vs) (wipe σ vs) H
  | [] => S
  | v :: vs => (SO.nils S vs).setNone v
theorem SO.nilsD {K : PySem.W.Frag} {B : Bs} {Hf H : Hp} {ρ : List Sl} {σ : L2.St} (S : SO K B Hf ρ σ H) : ∀ vs, SO K B Hf (DL.nils ρ vs) σ H
  | [] => S
  | v :: vs => (SO.nilsD S vs).setNilD v
/-- a state over other slots' values, where they were wiped -/
theorem SlO.nilAny {K : PySem.W.Frag} {Hf H : Hp} {v w : Option V} {fp : List Addr} (h : SlO K Hf H .nil v fp) : SlO K Hf H .nil w fp := h
theorem SO.unwipe {K : PySem.W.Frag} {B : Bs} {Hf H : Hp} {ρ : List Sl} {σ : L2.St} {i : Nat} (S : SO K B Hf ρ (σ.set i none) H) : SO K B Hf (setS ρ i .nil) σ H := by
  rw [setS_eq]
  by_cases lt : i < ρ.length
  · have S1 := S.nilSl (s := ρ[i]) (i := i) (by simp [lt])
    have lσ : i < σ.length := by have := S.len; rw [List.length_set] at this; omega
    have S2 : SO K B Hf (.nil :: ρ.set i .nil) (σ[i] :: σ.set i none) H := by
      obtain ⟨fp, s1, s2, s3⟩ := S1.sl
      exact ⟨S1.up, S1.sub, S1.fr, fp, ⟨_, _, [], fp, rfl, rfl, rfl, s1⟩, s2, s3⟩
    have S3 := S2.putSl (i := i) (by rw [List.getElem?_set_self lt])
    rw [List.set_set, List.set_set] at S3
    have e : σ.set i σ[i] = σ := set_self_of (by simp [lσ])
    rw [e] at S3
    exact S3
  · have l2 : ¬ i < σ.length := by have := S.len; rw [List.length_set] at this; omega
    rw [List.set_eq_of_length_le (by omega)]
    rw [List.set_eq_of_length_le (by omega)] at S
    exact S
theorem setS_comm {ρ : List Sl} {i j : Nat} : setS (setS ρ i .nil) j .nil = setS (setS ρ j .nil) i .nil := by
  rw [setS_eq, setS_eq, setS_eq, setS_eq]
  by_cases e : i = j
  · rw [e]
  · rw [List.set_comm _ _ e]
theorem nils_set {ρ : List Sl} {i : Nat} : ∀ vs, nils (setS ρ i .nil) vs = setS (nils ρ vs) i .nil
  | [] => rfl
  | v :: vs => by
    show setS (nils (setS ρ i .nil) vs) v .nil = setS (setS (nils ρ vs) v .nil) i .nil
    rw [nils_set vs, setS_comm]
theorem SO.unwipes {K : PySem.W.Frag} {B : Bs} {Hf H : Hp} {σ : L2.St} : ∀ {vs : List Nat} {ρ : List Sl}, SO K B Hf ρ (wipe σ vs) H → SO K B Hf (DL.nils ρ vs) σ H
  | [], _, S => S
  | v :: vs, ρ, S => by
    have S1 : SO K B Hf (setS ρ v .nil) (wipe σ vs) H := SO.unwipe S
    have S2 := SO.unwipes S1
    rw [nils_set] at S2
    exact S2
theorem wipe_get_none {σ : L2.St} {i : Nat} : ∀ {vs : List Nat}, i ∈ vs → (wipe σ vs).set i none = wipe σ vs
  | [], h => by simp at h
  | v :: vs, h => by
    show ((wipe σ vs).set v none).set i none = (wipe σ vs).set v none
    by_cases e : i = v
    · subst e; rw [List.set_set]
    · have h : i ∈ vs := by
        rcases List.mem_cons.mp h with h | h
        · exact absurd h e
        · exact h
      rw [List.set_comm _ _ (Ne.symm e), wipe_get_none h]
theorem wipe_sub {σ : L2.St} {vs : List Nat} : ∀ {us : List Nat}, (∀ i ∈ us, i ∈ vs) → wipe (wipe σ vs) us = wipe σ vs
  | [], _ => rfl
  | u :: us, h => by
    show (wipe (wipe σ vs) us).set u none = wipe σ vs
    rw [wipe_sub (fun i hi => h i (List.mem_cons_of_mem _ hi)), wipe_get_none (h u (by simp))]
theorem wipe_wipe (σ : L2.St) (vs : List Nat) : wipe (wipe σ vs) vs = wipe σ vs := wipe_sub fun _ h => h
theorem nils_get {ρ : List Sl} {i : Nat} : ∀ {vs : List Nat}, i ∈ vs → setS (nils ρ vs) i .nil = nils ρ vs
  | [], h => by simp at h
  | v :: vs, h => by
    show setS (setS (nils ρ vs) v .nil) i .nil = setS (nils ρ vs) v .nil
    by_cases e : i = v
    · subst e; rw [setS_eq, setS_eq, List.set_set]
    · have h : i ∈ vs := by
        rcases List.mem_cons.mp h with h | h
        · exact absurd h e
        · exact h
      rw [setS_comm, nils_get h]
theorem nils_sub {ρ : List Sl} {vs : List Nat} : ∀ {us : List Nat}, (∀ i ∈ us, i ∈ vs) → nils (nils ρ vs) us = nils ρ vs
  | [], _ => rfl
  | u :: us, h => by
    show setS (nils (nils ρ vs) us) u .nil = nils ρ vs
    rw [nils_sub (fun i hi => h i (List.mem_cons_of_mem _ hi)), nils_get (h u (by simp))]
theorem nils_nils (ρ : List Sl) (vs : List Nat) : nils (nils ρ vs) vs = nils ρ vs := nils_sub fun _ h => h
abbrev noX : XD := fun _ _ => False
def W0 : WX := fun _ _ _ _ => False
theorem xl_no {K : PySem.W.Frag} {B : Bs} : XL K B W0 noX := fun _ _ _ _ _ h _ => h.elim
def eLc (src : DI) (g : DG) (tt : DT) (te : DE) (vs : List Nat) : DE := fun ρ Q E => src ρ (fun items ρ1 => ∃ Inv : Nat → List D → List Sl → Prop, Inv 0 [] (nils ρ1 vs) ∧
  (∀ i d acc ρ2, items[i]? = some d → Inv i acc ρ2 → g d (nils ρ2 vs) fun ρ3 => tt ρ3 (fun b ρ4 => if b = true then te ρ4 (fun r ρ5 => frz r ρ5 fun y ρ6 => Inv (i + 1) (acc ++ [y]) (nils ρ6 vs)) noX else Inv (i + 1) acc (nils ρ4 vs)) noX) ∧
  (∀ acc ρ2, Inv items.length acc ρ2 → Q (.ow (.l acc)) ρ2)) E
structure PTsD (X : Cx) (W : WX) (ifs : List Expr) (t : DT) : Prop where
  ex : ∃ te, PTs X ifs te ∧ SemT X.K W te t
abbrev dYes : DT := fun ρ Q _ => Q true ρ
theorem ptsd_nil : PTsD X W [] dYes := ⟨_, pts_nil, fun B Hf ρ σ H Q Qd Ed S h hQ hE => hQ _ _ _ _ h S⟩
theorem ptsd_one {c : Expr} {t : DT} (h : PTD X W c t) : PTsD X W [c] t := let ⟨_, p, s⟩ := h; ⟨_, pts_one p, s⟩
theorem sem_lc {wi : TI} {g : TG} {tt : TT} {te : TE} {src : DI} {gd : DG} {td : DT} {ed : DE} {ix vs : List Nat} (s1 : SemI X.K W wi src) (s2 : SemG X.K g gd ix) (s3 : SemT X.K W0 tt td) (s4 : Sem1 X.K W0 te ed) (hv : ∀ i ∈ ix, i ∈ vs) :
    Sem1 X.K W (tLc wi g tt te vs) (eLc src gd td ed vs) := by
  intro B Hf ρ σ H Q Qd Ed S h hQ hE
  refine s1 B Hf ρ σ H _ _ _ S h (fun items ρ1 H1 Hf1 J q S1 io z => ?_) hE
  obtain ⟨Inv, i0, turn, fin⟩ := q
  obtain ⟨Y, G, wk, hG, hY⟩ := io
  intro DD hD
  -- the new list DD is owned, foreign to the turns
  have nfD : Hf1 DD = none := S1.sub.free hD
  let Bt (acc : List V) : Bs := ⟨upd B.fr DD (.lst acc), Hf1⟩
  have frD : B.fr DD = none := by
    cases e : B.fr DD with
    | none => rfl
    | some o => have := (S1.fr DD o e).1; rw [hD] at this; cases this
  have grow : ∀ {acc acc' : List V} {Hf' H' : Hp} {ρ' : List Sl} {σ' : L2.St}, SO X.K (Bt acc) Hf' ρ' σ' H' → SO X.K (Bt acc') Hf' ρ' σ' (upd H' DD (.lst acc')) := by
    intro acc acc' Hf' H' ρ' σ' S'
    obtain ⟨fp, a1, a2, a3⟩ := S'.sl
    have nD : Hf' DD = none := (S'.fr DD (.lst acc) upd_same).2
    have ne : ∀ b ∈ fp, b ≠ DD := fun b hb e => by
      have := (a3 b hb).2
      rw [e] at this
      have q : (upd B.fr DD (.lst acc)) DD = none := this
      rw [upd_same] at q; cases q
    refine ⟨S'.up, fun b o e => ?_, fun b o e => ?_, fp, a1.mono (Same.refl _) fun b hb => upd_ne (ne b hb), a2, fun b hb => ⟨(a3 b hb).1, ?_⟩⟩
    · by_cases hb : b = DD
      · rw [hb, nD] at e; cases e
      · rw [upd_ne hb]; exact S'.sub _ _ e
    · by_cases hb : b = DD
      · subst hb
        have e : (upd B.fr b (.lst acc')) b = some o := e
        rw [upd_same] at e
        rw [upd_same]; exact ⟨e, nD⟩
      · have e : (upd B.fr DD (.lst acc')) b = some o := e
        rw [upd_ne hb] at e
        rw [upd_ne hb]
        refine S'.fr b o ?_
        show (upd B.fr DD (.lst acc)) b = some o
        rw [upd_ne hb]; exact e
    · have := (a3 b hb).2
      show (upd B.fr DD (.lst acc')) b = none
      rw [upd_ne (ne b hb)]
      have q : (upd B.fr DD (.lst acc)) b = none := this
      rw [upd_ne (ne b hb)] at q; exact q
  have start : SO X.K (Bt []) Hf1 ρ1 σ (upd H1 DD (.lst [])) := by
    obtain ⟨fp, a1, a2, a3⟩ := S1.sl
    have ne : ∀ b ∈ fp, b ≠ DD := fun b hb e => a1.dom b hb (by rw [e]; exact hD)
    refine ⟨Same.refl _, S1.sub.trans (same_upd hD), fun b o e => ?_, fp, a1.mono (Same.refl _) fun b hb => upd_ne (ne b hb), a2, fun b hb => ⟨(a3 b hb).1, ?_⟩⟩
    · by_cases hb : b = DD
      · subst hb
        have e : (upd B.fr b (.lst [])) b = some o := e
        rw [upd_same] at e
        rw [upd_same]; exact ⟨e, nfD⟩
      · have e : (upd B.fr DD (.lst [])) b = some o := e
        rw [upd_ne hb] at e
        rw [upd_ne hb]
        exact S1.fr b o e
    · show (upd B.fr DD (.lst [])) b = none
      rw [upd_ne (ne b hb)]; exact (a3 b hb).2
  refine lc_it wk (fun i H' => ∃ acc ds ρ' Hf', SO X.K (Bt acc) Hf' ρ' σ H' ∧ Reps X.K Hf' acc ds ∧ ds.length ≤ i ∧ Inv i ds ρ') ⟨[], [], nils ρ1 vs, Hf1, start.nilsD vs, .nil, Nat.le_refl _, i0⟩ ?_ ?_ ?_
  · rintro i H' hi ⟨acc, ds, ρ', Hf', S', _⟩
    exact hG H' (S'.up.trans S'.sub)
  · rintro i v H2 H3 hi ⟨acc, ds, ρ', Hf', S', r, hl, iv⟩ y
    obtain ⟨d, hd, hh⟩ := hY i H2 v H3 hi (S'.up.trans S'.sub) y
    have S'' : SO X.K (Bs.up (Bt acc) Hf1) Hf' ρ' σ H2 := S'
    obtain ⟨Hf2, S2, rd, m2⟩ := iter_item S'' hh
    have S2 : SO X.K (Bt acc) Hf2 ρ' σ H3 := S2
    have S3 := (S2.nils vs).raise
    have back : ∀ {acc' : List V} {ρ4 : List Sl} {σ3 : L2.St} {Hf4 H4 : Hp}, SO X.K ((Bt acc').up Hf2) Hf4 ρ4 σ3 H4 → wipe σ3 vs = wipe σ vs → SO X.K (Bt acc') Hf4 (DL.nils ρ4 vs) σ H4 := by
      intro acc' ρ4 σ3 Hf4 H4 S4 w
      have q := (S4.base (B := Bt acc') S2.up).nils vs
      rw [w] at q
      have q2 := q.unwipes
      rw [nils_nils] at q2
      exact q2
    refine s2 ((Bt acc).up Hf2) Hf2 _ _ H3 v d _ _ S3 rd (turn i d ds ρ' hd iv) fun ρ3 σ3 q3 S4 w => ?_
    have w : wipe σ3 vs = wipe σ vs := (w vs hv).trans (wipe_wipe σ vs)
    refine ⟨w, ?_⟩
    refine s3 ((Bt acc).up Hf2) Hf2 ρ3 σ3 H3 _ _ noX S4 q3 (fun b ρ4 H4 Hf4 q4 S5 => ?_) xl_no
    cases b with
    | false => exact ⟨acc, ds, _, Hf4, back S5 w, r.same (m2.trans S5.up), by omega, q4⟩
    | true =>
      refine s4 (((Bt acc).up Hf2).up Hf4) Hf4 ρ4 σ3 H4 _ _ noX S5.raise q4 (fun rr ρ5 H5 y q5 ev => ?_) xl_no
      obtain ⟨Hf6, d', ρ6, S6, r6, q6⟩ := ev.frz q5
      have m6 : Same Hf4 Hf6 := S6.up
      have S7 : SO X.K ((Bt acc).up Hf2) Hf6 ρ6 σ3 H5 := S6.base S5.up
      have S8 := back S7 w
      have la := r.length
      refine ⟨acc, (S8.fr DD (.lst acc) upd_same).1, by omega, acc ++ [y], ds ++ [d'], _, Hf6, grow S8, (r.same ((m2.trans S5.up).trans m6)).append (.cons r6 .nil), ?_, q6⟩
      rw [List.length_append, List.length_singleton]
      omega
  · rintro H' ⟨acc, ds, ρ', Hf', S', r, hl, iv⟩
    have cD := S'.fr DD (.lst acc) upd_same
    refine hQ _ ρ' H' _ (fin ds ρ' iv) ⟨Hf', ?_⟩
    obtain ⟨fp, a1, a2, a3⟩ := S'.sl
    have ne : ∀ b ∈ fp, b ≠ DD := fun b hb e => by
      have := (a3 b hb).2
      rw [e] at this
      have q : (upd B.fr DD (.lst acc)) DD = none := this
      rw [upd_same] at q; cases q
    refine ⟨S1.up.trans S'.up, S'.sub, fun b o e => S'.fr b o ?_, DD :: fp, ⟨_, _, [DD], fp, rfl, rfl, ⟨DD, rfl, rfl, by omega, acc, cD.1, r⟩, a1⟩, List.nodup_cons.mpr ⟨fun h => ne DD h rfl, a2⟩, fun b hb => ?_⟩
    · show (upd B.fr DD (.lst acc)) b = some o
      rw [upd_ne (fun z => by rw [z, frD] at e; cases e)]; exact e
    · rcases List.mem_cons.mp hb with rfl | hb
      · exact ⟨cD.2, frD⟩
      · refine ⟨(a3 b hb).1, ?_⟩
        have q : (upd B.fr DD (.lst acc)) b = none := (a3 b hb).2
        rw [upd_ne (ne b hb)] at q; exact q
end
end DL
set_option Elab.async false
set_option linter.all false
set_option maxRecDepth 100000
set_option maxHeartbeats 1000000
/-! DLe: the call of a def, and a def by its body. -/
namespace DL
open PySem PySem.Spec PyProof.Rows L2

/-- an argument as it is handed over -/
inductive Ag where
  | fz (d : D) | bw (i : Nat) | ow (c : Cn) | sc (ns : List Int)
/-- how a borrowed slot comes back -/
inductive Bk where
  | no | ow (i : Nat) | pw (i : Nat) (a : Addr)
inductive RR where
  | fz (d : D) | ow (c : Cn)
abbrev RR.vr : RR → VR
  | .fz d => .fz d
  | .ow c => .ow c
abbrev RR.sl : RR → Sl
  | .fz d => .fz d
  | .ow c => .ow c
/-- a def's promise as data: its arguments, the wished end (result, arguments behind it), the wished exception -/
abbrev FS := List Sl → (RR → List Sl → Prop) → (Addr → List Sl → Prop) → Prop
def spOf (K : PySem.W.Frag) (n : Nat) (fs : FS) : Sp := fun vs H Q E => vs.length = n ∧ ∃ (fr Hf : Hp) (as : List Sl), SO K ⟨fr, Hf⟩ Hf as (vs.map some) H ∧
  fs as (fun r as' => ∀ Hf' H' v, SO K ⟨fr, Hf⟩ Hf' (r.sl :: as') (some v :: vs.map some) H' → Q v H') (fun C as' => ∀ Hf' H', SO K ⟨fr, Hf⟩ Hf' as' (vs.map some) H' → E (.ref C) none H')

/-- a def's promise: what it asks, what it gives (the result, the arguments behind it), which exceptions -/
structure Spc where
  pre : List Sl → Prop
  post : List Sl → RR → List Sl → Prop
  exc : List Sl → Addr → List Sl → Prop := fun _ _ _ => False
def Spc.fs (p : Spc) : FS := fun as Q E => p.pre as ∧ (∀ r as', p.post as r as' → Q r as') ∧ (∀ C as', p.exc as C as' → E C as')

def AgO (K : PySem.W.Frag) (Hf : Hp) (σ : L2.St) : Ag → V → Prop
  | .fz d, v => Rep K Hf v d
  | .bw i, v => σ[i]? = some (some v)
  | .ow _, _ => True
  | .sc ns, v => ∃ a, v = .ref a ∧ SqL K Hf a (ns.map V.int)
def tops : List Ag → List Sl
  | [] => []
  | .ow c :: r => .ow c :: tops r
  | _ :: r => tops r
def topV : List Ag → List V → L2.St
  | .ow _ :: r, v :: vs => some v :: topV r vs
  | _ :: r, _ :: vs => topV r vs
  | _, _ => []
abbrev DC := List Sl → (List Ag → List Sl → Prop) → XD → Prop
def SemC (K : PySem.W.Frag) (W : WX) (ta : TA) (n : Nat) (t : DC) : Prop := ∀ B Hf ρ σ H (Q : List V → Hp → Prop) Qd Ed, SO K B Hf ρ σ H → t ρ Qd Ed → (∀ ags ρ' H' Hf' vs, Qd ags ρ' → SO K B Hf' (tops ags ++ ρ') (topV ags vs ++ σ) H' → Paired (AgO K Hf' σ) ags vs → vs.length = n → Q vs H') → XL K B W Ed → ta σ H Q
structure PCD (X : Cx) (W : WX) (es : List Expr) (t : DC) : Prop where
  ex : ∃ ta, PA X es ta ∧ SemC X.K W ta es.length t
theorem AgO.mono {K : PySem.W.Frag} {Hf Hf' : Hp} {σ : L2.St} {a : Ag} {v : V} (e : Same Hf Hf') (h : AgO K Hf σ a v) : AgO K Hf' σ a v := by
  cases a with
  | fz d => exact Rep.same e h
  | bw i => exact h
  | ow c => trivial
  | sc ns => obtain ⟨a, e1, h⟩ := h; exact ⟨a, e1, e.seq h⟩
section
variable {X : Cx} {W : WX} {pos : Pos}
abbrev cNil : DC := fun ρ Q _ => Q [] ρ
/-- a value that is kept (or the script) -/
abbrev cFz (te : DE) (ta : DC) : DC := fun ρ Q E => te ρ (fun r ρ1 => match r with
  | .sc ns => ta ρ1 (fun ags ρ2 => Q (.sc ns :: ags) ρ2) E
  | r => frz r ρ1 fun d ρ2 => ta ρ2 (fun ags ρ3 => Q (.fz d :: ags) ρ3) E) E
/-- an owned list at a name is lent -/
abbrev cBw (te : DE) (ta : DC) : DC := fun ρ Q E => te ρ (fun r ρ1 => match r with
  | .bw i => ta ρ1 (fun ags ρ2 => Q (.bw i :: ags) ρ2) E
  | _ => False) E
/-- a fresh owned list is handed over, the last argument -/
abbrev cOw (te : DE) : DC := fun ρ Q E => te ρ (fun r ρ1 => match r with
  | .ow c => Q [.ow c] ρ1
  | _ => False) E
theorem pcd_nil : PCD X W [] cNil := ⟨_, pa_nil, fun B Hf ρ σ H Q Qd Ed S h hQ hE => hQ [] _ _ Hf _ h S .nil rfl⟩
theorem pcd_fz {e : Expr} {es : List Expr} {te : DE} {ta : DC} (he : PD X W e te) (ha : PCD X W es ta) (hs : starEach (e :: es) X.env = (false, eval e X.env) :: starEach es X.env := by rfl) : PCD X W (e :: es) (cFz te ta) := by
  obtain ⟨t1, p1, s1⟩ := he
  obtain ⟨t2, p2, s2⟩ := ha
  refine ⟨_, pa_cons p1 p2 hs, ?_⟩
  intro B Hf ρ σ H Q Qd Ed S h hQ hE
  refine s1 B Hf ρ σ H _ _ Ed S h (fun r1 ρ1 H1 v1 q1 e1 => ?_) hE
  have other : ∀ d ρ2 Hf1, SO X.K B Hf1 ρ2 σ H1 → Rep X.K Hf1 v1 d → ta ρ2 (fun ags ρ3 => Qd (.fz d :: ags) ρ3) Ed → t2 σ H1 fun xs H2 => Q (v1 :: xs) H2 := by
    intro d ρ2 Hf1 S1 h1 q
    refine s2 (B.up Hf1) Hf1 ρ2 σ H1 _ _ Ed S1.raise q (fun ags ρ3 H2 Hf2 vs q2 S2 h2 l2 => ?_) (hE.up S1.up)
    exact hQ (.fz d :: ags) ρ3 H2 Hf2 (v1 :: vs) q2 (S2.base S1.up) (.cons (h1.same S2.up) h2) (congrArg (· + 1) l2)
  cases r1 with
  | sc ns =>
    obtain ⟨Hf1, a, S1, rfl, h1⟩ := e1
    refine s2 (B.up Hf1) Hf1 ρ1 σ H1 _ _ Ed S1.raise q1 (fun ags ρ3 H2 Hf2 vs q2 S2 h2 l2 => ?_) (hE.up S1.up)
    exact hQ (.sc ns :: ags) ρ3 H2 Hf2 (_ :: vs) q2 (S2.base S1.up) (.cons ⟨a, rfl, S2.up.seq h1⟩ h2) (congrArg (· + 1) l2)
  | fz d =>
    obtain ⟨Hf1, d, ρ2, S1, h1, q⟩ := e1.frz q1
    exact other d ρ2 Hf1 S1 h1 q
  | ow c =>
    obtain ⟨Hf1, d, ρ2, S1, h1, q⟩ := e1.frz q1
    exact other d ρ2 Hf1 S1 h1 q
  | bw i =>
    obtain ⟨Hf1, d, ρ2, S1, h1, q⟩ := e1.frz q1
    exact other d ρ2 Hf1 S1 h1 q
theorem pcd_bw {e : Expr} {es : List Expr} {te : DE} {ta : DC} (he : PD X W e te) (ha : PCD X W es ta) (hs : starEach (e :: es) X.env = (false, eval e X.env) :: starEach es X.env := by rfl) : PCD X W (e :: es) (cBw te ta) := by
  obtain ⟨t1, p1, s1⟩ := he
  obtain ⟨t2, p2, s2⟩ := ha
  refine ⟨_, pa_cons p1 p2 hs, ?_⟩
  intro B Hf ρ σ H Q Qd Ed S h hQ hE
  refine s1 B Hf ρ σ H _ _ Ed S h (fun r1 ρ1 H1 v1 q1 e1 => ?_) hE
  cases r1 with
  | bw i =>
    obtain ⟨⟨Hf1, S1⟩, h1⟩ := e1
    refine s2 B Hf1 ρ1 σ H1 _ _ Ed S1 q1 (fun ags ρ3 H2 Hf2 vs q2 S2 h2 l2 => ?_) hE
    exact hQ (.bw i :: ags) ρ3 H2 Hf2 (v1 :: vs) q2 S2 (.cons h1 h2) (congrArg (· + 1) l2)
  | _ => exact q1.elim
theorem pcd_ow {e : Expr} {te : DE} (he : PD X W e te) (hs : starEach [e] X.env = (false, eval e X.env) :: starEach [] X.env := by rfl) : PCD X W [e] (cOw te) := by
  obtain ⟨t1, p1, s1⟩ := he
  refine ⟨_, pa_cons p1 pa_nil hs, ?_⟩
  intro B Hf ρ σ H Q Qd Ed S h hQ hE
  refine s1 B Hf ρ σ H _ _ Ed S h (fun r1 ρ1 H1 v1 q1 e1 => ?_) hE
  cases r1 with
  | ow c =>
    obtain ⟨Hf1, S1⟩ := e1
    exact hQ [.ow c] ρ1 H1 Hf1 [v1] q1 S1 (.cons trivial .nil) rfl
  | _ => exact q1.elim

/-- what is handed over is taken out of the slots -/
abbrev resA : List Ag → List Sl → (List Sl → List Sl → List Bk → Prop) → Prop
  | [], ρ, k => k [] ρ []
  | .fz d :: r, ρ, k => resA r ρ fun as ρ' bs => k (.fz d :: as) ρ' (.no :: bs)
  | .sc ns :: r, ρ, k => resA r ρ fun as ρ' bs => k (.sc ns :: as) ρ' (.no :: bs)
  | .ow c :: r, ρ, k => resA r ρ fun as ρ' bs => k (.ow c :: as) ρ' (.no :: bs)
  | .bw i :: r, ρ, k => match getS ρ i with
    | .ow c => resA r (setS ρ i .nil) fun as ρ' bs => k (.ow c :: as) ρ' (.ow i :: bs)
    | .pw a c => resA r (setS ρ i .nil) fun as ρ' bs => k (.ow c :: as) ρ' (.pw i a :: bs)
    | _ => False
abbrev toPw (a : Addr) : Sl → Sl
  | .ow c => .pw a c
  | s => s
abbrev backA : List Bk → List Sl → List Sl → List Sl
  | .ow i :: r, s :: ss, ρ => backA r ss (setS ρ i s)
  | .pw i a :: r, s :: ss, ρ => backA r ss (setS ρ i (toPw a s))
  | .no :: r, _ :: ss, ρ => backA r ss ρ
  | _, _, ρ => ρ
theorem SlsO.split {K : PySem.W.Frag} {Hf H : Hp} : ∀ {ρ1 ρ2 : List Sl} {σ1 σ2 : L2.St} {fp : List Addr}, σ1.length = ρ1.length → SlsO K Hf H (ρ1 ++ ρ2) (σ1 ++ σ2) fp → ∃ f1 f2, fp = f1 ++ f2 ∧ SlsO K Hf H ρ1 σ1 f1 ∧ SlsO K Hf H ρ2 σ2 f2
  | [], _, [], _, fp, _, h => ⟨[], fp, rfl, ⟨rfl, rfl⟩, h⟩
  | [], _, _ :: _, _, _, l, _ => by simp at l
  | _ :: _, _, [], _, _, l, _ => by simp at l
  | s :: ρ1, ρ2, v :: σ1, σ2, _, l, ⟨v', σ', f1, f2, e1, e2, h1, h2⟩ => by
    cases e1; subst e2
    obtain ⟨g1, g2, e, q1, q2⟩ := SlsO.split (ρ1 := ρ1) (σ1 := σ1) (by simpa using l) h2
    subst e
    exact ⟨f1 ++ g1, g2, by rw [List.append_assoc], ⟨v, σ1, f1, g1, rfl, rfl, h1, q1⟩, q2⟩
theorem SlsO.join {K : PySem.W.Frag} {Hf H : Hp} : ∀ {ρ1 ρ2 : List Sl} {σ1 σ2 : L2.St} {f1 f2 : List Addr}, SlsO K Hf H ρ1 σ1 f1 → SlsO K Hf H ρ2 σ2 f2 → SlsO K Hf H (ρ1 ++ ρ2) (σ1 ++ σ2) (f1 ++ f2)
  | [], _, _, _, _, _, ⟨e1, e2⟩, h => by subst e1 e2; exact h
  | s :: ρ1, _, _, _, _, _, ⟨v, σ', g1, g2, e1, e2, h1, h2⟩, h => by
    subst e1 e2
    exact ⟨v, _, g1, _, rfl, by rw [List.append_assoc], h1, SlsO.join h2 h⟩
/-- a borrowed slot stands empty, its value as it was -/
def BkO (σ : L2.St) (ρ : List Sl) : Bk → V → Prop
  | .no, _ => True
  | .ow i, v => σ[i]? = some (some v) ∧ ρ[i]? = some .nil
  | .pw i a, v => σ[i]? = some (some v) ∧ v = .ref a ∧ ρ[i]? = some .nil
def bkIx : List Bk → List Nat
  | [] => []
  | .ow i :: r => i :: bkIx r
  | .pw i _ :: r => i :: bkIx r
  | .no :: r => bkIx r
theorem resA_ok {K : PySem.W.Frag} {Hf H : Hp} {σ : L2.St} : ∀ {ags : List Ag} {ρ : List Sl} {vs : List V} {k : List Sl → List Sl → List Bk → Prop} {f0 f1 : List Addr},
    resA ags ρ k → Paired (AgO K Hf σ) ags vs → SlsO K Hf H (tops ags) (topV ags vs) f0 → SlsO K Hf H ρ σ f1 →
    ∃ as ρ2 bs fa fr, k as ρ2 bs ∧ SlsO K Hf H as (vs.map some) fa ∧ SlsO K Hf H ρ2 σ fr ∧ (f0 ++ f1).Perm (fa ++ fr) ∧ Paired (BkO σ ρ2) bs vs ∧ (bkIx bs).Nodup ∧ (∀ i : Nat, ρ[i]? = some .nil → ρ2[i]? = some .nil ∧ i ∉ bkIx bs)
  | [], ρ, _, k, f0, f1, h, .nil, ⟨_, e⟩, h1 => by
    subst e
    exact ⟨[], ρ, [], [], f1, h, ⟨rfl, rfl⟩, h1, List.Perm.refl _, .nil, List.nodup_nil, fun i e => ⟨e, by simp [bkIx]⟩⟩
  | .fz d :: r, ρ, _, k, f0, f1, h, .cons (b := v) ha hr, h0, h1 => by
    obtain ⟨as, ρ2, bs, fa, fr, q, q1, q2, q3, q4, q5, q6⟩ := resA_ok (ags := r) h hr h0 h1
    exact ⟨_, ρ2, _, fa, fr, q, ⟨some v, _, [], fa, rfl, rfl, ⟨rfl, v, rfl, ha⟩, q1⟩, q2, q3, .cons trivial q4, q5, q6⟩
  | .sc ns :: r, ρ, _, k, f0, f1, h, .cons (b := v) ha hr, h0, h1 => by
    obtain ⟨as, ρ2, bs, fa, fr, q, q1, q2, q3, q4, q5, q6⟩ := resA_ok (ags := r) h hr h0 h1
    obtain ⟨a, e, ha⟩ := ha
    exact ⟨_, ρ2, _, fa, fr, q, ⟨some v, _, [], fa, rfl, rfl, ⟨rfl, a, by rw [e], ha⟩, q1⟩, q2, q3, .cons trivial q4, q5, q6⟩
  | .ow c :: r, ρ, _, k, f0, f1, h, .cons (b := v) ha hr, ⟨w, σ', g1, g2, e1, e2, h0, h0'⟩, h1 => by
    cases e1; subst e2
    obtain ⟨as, ρ2, bs, fa, fr, q, q1, q2, q3, q4, q5, q6⟩ := resA_ok (ags := r) h hr h0' h1
    refine ⟨_, ρ2, _, g1 ++ fa, fr, q, ⟨some v, _, g1, fa, rfl, rfl, h0, q1⟩, q2, ?_, .cons trivial q4, q5, q6⟩
    rw [List.append_assoc, List.append_assoc]
    exact q3.append_left g1
  | .bw i :: r, ρ, _, k, f0, f1, h, .cons (b := v) (l₂ := ws) ha hr, h0, h1 => by
    have ha : σ[i]? = some (some v) := ha
    unfold resA at h
    generalize hs : getS ρ i = s at h
    have core : ∀ (c : Cn) (bk : Bk), (∀ ρ2 : List Sl, ρ2[i]? = some .nil → BkO σ ρ2 bk v) → bkIx [bk] = [i] → ρ[i]? = some s → (∀ fp, SlO K Hf H s (some v) fp → SlO K Hf H (.ow c) (some v) fp) → resA r (setS ρ i .nil) (fun as ρ' bs => k (.ow c :: as) ρ' (bk :: bs)) →
        ∃ as ρ2 bs fa fr, k as ρ2 bs ∧ SlsO K Hf H as (List.map some (v :: ws)) fa ∧ SlsO K Hf H ρ2 σ fr ∧ (f0 ++ f1).Perm (fa ++ fr) ∧ Paired (BkO σ ρ2) bs (v :: ws) ∧ (bkIx bs).Nodup ∧ (∀ i : Nat, ρ[i]? = some .nil → ρ2[i]? = some .nil ∧ i ∉ bkIx bs) := by
      intro c bk hbk hix hi hsl h
      rw [setS_eq] at h
      obtain ⟨v', g1, g2, e1, t1, t2, t3⟩ := h1.take hi
      rw [ha] at e1; cases e1
      obtain ⟨as, ρ2, bs, fa, fr, q, q1, q2, q3, q4, q5, q6⟩ := resA_ok (ags := r) h hr h0 t2
      have lt : i < ρ.length := (List.getElem?_eq_some_iff.mp hi).1
      have nil_i := q6 i (by rw [List.getElem?_set_self lt])
      have hib : bkIx (bk :: bs) = i :: bkIx bs := by
        cases bk with
        | no => cases hix
        | ow j => cases hix; rfl
        | pw j a => cases hix; rfl
      refine ⟨_, ρ2, _, g1 ++ fa, fr, q, ⟨some v, _, g1, fa, rfl, rfl, hsl _ t1, q1⟩, q2, ?_, .cons (hbk ρ2 nil_i.1) q4, ?_, fun j hj => ?_⟩
      · refine (List.Perm.append_left f0 t3).trans ?_
        rw [← List.append_assoc]
        refine (List.Perm.append_right g2 List.perm_append_comm).trans ?_
        rw [List.append_assoc, List.append_assoc]
        exact q3.append_left g1
      · rw [hib]; exact List.nodup_cons.mpr ⟨nil_i.2, q5⟩
      · have ne : j ≠ i := fun z => by
          subst z
          rw [hi] at hj
          have := hsl _ t1
          cases hj
          obtain ⟨a, _, ow⟩ := this
          have t1 : g1 = [] := t1
          subst t1
          cases c with
          | l ds => obtain ⟨z, _⟩ := ow; cases z
        have := q6 j (by rw [List.getElem?_set_ne (Ne.symm ne)]; exact hj)
        rw [hib]
        exact ⟨this.1, fun z => (List.mem_cons.mp z).elim ne this.2⟩
    cases s with
    | ow c => exact core c (.ow i) (fun ρ2 e => ⟨ha, e⟩) rfl (getS_eq hs (fun z => nomatch z)) (fun _ z => z) h
    | pw a c =>
      have hi := getS_eq hs (fun z => nomatch z)
      obtain ⟨v', g1, g2, e1, t1, t2, t3⟩ := h1.take hi
      rw [ha] at e1; cases e1
      obtain ⟨e2, t1⟩ := t1
      cases e2
      exact core c (.pw i a) (fun ρ2 e => ⟨ha, rfl, e⟩) rfl hi (fun fp z => ⟨a, z.1, z.2⟩) h
    | _ => exact h.elim
theorem BkOs_set {σ : L2.St} {ρ : List Sl} {i : Nat} {s : Sl} : ∀ {bs : List Bk} {vs : List V}, i ∉ bkIx bs → Paired (BkO σ ρ) bs vs → Paired (BkO σ (setS ρ i s)) bs vs
  | [], _, _, .nil => .nil
  | .no :: r, _, h, .cons a b => .cons trivial (BkOs_set (bs := r) h b)
  | .ow j :: r, _, h, .cons a b => by
    have hj : i ≠ j := fun z => h (by simp [bkIx, z])
    refine .cons ⟨a.1, ?_⟩ (BkOs_set (bs := r) (fun z => h (List.mem_cons_of_mem _ z)) b)
    rw [setS_eq, List.getElem?_set_ne hj]; exact a.2
  | .pw j c :: r, _, h, .cons a b => by
    have hj : i ≠ j := fun z => h (by simp [bkIx, z])
    refine .cons ⟨a.1, a.2.1, ?_⟩ (BkOs_set (bs := r) (fun z => h (List.mem_cons_of_mem _ z)) b)
    rw [setS_eq, List.getElem?_set_ne hj]; exact a.2.2
theorem backA_ok {K : PySem.W.Frag} {Hf H : Hp} {σ : L2.St} : ∀ {bs : List Bk} {as ρ : List Sl} {vs : List V} {fa fr : List Addr}, SlsO K Hf H as (vs.map some) fa → SlsO K Hf H ρ σ fr → Paired (BkO σ ρ) bs vs → (bkIx bs).Nodup →
    ∃ f g, SlsO K Hf H (backA bs as ρ) σ f ∧ (f ++ g).Perm (fa ++ fr)
  | [], as, ρ, _, fa, fr, h, h1, .nil, _ => by
    refine ⟨fr, fa, ?_, List.perm_append_comm⟩
    cases as <;> exact h1
  | b :: bs, [], ρ, _, fa, fr, ⟨e, _⟩, h1, .cons _ _, _ => by cases e
  | .no :: bs, s :: as, ρ, _, _, fr, ⟨v, σ', g1, g2, e1, e2, h1, h2⟩, h, .cons hb hbs, nd => by
    cases e1; subst e2
    obtain ⟨f, g, q1, q2⟩ := backA_ok (bs := bs) h2 h hbs nd
    refine ⟨f, g1 ++ g, q1, ?_⟩
    rw [List.append_assoc, ← List.append_assoc]
    refine (List.Perm.append_right g List.perm_append_comm).trans ?_
    rw [List.append_assoc]
    exact q2.append_left g1
  | .ow i :: bs, s :: as, ρ, w :: ws, _, fr, ⟨v, σ', g1, g2, e1, e2, h1, h2⟩, h, .cons hb hbs, nd => by
    cases e1; subst e2
    obtain ⟨b1, b2⟩ := hb
    obtain ⟨fp, p1, p2⟩ := h.put b2 h1
    rw [set_self_of b1, ← setS_eq] at p1
    have nd := List.nodup_cons.mp nd
    obtain ⟨f, g, q1, q2⟩ := backA_ok (bs := bs) h2 p1 (BkOs_set nd.1 hbs) nd.2
    refine ⟨f, g, q1, q2.trans ((List.Perm.append_left g2 p2).trans ?_)⟩
    rw [← List.append_assoc]
    exact List.Perm.append_right fr List.perm_append_comm
  | .pw i a :: bs, s :: as, ρ, w :: ws, _, fr, ⟨v, σ', g1, g2, e1, e2, h1, h2⟩, h, .cons hb hbs, nd => by
    cases e1; subst e2
    obtain ⟨b1, b3, b2⟩ := hb
    have h1' : SlO K Hf H (toPw a s) (some w) g1 := by
      cases s with
      | ow c =>
        obtain ⟨a', e, q⟩ := h1
        rw [b3] at e ⊢
        cases e
        exact ⟨rfl, q⟩
      | _ => exact h1
    obtain ⟨fp, p1, p2⟩ := h.put b2 h1'
    rw [set_self_of b1, ← setS_eq] at p1
    have nd := List.nodup_cons.mp nd
    obtain ⟨f, g, q1, q2⟩ := backA_ok (bs := bs) h2 p1 (BkOs_set nd.1 hbs) nd.2
    refine ⟨f, g, q1, q2.trans ((List.Perm.append_left g2 p2).trans ?_)⟩
    rw [← List.append_assoc]
    exact List.Perm.append_right fr List.perm_append_comm

/-! ### the call -/
theorem sub_of {f g l : List Addr} (p : (f ++ g).Perm l) : ∀ b ∈ f, b ∈ l := fun b hb => p.mem_iff.mp (List.mem_append_left _ hb)
def frOf (H fr0 : Hp) (l : List Addr) : Hp := fun b => if b ∈ l then H b else fr0 b
/-- the frame rule: what the callee is given, and what comes back -/
theorem call_frame {K : PySem.W.Frag} {B : Bs} {Hf H : Hp} {σ : L2.St} {ags : List Ag} {ρ : List Sl} {vs : List V} {k : List Sl → List Sl → List Bk → Prop}
    (S : SO K B Hf (tops ags ++ ρ) (topV ags vs ++ σ) H) (ha : Paired (AgO K Hf σ) ags vs) (h : resA ags ρ k) : ∃ as ρ2 bs fr, k as ρ2 bs ∧ SO K ⟨fr, Hf⟩ Hf as (vs.map some) H ∧
      (∀ Hf' H' (r : RR) (v : V) as', SO K ⟨fr, Hf⟩ Hf' (r.sl :: as') (some v :: vs.map some) H' → EV K B (backA bs as' ρ2) σ H' r.vr v) ∧
      (∀ Hf' H' as', SO K ⟨fr, Hf⟩ Hf' as' (vs.map some) H' → ∃ Hf2, SO K B Hf2 (backA bs as' ρ2) σ H') := by
  obtain ⟨fp, s1, s2, s3⟩ := S.sl
  have tl : ∀ (ags : List Ag) (vs : List V), Paired (AgO K Hf σ) ags vs → (topV ags vs).length = (tops ags).length := by
    intro ags vs p
    induction p with
    | nil => rfl
    | @cons a b l1 l2 _ _ ih => cases a <;> simp [topV, tops, ih]
  obtain ⟨f0, f1, rfl, t0, t1⟩ := s1.split (tl ags vs ha)
  obtain ⟨as, ρ2, bs, fa, fr, q, q1, q2, q3, q4, q5, q6⟩ := resA_ok h ha t0 t1
  have nd := q3.nodup_iff.mp s2
  have s3' : ∀ a ∈ fa ++ fr, Hf a = none ∧ B.fr a = none := fun a h => s3 a (q3.mem_iff.mpr h)
  have dj : ∀ b ∈ fr, b ∉ fa := fun b h1 h2 => (List.nodup_append.mp nd).2.2 b h2 b h1 rfl
  refine ⟨as, ρ2, bs, frOf H B.fr fr, q, ⟨Same.refl _, S.sub, fun b o e => ?_, fa, q1, (List.nodup_append.mp nd).1, fun b hb => ⟨(s3' b (List.mem_append_left _ hb)).1, ?_⟩⟩, ?_, ?_⟩
  · have e : (if b ∈ fr then H b else B.fr b) = some o := e
    by_cases hb : b ∈ fr
    · rw [if_pos hb] at e
      exact ⟨e, (s3' b (List.mem_append_right _ hb)).1⟩
    · rw [if_neg hb] at e
      exact S.fr b o e
  · show (if b ∈ fr then H b else B.fr b) = none
    rw [if_neg (fun z => dj b z hb)]
    exact (s3' b (List.mem_append_left _ hb)).2
  all_goals
    have keep : ∀ {Hf' H' : Hp}, (∀ a o, frOf H B.fr fr a = some o → H' a = some o ∧ Hf' a = none) → (∀ b ∈ fr, H' b = H b) ∧ (∀ b ∈ fr, Hf' b = none ∧ B.fr b = none) ∧ (∀ a o, B.fr a = some o → H' a = some o ∧ Hf' a = none) := by
      intro Hf' H' hk
      have h1 : ∀ b ∈ fr, ∃ o, H b = some o ∧ H' b = some o ∧ Hf' b = none := fun b hb => by
        cases e : H b with
        | none => exact absurd e (q2.dom b hb)
        | some o => exact ⟨o, rfl, hk b o (by show (if b ∈ fr then H b else B.fr b) = some o; rw [if_pos hb, e])⟩
      refine ⟨fun b hb => ?_, fun b hb => ⟨?_, (s3' b (List.mem_append_right _ hb)).2⟩, fun a o e => hk a o ?_⟩
      · obtain ⟨o, x, y, _⟩ := h1 b hb
        rw [x, y]
      · obtain ⟨o, x, y, z⟩ := h1 b hb
        exact z
      · show (if a ∈ fr then H a else B.fr a) = some o
        rw [if_neg (fun z => by rw [(s3' a (List.mem_append_right _ z)).2] at e; cases e)]
        exact e
    have outN : ∀ {b : Addr}, frOf H B.fr fr b = none → b ∉ fr ∧ B.fr b = none := by
      intro b e
      have e : (if b ∈ fr then H b else B.fr b) = none := e
      by_cases hb : b ∈ fr
      · rw [if_pos hb] at e; exact absurd e (q2.dom b hb)
      · rw [if_neg hb] at e; exact ⟨hb, e⟩
  · intro Hf' H' r v as' S'
    obtain ⟨k1, k2, k3⟩ := keep S'.fr
    obtain ⟨fq, ⟨v', σ', g1, g2, e1, e2, u1, u2⟩, n1, n2⟩ := S'.sl
    cases e1; subst e2
    obtain ⟨f, g, w1, w2⟩ := backA_ok u2 (q2.mono S'.up k1) q4 q5
    have nall : (g1 ++ (g2 ++ fr)).Nodup := by
      rw [← List.append_assoc]
      exact List.nodup_append.mpr ⟨n1, (List.nodup_append.mp nd).2.1, fun a h1 b h2 e => (outN (n2 a h1).2).1 (e ▸ h2)⟩
    have nf : (g1 ++ f).Nodup := by
      have p2 : (g1 ++ (f ++ g)).Perm (g1 ++ (g2 ++ fr)) := w2.append_left g1
      have := p2.nodup_iff.mpr nall
      rw [← List.append_assoc] at this
      exact (List.nodup_append.mp this).1
    have cond : ∀ a ∈ g1 ++ f, Hf' a = none ∧ B.fr a = none := fun a h => by
      rcases List.mem_append.mp h with h | h
      · exact ⟨(n2 a (List.mem_append_left _ h)).1, (outN (n2 a (List.mem_append_left _ h)).2).2⟩
      · rcases List.mem_append.mp (sub_of w2 a h) with h | h
        · exact ⟨(n2 a (List.mem_append_right _ h)).1, (outN (n2 a (List.mem_append_right _ h)).2).2⟩
        · exact k2 a h
    have S2 : SO K B Hf' (r.sl :: backA bs as' ρ2) (some v :: σ) H' := ⟨S.up.trans S'.up, S'.sub, k3, g1 ++ f, ⟨_, _, g1, f, rfl, rfl, u1, w1⟩, nf, cond⟩
    cases r with
    | fz d =>
      obtain ⟨_, x, e, p⟩ := u1
      cases e
      exact ⟨Hf', S2.drop, p⟩
    | ow c => exact ⟨Hf', S2⟩
  · intro Hf' H' as' S'
    obtain ⟨k1, k2, k3⟩ := keep S'.fr
    obtain ⟨fq, u2, n1, n2⟩ := S'.sl
    obtain ⟨f, g, w1, w2⟩ := backA_ok u2 (q2.mono S'.up k1) q4 q5
    have nall : (fq ++ fr).Nodup := List.nodup_append.mpr ⟨n1, (List.nodup_append.mp nd).2.1, fun a h1 b h2 e => (outN (n2 a h1).2).1 (e ▸ h2)⟩
    exact ⟨Hf', S.up.trans S'.up, S'.sub, k3, f, w1, (List.nodup_append.mp (w2.nodup_iff.mpr nall)).1, fun a h => by
      rcases List.mem_append.mp (sub_of w2 a h) with h | h
      · exact ⟨(n2 a h).1, (outN (n2 a h).2).2⟩
      · exact k2 a h⟩
abbrev eCall (fs : FS) (tc : DC) : DE := fun ρ Q E => tc ρ (fun ags ρ1 => resA ags ρ1 fun as ρ2 bs => fs as (fun r as' => Q r.vr (backA bs as' ρ2)) (fun C as' => E C (backA bs as' ρ2))) E
theorem PA.len {es : List Expr} {t : TA} : True := trivial
theorem pd_call {x : Str} {p : Pos} {e : Expr} {es : List Expr} {k n : Nat} {f : Addr} {fd : FuncData} {ps : List Str} {sp : Spc} {tc : DC} (tk : Takes X W) (F : FnOk X.prog X.w X.K X.mg X.base (L2.CX X.prog X.w) k f fd ps (spOf X.K n sp.fs)) (hr : Room k X.A) (hg : Gl X x) (hm : X.mg x = some (.ref f)) (hk : PySem.W.keepIn X.K (.ref f) = true) (hb : Binds X.K fd ps [])
    (ha : PCD X W (e :: es) tc) (hl : (e :: es).length = n := by rfl) (hdb : (x == ("__debug__" : Str)) = false := by decide) (he : starEach (e :: es) X.env = (false, eval e X.env) :: starEach es X.env := by rfl) (hpl : (backTo pos (starEach es X.env)).any (·.1) = false := by rfl) :
    PD X W (.Call (.Name x p) (e :: es) [] pos) (eCall sp.fs tc) := by
  obtain ⟨ta, pa, sa⟩ := ha
  refine ⟨_, pe_callS (E := WE W) F hr hg hm hk hb (fun σ => passAt tk σ) pa hdb he hpl, ?_⟩
  intro B Hf ρ σ H Q Qd Ed S h hQ hE
  refine sa B Hf ρ σ H _ _ Ed S h (fun ags ρ1 H1 Hf1 vs q S1 h1 l1 => ?_) hE
  obtain ⟨as, ρ2, bs, fr, q2, S2, back, backX⟩ := call_frame S1 h1 q
  refine ⟨l1.trans hl, fr, Hf1, as, S2, ?_⟩
  refine ⟨q2.1, fun r as' p Hf' H' v S3 => hQ _ _ H' v (q2.2.1 r as' p) (back Hf' H' r v as' S3), fun C as' p Hf' H' S3 => ?_⟩
  obtain ⟨Hf2, S4⟩ := backX Hf' H' as' S3
  exact hE C _ σ H' Hf2 (q2.2.2 C as' p) S4

/-! ### a def by its body -/
abbrev startS : List Sl → (Nat → Addr) → Nat → List Sl
  | [], _, _ => []
  | .ow c :: as, ad, i => .pw (ad i) c :: startS as ad (i + 1)
  | s :: as, ad, i => s :: startS as ad (i + 1)
abbrev outs : List Sl → (Nat → Addr) → Nat → List Sl → (List Sl → Prop) → Prop
  | [], _, _, _, k => k []
  | .ow _ :: as, ad, i, .pw a c :: ρ, k => a = ad i ∧ outs as ad (i + 1) ρ fun l => k (.ow c :: l)
  | .fz d :: as, ad, i, _ :: ρ, k => outs as ad (i + 1) ρ fun l => k (.fz d :: l)
  | .sc ns :: as, ad, i, _ :: ρ, k => outs as ad (i + 1) ρ fun l => k (.sc ns :: l)
  | _, _, _, _, _ => False
abbrev endR (as : List Sl) (ad : Nat → Addr) (Q : RR → List Sl → Prop) (r : VR) (ρ : List Sl) : Prop := match r with
  | .fz d => outs as ad 0 ρ fun l => Q (.fz d) l
  | .ow c => outs as ad 0 ρ fun l => Q (.ow c) l
  | .sc _ => False
  | .bw i => match getS ρ i with
    | .ow c => outs as ad 0 (setS ρ i .nil) fun l => Q (.ow c) l
    | .fz d => outs as ad 0 ρ fun l => Q (.fz d) l
    | _ => False
abbrev endsOf (p : Spc) (as : List Sl) (ad : Nat → Addr) : DEnds :=
  { nx := fun ρ => endR as ad (p.post as) (.fz .none) ρ, rt := endR as ad (p.post as), bk := fun _ => False, ct := fun _ => False, ex := fun C ρ => outs as ad 0 ρ fun l => p.exc as C l }
def AdO (as : List Sl) (vs : List V) (ad : Nat → Addr) (i : Nat) : Prop := ∀ (j : Nat) (v : V), vs[j]? = some v → ∀ c : Cn, as[j]? = some (Sl.ow c) → v = V.ref (ad (i + j))
theorem outs_ok {K : PySem.W.Frag} {Hf H Hf' H' : Hp} (e : Same Hf Hf') : ∀ {as : List Sl} {ad : Nat → Addr} {i : Nat} {ρ : List Sl} {k : List Sl → Prop} {vs : List V} {fa fr : List Addr} {σ : L2.St}, outs as ad i ρ k → SlsO K Hf H as (vs.map some) fa → AdO as vs ad i → SlsO K Hf' H' ρ σ fr →
    ∃ l f g, k l ∧ SlsO K Hf' H' l (vs.map some) f ∧ (f ++ g).Perm fr
  | [], ad, i, ρ, k, vs, fa, fr, σ, h, ⟨e1, _⟩, _, _ => ⟨[], [], fr, h, ⟨e1, rfl⟩, List.Perm.refl _⟩
  | .ow c0 :: as, ad, i, .pw a c :: ρ, k, vs, _, _, σ, ⟨ea, h⟩, ⟨v0, σ0, g1, g2, e1, e2, p1, p2⟩, hv, ⟨v1, σ1, q1, q2, e3, e4, r1, r2⟩ => by
    match vs, e1 with
    | v :: vs, e1 =>
      cases e1
      subst e4
      have ev : v = .ref a := by
        have := hv 0 v rfl c0 rfl
        rw [this, ea]; rfl
      obtain ⟨l, f, g, k1, k2, k3⟩ := outs_ok e (as := as) h p2 (fun j w hj c hc => by
        have := hv (j + 1) w (by simpa using hj) c (by simpa using hc)
        rw [this]; congr 2; omega) r2
      refine ⟨_, q1 ++ f, g, k1, ⟨_, _, q1, f, rfl, rfl, ⟨a, by rw [ev], r1.2⟩, k2⟩, ?_⟩
      rw [List.append_assoc]
      exact k3.append_left q1
  | .fz d :: as, ad, i, s :: ρ, k, vs, _, _, σ, h, ⟨v0, σ0, g1, g2, e1, e2, p1, p2⟩, hv, ⟨v1, σ1, q1, q2, e3, e4, r1, r2⟩ => by
    match vs, e1 with
    | v :: vs, e1 =>
      cases e1
      subst e4
      obtain ⟨l, f, g, k1, k2, k3⟩ := outs_ok e (as := as) h p2 (fun j w hj c hc => by
        have := hv (j + 1) w (by simpa using hj) c (by simpa using hc)
        rw [this]; congr 2; omega) r2
      obtain ⟨_, x, ex, rx⟩ := p1
      refine ⟨_, f, g ++ q1, k1, ⟨_, _, [], f, rfl, rfl, ⟨rfl, x, ex, rx.same e⟩, k2⟩, ?_⟩
      rw [← List.append_assoc]
      exact (List.Perm.append_right q1 k3).trans List.perm_append_comm
  | .sc ns :: as, ad, i, s :: ρ, k, vs, _, _, σ, h, ⟨v0, σ0, g1, g2, e1, e2, p1, p2⟩, hv, ⟨v1, σ1, q1, q2, e3, e4, r1, r2⟩ => by
    match vs, e1 with
    | v :: vs, e1 =>
      cases e1
      subst e4
      obtain ⟨l, f, g, k1, k2, k3⟩ := outs_ok e (as := as) h p2 (fun j w hj c hc => by
        have := hv (j + 1) w (by simpa using hj) c (by simpa using hc)
        rw [this]; congr 2; omega) r2
      obtain ⟨_, x, ex, rx⟩ := p1
      refine ⟨_, f, g ++ q1, k1, ⟨_, _, [], f, rfl, rfl, ⟨rfl, x, ex, e.seq rx⟩, k2⟩, ?_⟩
      rw [← List.append_assoc]
      exact (List.Perm.append_right q1 k3).trans List.perm_append_comm
theorem start_ok {K : PySem.W.Frag} {Hf H : Hp} : ∀ {as : List Sl} {vs : List V} {fa : List Addr} (ad : Nat → Addr) (i : Nat), SlsO K Hf H as (vs.map some) fa → AdO as vs ad i → SlsO K Hf H (startS as ad i) (vs.map some) fa
  | [], vs, fa, ad, i, h, _ => h
  | s :: as, vs, fa, ad, i, ⟨v0, σ0, g1, g2, e1, e2, p1, p2⟩, hv => by
    match vs, e1 with
    | v :: vs, e1 =>
      cases e1
      subst e2
      have ih := start_ok ad (i + 1) p2 (fun j w hj c hc => by
        have := hv (j + 1) w (by simpa using hj) c (by simpa using hc)
        rw [this]; congr 2; omega)
      cases s with
      | ow c =>
        have ev : v = .ref (ad i) := hv 0 v rfl c rfl
        obtain ⟨a, ea, q⟩ := p1
        rw [ev] at ea
        cases ea
        exact ⟨_, _, g1, g2, rfl, rfl, ⟨by rw [ev], q⟩, ih⟩
      | _ => exact ⟨_, _, g1, g2, rfl, rfl, p1, ih⟩
theorem nils_ok {K : PySem.W.Frag} {Hf H : Hp} : ∀ m : Nat, SlsO K Hf H (List.replicate m .nil) (List.replicate m none) []
  | 0 => ⟨rfl, rfl⟩
  | m + 1 => ⟨none, _, [], [], rfl, rfl, rfl, nils_ok m⟩
theorem ow_ref {K : PySem.W.Frag} {Hf H : Hp} : ∀ {as : List Sl} {vs : List V} {fa : List Addr} {j : Nat} {v : V} {c : Cn}, SlsO K Hf H as (vs.map some) fa → vs[j]? = some v → as[j]? = some (.ow c) → ∃ a, v = .ref a
  | [], _, _, _, _, _, _, _, h => by simp at h
  | s :: as, vs, fa, j, v, c, ⟨v0, σ0, g1, g2, e1, e2, p1, p2⟩, h1, h2 => by
    match vs, e1 with
    | w :: vs, e1 =>
      cases e1
      cases j with
      | zero =>
        cases h1
        have h2 : some s = some (.ow c) := h2
        cases h2
        obtain ⟨a, ea, _⟩ := p1
        cases ea
        exact ⟨a, rfl⟩
      | succ j => exact ow_ref p2 (by simpa using h1) (by simpa using h2)
def adOf (vs : List V) (j : Nat) : Addr := match vs[j]? with
  | some (.ref a) => a
  | _ => 0
theorem def_ok {P : Program} {w : World} {K : PySem.W.Frag} {mg : Str → Option Value} {base : Heap} {x qual : Str} {st : Stmt} {f : Addr} {fd : FuncData} {N ps : List Str} {k : Nat} (F : Fun K x qual st f fd) (S : FnScope N ps (defScope st)) (sp : Spc)
    (hbody : ∀ (cdv : Value) (A : Around) (outer : List Env) (s : Shared) (H : Hp) (E : XK), Room k (A.deeper (envOfC qual (defScope st) s.heap.objs.size f cdv)) →
      ∃ t, PBD (cxOf (L2.CX P w) P w K mg base N qual (defScope st) f cdv A outer s H E) (fun cls d _ H => E cls d H) (defBody st) t ∧ ∀ as ad, sp.pre as → as.length = ps.length → t (endsOf sp as ad) (startS as ad 0 ++ List.replicate (N.length - ps.length) .nil)) :
    FnOk P w K mg base (L2.CX P w) (k + 1) f fd ps (spOf K ps.length sp.fs) := by
  refine F.okX S (fun vs H Q E h => h.1) (fun cdv A outer s H vs Q E hr h => ?_)
  obtain ⟨t, ⟨ts, p, sem⟩, rd⟩ := hbody cdv A outer s H E hr
  refine ⟨ts, p, ?_⟩
  obtain ⟨hl, fr, Hf, as, S0, pre, post, exc⟩ := h
  obtain ⟨fa, s1, s2, s3⟩ := S0.sl
  have la : as.length = ps.length := by have := s1.length; rw [List.length_map] at this; omega
  have hv : AdO as vs (adOf vs) 0 := fun j v h1 c h2 => by
    obtain ⟨a, e⟩ := ow_ref s1 h1 h2
    subst e
    rw [Nat.zero_add]
    unfold adOf
    rw [h1]
  have q0 := rd as (adOf vs) pre la
  have st0 : SlsO K Hf H (startS as (adOf vs) 0 ++ List.replicate (N.length - ps.length) .nil) (L2.start N vs) fa := by
    have := (start_ok (adOf vs) 0 s1 hv).join (nils_ok (K := K) (Hf := Hf) (H := H) (N.length - ps.length))
    rw [List.append_nil] at this
    unfold L2.start
    rw [hl]; exact this
  have S1 : SO K ⟨fr, Hf⟩ Hf (startS as (adOf vs) 0 ++ List.replicate (N.length - ps.length) .nil) (L2.start N vs) H := ⟨S0.up, S0.sub, S0.fr, fa, st0, s2, s3⟩
  -- behind the body
  have endO : ∀ {Hf' H' : Hp} {ρ : List Sl} {σ : L2.St} {k : List Sl → Prop}, outs as (adOf vs) 0 ρ k → SO K ⟨fr, Hf⟩ Hf' ρ σ H' → ∃ l, k l ∧ SO K ⟨fr, Hf⟩ Hf' l (vs.map some) H' := by
    intro Hf' H' ρ σ k h S'
    obtain ⟨fp, t1, t2, t3⟩ := S'.sl
    obtain ⟨l, f, g, k1, k2, k3⟩ := outs_ok S'.up h s1 hv t1
    exact ⟨l, k1, S'.up, S'.sub, S'.fr, f, k2, (List.nodup_append.mp (k3.nodup_iff.mpr t2)).1, fun a ha => t3 a (sub_of k3 a ha)⟩
  have endW : ∀ {Hf' H' : Hp} {ρ : List Sl} {σ : L2.St} {k : List Sl → Prop} {s : Sl} {v : Option V}, outs as (adOf vs) 0 ρ k → SO K ⟨fr, Hf⟩ Hf' (s :: ρ) (v :: σ) H' → ∃ l, k l ∧ SO K ⟨fr, Hf⟩ Hf' (s :: l) (v :: vs.map some) H' := by
    intro Hf' H' ρ σ k s v h S'
    obtain ⟨fp, ⟨v', σ', u1, u2, e1, e2, w1, w2⟩, t2, t3⟩ := S'.sl
    cases e1; subst e2
    obtain ⟨l, f, g, k1, k2, k3⟩ := outs_ok S'.up h s1 hv w2
    have p : ((u1 ++ f) ++ g).Perm (u1 ++ u2) := by rw [List.append_assoc]; exact k3.append_left u1
    exact ⟨l, k1, S'.up, S'.sub, S'.fr, u1 ++ f, ⟨_, _, u1, f, rfl, rfl, w1, k2⟩, (List.nodup_append.mp (p.nodup_iff.mpr t2)).1, fun a ha => t3 a (sub_of p a ha)⟩
  have addFz : ∀ {Hf' H' : Hp} {ρ : List Sl} {σ : L2.St} {v : V} {d : D}, SO K ⟨fr, Hf⟩ Hf' ρ σ H' → Rep K Hf' v d → SO K ⟨fr, Hf⟩ Hf' (.fz d :: ρ) (some v :: σ) H' := by
    intro Hf' H' ρ σ v d S' r
    obtain ⟨fp, t1, t2, t3⟩ := S'.sl
    exact ⟨S'.up, S'.sub, S'.fr, fp, ⟨_, _, [], fp, rfl, rfl, ⟨rfl, v, rfl, r⟩, t1⟩, t2, t3⟩
  have endE : ∀ {r : VR} {ρ : List Sl} {σ : L2.St} {H' : Hp} {v : V}, endR as (adOf vs) (sp.post as) r ρ → EV K ⟨fr, Hf⟩ ρ σ H' r v → Q v H' := by
    intro r ρ σ H' v q ev
    cases r with
    | fz d =>
      obtain ⟨Hf', S', rv⟩ := ev
      obtain ⟨l, k1, S2⟩ := endW q (addFz S' rv)
      exact post (.fz d) l k1 Hf' H' v S2
    | ow c =>
      obtain ⟨Hf', S'⟩ := ev
      obtain ⟨l, k1, S2⟩ := endW q S'
      exact post (.ow c) l k1 Hf' H' v S2
    | sc ns => exact q.elim
    | bw i =>
      obtain ⟨⟨Hf', S'⟩, e⟩ := ev
      unfold endR at q
      dsimp only at q
      generalize hs : getS ρ i = s at q
      cases s with
      | ow c =>
        obtain ⟨w, e1, S2⟩ := S'.takeSl (getS_eq hs (fun z => nomatch z))
        rw [e] at e1; cases e1
        rw [setS_eq] at q
        obtain ⟨l, k1, S3⟩ := endW q S2
        exact post (.ow c) l k1 Hf' H' v S3
      | fz d =>
        obtain ⟨w, fp, e1, e2, y, e3, rv⟩ := S'.get (getS_eq hs (fun z => nomatch z))
        rw [e] at e1; cases e1; cases e3
        obtain ⟨l, k1, S2⟩ := endW q (addFz S' rv)
        exact post (.fz d) l k1 Hf' H' v S2
      | _ => exact q.elim
  refine sem ⟨fr, Hf⟩ Hf _ _ H (endsOf sp as (adOf vs)) _ S1 ⟨fun ρ σ H' Hf' q S' => ?_, fun r ρ σ H' v q ev => endE q ev, fun _ _ _ _ q _ => q.elim, fun _ _ _ _ q _ => q.elim, fun C ρ σ H' Hf' q S' => ?_⟩ q0
  · exact endE (r := .fz .none) (σ := σ) q ⟨Hf', S', .non⟩
  · obtain ⟨l, k1, S2⟩ := endO q S'
    exact exc C l k1 Hf' H' S2
end
end DL
set_option Elab.async false
set_option linter.all false
set_option maxRecDepth 100000
set_option maxHeartbeats 1000000
/-! DLf: comprehensions in place, what is walked, slices, isinstance, stores, methods. -/
namespace DL
open PySem PySem.Spec PyProof.Rows L2
section
variable {X : Cx} {W : WX} {pos : Pos} {tg iter : Expr}

/-! ### comprehensions in place -/
theorem pg_all {ι : Type} {X : ι → Cx} {tg : Expr} {t : DG} {ix : List Nat} {K : PySem.W.Frag} (hK : ∀ c, (X c).K = K) (h : ∀ c, PGD (X c) tg t ix) : ∃ g, (∀ c, PG (X c) tg g) ∧ SemG K g t ix := by
  have h' : ∀ c, ∃ g, PG (X c) tg g ∧ SemG K g t ix := fun c => by
    have q := (h c).ex
    rw [hK c] at q
    exact q
  refine ⟨fun v σ H Q => ∀ c, (Classical.choose (h' c)) v σ H Q, fun c => ⟨fun pins s σ H v u Q I r q => (Classical.choose_spec (h' c)).1.run pins s σ H v u Q I r (q c)⟩, ?_⟩
  intro B Hf ρ σ H v d Q Qd S r q k c
  exact (Classical.choose_spec (h' c)).2 B Hf ρ σ H v d Q Qd S r q k
theorem pe_all {ι : Type} {X : ι → Cx} {W : WX} {e : Expr} {t : DE} {K : PySem.W.Frag} (hK : ∀ c, (X c).K = K) (h : ∀ c, PD (X c) W e t) : ∃ te, (∀ c, PE (X c) e te) ∧ Sem1 K W te t := by
  have h' : ∀ c, ∃ te, PE (X c) e te ∧ Sem1 K W te t := fun c => by
    have q := (h c).ex
    rw [hK c] at q
    exact q
  refine ⟨fun σ H Q => ∀ c, (Classical.choose (h' c)) σ H Q, fun c => ⟨fun pins s σ H Q I q => (Classical.choose_spec (h' c)).1.run pins s σ H Q I (q c)⟩, ?_⟩
  intro B Hf ρ σ H Q Qd Ed S q hQ hE c
  exact (Classical.choose_spec (h' c)).2 B Hf ρ σ H Q Qd Ed S q hQ hE
theorem pts_all {ι : Type} {X : ι → Cx} {W : WX} {e : List Expr} {t : DT} {K : PySem.W.Frag} (hK : ∀ c, (X c).K = K) (h : ∀ c, PTsD (X c) W e t) : ∃ te, (∀ c, PTs (X c) e te) ∧ SemT K W te t := by
  have h' : ∀ c, ∃ te, PTs (X c) e te ∧ SemT K W te t := fun c => by
    have q := (h c).ex
    rw [hK c] at q
    exact q
  refine ⟨fun σ H Q => ∀ c, (Classical.choose (h' c)) σ H Q, fun c => ⟨fun pins s σ H Q I q => (Classical.choose_spec (h' c)).1.run pins s σ H Q I (q c)⟩, ?_⟩
  intro B Hf ρ σ H Q Qd Ed S q hQ hE c
  exact (Classical.choose_spec (h' c)).2 B Hf ρ σ H Q Qd Ed S q hQ hE
abbrev BlkI := Shared × Hp × Addr × List (Str × Addr) × List Addr
abbrev blkX (X : Cx) (scope : Scope) (c : BlkI) : Cx := X.blk c.1 c.2.1 scope (compEnvC scope c.2.2.2.1 c.2.2.1 X.env) c.2.2.2.2
theorem pd_lc {elt : Expr} {ifs : List Expr} {scope : Scope} {own : List (Str × Nat)} {src : DI} {gd : DG} {td : DT} {ed : DE} {ix : List Nat} (hc : X.calm = true) (hN : X.N.Nodup) (hi : PID X W tg iter src) (ok : BlkOk X.N X.env.scope scope own)
    (hg : ∀ c : BlkI, PGD (blkX X scope c) tg gd ix) (ht : ∀ c : BlkI, PTsD (blkX X scope c) W0 ifs td) (he : ∀ c : BlkI, PD (blkX X scope c) W0 elt ed) (hv : ∀ i ∈ ix, i ∈ own.map (·.2) := by decide)
    (hs : ∀ x, foldedSetIterable iter X.env x = pure x := by intro _; rfl) : PD X W (.ListComp elt [⟨tg, iter, ifs, 0⟩] scope pos) (eLc src gd td ed (own.map (·.2))) := by
  obtain ⟨wi, p1, s1⟩ := hi
  obtain ⟨g, p2, s2⟩ := pg_all (K := X.K) (X := blkX X scope) (fun _ => rfl) hg
  obtain ⟨tt, p3, s3⟩ := pts_all (K := X.K) (X := blkX X scope) (fun _ => rfl) ht
  obtain ⟨te, p4, s4⟩ := pe_all (K := X.K) (X := blkX X scope) (fun _ => rfl) he
  exact ⟨_, pe_lc hc hN p1 ok (fun s H C cl fp => p2 (s, H, C, cl, fp)) (fun s H C cl fp => p3 (s, H, C, cl, fp)) (fun s H C cl fp => p4 (s, H, C, cl, fp)) hs, sem_lc s1 s2 s3 s4 hv⟩
theorem psd_setLc (i : Nat) {y : Str} {py spos : Pos} {elt : Expr} {ifs : List Expr} {scope : Scope} {own : List (Str × Nat)} {src : DI} {gd : DG} {td : DT} {ed : DE} {ix : List Nat} (hc : X.calm = true) (hN : X.N.Nodup) (hi : PID X W tg iter src) (ok : BlkOk X.N X.env.scope scope own)
    (hg : ∀ c : BlkI, PGD (blkX X scope c) tg gd ix) (ht : ∀ c : BlkI, PTsD (blkX X scope c) W0 ifs td) (he : ∀ c : BlkI, PD (blkX X scope c) W0 elt ed)
    (hsw : swapsWith (.ListComp elt [⟨tg, iter, ifs, 0⟩] scope pos) (some (.Name y py)) spos.line X.env = pure true) (hy : X.N[i]? = some y := by rfl) (hyl : X.env.scope.names.lookup y = some .local := by rfl) (hv : ∀ i ∈ ix, i ∈ own.map (·.2) := by decide)
    (hs : ∀ x, foldedSetIterable iter X.env x = pure x := by intro _; rfl) : PSD X W (.Assign [.Name y py] (.ListComp elt [⟨tg, iter, ifs, 0⟩] scope pos) spos) (sSet i (eLc src gd td ed (own.map (·.2)))) := by
  obtain ⟨wi, p1, s1⟩ := hi
  obtain ⟨g, p2, s2⟩ := pg_all (K := X.K) (X := blkX X scope) (fun _ => rfl) hg
  obtain ⟨tt, p3, s3⟩ := pts_all (K := X.K) (X := blkX X scope) (fun _ => rfl) ht
  obtain ⟨te, p4, s4⟩ := pe_all (K := X.K) (X := blkX X scope) (fun _ => rfl) he
  exact ⟨_, ps_setLc hc hN hy hyl hsw p1 ok (fun s H C cl fp => p2 (s, H, C, cl, fp)) (fun s H C cl fp => p3 (s, H, C, cl, fp)) (fun s H C cl fp => p4 (s, H, C, cl, fp)) hs, sem_set (sem_lc s1 s2 s3 s4 hv)⟩

/-! ### a list or a tuple is walked -/
def iSeqW (K : PySem.W.Frag) (tl : TE) : TI := fun σ H R => tl σ H fun x H1 => ∃ a, x = .ref a ∧ (((∃ xs, SqL K H1 a xs) ∧ R (Itl K a) H1) ∨ ((∃ xs, SqT K H1 a xs) ∧ R (Itt K a) H1))
theorem pi_seqW {l : Expr} {tl : TE} (hl : PE X l tl) : PI X tg l (iSeqW X.K tl) := by
  refine ⟨fun pins s σ H R I h => ?_⟩
  refine thn (hl.run pins s σ H _ I h) fun v s1 hh => ?_
  obtain ⟨x, H1, I1, r1, a, rfl, q1⟩ := hh
  cases r1
  rcases q1 with ⟨⟨xs, hq⟩, q⟩ | ⟨⟨xs, hq⟩, q⟩
  · obtain ⟨its, rv, p, hz⟩ := I1.list hq
    refine wpAny_pyIter_list p.isList ⟨s1.heap.objs.size, [s1.heap.objs.size], _, _, H1, rfl, I1.kept (t' := s1.toks) fun b o e => Heap.get?_push_of_some _ e, turn_list a _, ⟨_, Heap.get?_push_size _ rfl, rfl, rfl⟩, fun b hb => ?_, q⟩
    rw [show b = s1.heap.objs.size by simpa using hb]
    exact I1.fpOk (Nat.le_refl _) (I1.hok.fresh (Nat.le_refl _))
  · obtain ⟨its, rv, p, hz⟩ := I1.tuple hq
    refine wpAny_pyIter_tuple (show s1.heap.IsTuple a its.toArray from p) ⟨s1.heap.objs.size, [s1.heap.objs.size], _, _, H1, rfl, I1.kept (t' := s1.toks) fun b o e => Heap.get?_push_of_some _ e, turn_tuple a _, ⟨_, Heap.get?_push_size _ rfl, rfl, rfl⟩, fun b hb => ?_, q⟩
    rw [show b = s1.heap.objs.size by simpa using hb]
    exact I1.fpOk (Nat.le_refl _) (I1.hok.fresh (Nat.le_refl _))
abbrev iSeq (te : DE) : DI := fun ρ R E => te ρ (fun r ρ1 => match r with
  | .sc ns => R (ns.map .int) ρ1 ∧ ns.length ≤ sizeLine
  | r => frz r ρ1 fun d ρ2 => match d with
    | .list ds => R ds ρ2
    | .tuple ds => R ds ρ2
    | _ => False) E
theorem iter_list {K : PySem.W.Frag} {Hf : Hp} {a : Addr} {vs : List V} {ds : List D} (h : SqL K Hf a vs) (r : Reps K Hf vs ds) : IterOk K Hf (Itl K a) ds := by
  refine ⟨_, _, by rw [← r.length]; exact walk_list (K := K) (a := a) (xs := vs), fun H e => e.seq h, fun i H v H' hi e y => ?_⟩
  obtain ⟨rfl, y⟩ := y
  obtain ⟨d, e1, rd⟩ := r.get y
  exact ⟨d, e1, .inl ⟨rfl, rd⟩⟩
theorem iter_tup {K : PySem.W.Frag} {Hf : Hp} {a : Addr} {vs : List V} {ds : List D} (h : SqT K Hf a vs) (r : Reps K Hf vs ds) : IterOk K Hf (Itt K a) ds := by
  refine ⟨_, _, by rw [← r.length]; exact walk_tup (K := K) (a := a) (xs := vs), fun H e => sqT_same e h, fun i H v H' hi e y => ?_⟩
  obtain ⟨rfl, y⟩ := y
  obtain ⟨d, e1, rd⟩ := r.get y
  exact ⟨d, e1, .inl ⟨rfl, rd⟩⟩
theorem pid_seq {te : DE} (he : PD X W iter te) : PID X W tg iter (iSeq te) := by
  obtain ⟨t, p, s⟩ := he
  refine ⟨_, pi_seqW p, ?_⟩
  intro B Hf ρ σ H R Rd Ed S h hR hE
  refine s B Hf ρ σ H _ _ Ed S h (fun r ρ1 H1 v q e => ?_) hE
  have other : (∃ Hf1 d ρ2, SO X.K B Hf1 ρ2 σ H1 ∧ Rep X.K Hf1 v d ∧ match d with | .list ds => Rd ds ρ2 | .tuple ds => Rd ds ρ2 | _ => False) → ∃ a, v = .ref a ∧ (((∃ xs, SqL X.K H1 a xs) ∧ R (Itl X.K a) H1) ∨ ((∃ xs, SqT X.K H1 a xs) ∧ R (Itt X.K a) H1)) := by
    rintro ⟨Hf1, d, ρ2, S1, rv, q⟩
    cases rv with
    | lst h r z => exact ⟨_, rfl, .inl ⟨⟨_, SqL.of (S1.sub _ _ h)⟩, hR _ ρ2 H1 Hf1 _ q S1 (iter_list (SqL.of h) r) z⟩⟩
    | tup h r z => exact ⟨_, rfl, .inr ⟨⟨_, sqT_same S1.sub h⟩, hR _ ρ2 H1 Hf1 _ q S1 (iter_tup h r) z⟩⟩
    | _ => exact q.elim
  cases r with
  | sc ns =>
    obtain ⟨Hf1, a, S1, rfl, h1⟩ := e
    exact ⟨a, rfl, .inl ⟨⟨_, S1.sub.seq h1⟩, hR _ ρ1 H1 Hf1 _ q.1 S1 (iter_list h1 (Reps.ofInts ns)) (by rw [List.length_map]; exact q.2)⟩⟩
  | fz d => exact other (e.frz q)
  | ow c => exact other (e.frz q)
  | bw i => exact other (e.frz q)

/-! ### range -/
def rgD (lo c : Int) (n : Nat) : List D := (List.range n).map fun i => .int (lo + (i : Nat) * c)
theorem rgD_len (lo c : Int) (n : Nat) : (rgD lo c n).length = n := by simp [rgD]
theorem rgD_get {lo c : Int} {n i : Nat} (h : i < n) : (rgD lo c n)[i]? = some (.int (lo + (i : Nat) * c)) := by simp [rgD, h]
theorem iter_range {K : PySem.W.Frag} {Hf : Hp} {lo : Int} {n : Nat} : IterOk K Hf (Itr lo n) (rgD lo 1 n) := by
  refine ⟨_, _, by rw [rgD_len]; exact walk_range (lo := lo) (n := n), fun _ _ => trivial, fun i H v H' hi e y => ?_⟩
  obtain ⟨rfl, rfl⟩ := y
  rw [rgD_len] at hi
  exact ⟨_, rgD_get hi, .inl ⟨rfl, by rw [Int.mul_one]; exact .int _⟩⟩
theorem iter_rangeC {K : PySem.W.Frag} {Hf : Hp} {lo c : Int} {n : Nat} : IterOk K Hf (Itc lo c n) (rgD lo c n) := by
  refine ⟨_, _, by rw [rgD_len]; exact walk_rangeC (lo := lo) (c := c) (n := n), fun _ _ => trivial, fun i H v H' hi e y => ?_⟩
  obtain ⟨rfl, rfl⟩ := y
  rw [rgD_len] at hi
  exact ⟨_, rgD_get hi, .inl ⟨rfl, .int _⟩⟩
/-- range(j), range(i, j), range(i, j, -1): at most sizeLine turns -/
abbrev rgK : List SD → (List D → Prop) → Prop
  | [.d (.int j)], R => (-(2305843009213693952 : Int) ≤ j ∧ j ≤ 16777216) ∧ R (rgD 0 1 j.toNat)
  | [.d (.int i), .d (.int j)], R => (-(2305843009213693952 : Int) ≤ i ∧ i ≤ 2305843009213693952 ∧ j - i ≤ 16777216 ∧ -(2305843009213693952 : Int) ≤ j ∧ j ≤ 2305843009213693952) ∧ R (rgD i 1 (j - i).toNat)
  | [.d (.int i), .d (.int j), .d (.int c)], R => c = -1 ∧ (-(2305843009213693952 : Int) ≤ i ∧ i ≤ 2305843009213693952 ∧ i - j ≤ 16777216 ∧ -(2305843009213693952 : Int) ≤ j ∧ j ≤ 2305843009213693952) ∧ R (rgD i (-1) (i - j).toNat)
  | _, _ => False
abbrev iRg (ta : DA) : DI := fun ρ R E => ta ρ (fun rs ρ1 => match peeks rs ρ1 with
  | some as => rgK as fun ds => R ds ρ1
  | none => False) E
theorem three_of {K : PySem.W.Frag} {Hf H : Hp} {xs : List V} {a b c : SD} (r : Paired (RepS K Hf H) xs [a, b, c]) : ∃ x y z, xs = [x, y, z] ∧ RepS K Hf H x a ∧ RepS K Hf H y b ∧ RepS K Hf H z c := by
  cases r with
  | cons h r =>
    obtain ⟨y, z, rfl, h2, h3⟩ := two_of r
    exact ⟨_, y, z, rfl, h, h2, h3⟩
theorem pid_range1 {a : Expr} {ta : DA} {p : Pos} (hg : Gl X "range") (hm : X.mg "range" = none) (ha : PAD X W [a] ta) (hs : starEach [a] X.env = [(false, eval a X.env)] := by rfl) : PID X W tg (.Call (.Name "range" p) [a] [] pos) (iRg ta) := by
  obtain ⟨t, p1, s⟩ := ha
  refine ⟨_, pi_range1 hg hm p1 hs, ?_⟩
  intro B Hf ρ σ H R Rd Ed S h hR hE
  refine s B Hf ρ σ H _ _ Ed S h (fun rs ρ1 H1 Hf1 vs q S1 h1 hlen => ?_) hE
  simp only [List.length_cons, List.length_nil] at hlen
  cases e : peeks rs ρ1 with
  | none => rw [e] at q; exact q.elim
  | some as =>
    rw [e] at q
    have pr := h1.peeks S1 e
    have l1 := h1.length
    have l2 := pr.length
    have la : as.length = 1 := by omega
    match as, la, pr, q with
    | [.d (.int j)], _, pr, q =>
      obtain ⟨x, rfl, r1⟩ := one_of (P := fun _ _ => True) pr
      obtain ⟨qb, q⟩ := q
      refine ⟨j, by rw [r1.int], by omega, by omega, hR _ ρ1 H1 Hf1 _ q S1 iter_range ?_⟩
      rw [rgD_len, sizeLine_eq]; omega
theorem pid_range2 {a b : Expr} {ta : DA} {p : Pos} (hg : Gl X "range") (hm : X.mg "range" = none) (ha : PAD X W [a, b] ta)
    (hs : starEach [a, b] X.env = [(false, eval a X.env), (false, eval b X.env)] := by rfl) (hs2 : starEach [b] X.env = [(false, eval b X.env)] := by rfl) : PID X W tg (.Call (.Name "range" p) [a, b] [] pos) (iRg ta) := by
  obtain ⟨t, p1, s⟩ := ha
  refine ⟨_, pi_range2 hg hm p1 hs hs2, ?_⟩
  intro B Hf ρ σ H R Rd Ed S h hR hE
  refine s B Hf ρ σ H _ _ Ed S h (fun rs ρ1 H1 Hf1 vs q S1 h1 hlen => ?_) hE
  simp only [List.length_cons, List.length_nil] at hlen
  cases e : peeks rs ρ1 with
  | none => rw [e] at q; exact q.elim
  | some as =>
    rw [e] at q
    have pr := h1.peeks S1 e
    have l1 := h1.length
    have l2 := pr.length
    have la : as.length = 2 := by omega
    match as, la, pr, q with
    | [.d (.int i), .d (.int j)], _, pr, q =>
      obtain ⟨x, y, rfl, r1, r2⟩ := two_of pr
      obtain ⟨qb, q⟩ := q
      refine ⟨i, j, by rw [r1.int, r2.int], ⟨by omega, by omega, by omega, by omega⟩, hR _ ρ1 H1 Hf1 _ q S1 iter_range ?_⟩
      rw [rgD_len, sizeLine_eq]; omega
theorem pid_range3 {a b c : Expr} {ta : DA} {p : Pos} (hg : Gl X "range") (hm : X.mg "range" = none) (ha : PAD X W [a, b, c] ta)
    (hs : starEach [a, b, c] X.env = (false, eval a X.env) :: starEach [b, c] X.env := by rfl) (hpl : (backTo pos (starEach [b, c] X.env)).any (·.1) = false := by rfl) : PID X W tg (.Call (.Name "range" p) [a, b, c] [] pos) (iRg ta) := by
  obtain ⟨t, p1, s⟩ := ha
  refine ⟨_, pi_range3 hg hm p1 hs hpl, ?_⟩
  intro B Hf ρ σ H R Rd Ed S h hR hE
  refine s B Hf ρ σ H _ _ Ed S h (fun rs ρ1 H1 Hf1 vs q S1 h1 hlen => ?_) hE
  simp only [List.length_cons, List.length_nil] at hlen
  cases e : peeks rs ρ1 with
  | none => rw [e] at q; exact q.elim
  | some as =>
    rw [e] at q
    have pr := h1.peeks S1 e
    have l1 := h1.length
    have l2 := pr.length
    have la : as.length = 3 := by omega
    match as, la, pr, q with
    | [.d (.int i), .d (.int j), .d (.int c)], _, pr, q =>
      obtain ⟨x, y, z, rfl, r1, r2, r3⟩ := three_of pr
      obtain ⟨rfl, q1, q⟩ := q
      refine ⟨i, j, -1, (i - j).toNat, by rw [r1.int, r2.int, r3.int], RgC.neg (by omega) (by omega) (by omega) (by omega), hR _ ρ1 H1 Hf1 _ q S1 iter_rangeC ?_⟩
      rw [rgD_len, sizeLine_eq]; omega
end
end DL
set_option Elab.async false
set_option linter.all false
set_option maxRecDepth 100000
set_option maxHeartbeats 1000000
/-! DLg: slices, isinstance, stores, methods, keywords, raise, try, the law's end. -/
namespace DL
open PySem PySem.Spec PyProof.Rows L2
section
variable {X : Cx} {W : WX} {pos : Pos}

/-! ### slices -/
abbrev DO := List Sl → (Option Int → List Sl → Prop) → XD → Prop
def SemO (K : PySem.W.Frag) (W : WX) (to : TO) (t : DO) : Prop := ∀ B Hf ρ σ H (Q : Option Int → Hp → Prop) Qd Ed, SO K B Hf ρ σ H → t ρ Qd Ed → (∀ o ρ' H' Hf', Qd o ρ' → SO K B Hf' ρ' σ H' → Q o H') → XL K B W Ed → to σ H Q
structure POD (X : Cx) (W : WX) (e : Option Expr) (t : DO) : Prop where
  ex : ∃ to, PO X e to ∧ SemO X.K W to t
abbrev oNone : DO := fun ρ Q _ => Q none ρ
abbrev oSome (te : DE) : DO := fun ρ Q E => te ρ (fun r ρ1 => match peek (stl r) ρ1 with
  | some (.d (.int i)) => Q (some i) ρ1
  | _ => False) E
theorem pod_none : POD X W none oNone := ⟨_, po_none, fun B Hf ρ σ H Q Qd Ed S h hQ hE => hQ _ _ _ _ h S⟩
theorem pod_some {e : Expr} {te : DE} (he : PD X W e te) : POD X W (some e) (oSome te) := by
  obtain ⟨t, p, s⟩ := he
  refine ⟨_, po_some p, ?_⟩
  intro B Hf ρ σ H Q Qd Ed S h hQ hE
  refine s B Hf ρ σ H _ _ Ed S h (fun r1 ρ1 H1 v1 q1 e1 => ?_) hE
  obtain ⟨Hf1, S1, h1⟩ := e1.settle
  cases p : peek (stl r1) ρ1 with
  | none => rw [p] at q1; exact q1.elim
  | some a =>
    rw [p] at q1
    have R := h1.peek S1 p
    cases a with
    | sc ns => exact q1.elim
    | d d =>
      cases d with
      | int i => exact ⟨i, R.int, hQ _ ρ1 H1 Hf1 q1 S1⟩
      | _ => exact q1.elim
def cutA {α : Type} (xs : List α) (lo hi : Option Int) : List α := (xs.drop (HT.sIx xs.length 0 lo)).take (HT.sIx xs.length xs.length hi - HT.sIx xs.length 0 lo)
theorem cutA_le {α : Type} (xs : List α) (lo hi : Option Int) : (cutA xs lo hi).length ≤ xs.length := by
  unfold cutA
  rw [List.length_take, List.length_drop]
  omega
theorem Reps.cut {K : PySem.W.Frag} {H : Hp} {vs : List V} {ds : List D} (r : Reps K H vs ds) (lo hi : Option Int) : Reps K H (cutV vs lo hi) (cutA ds lo hi) := by
  unfold cutV cutA
  rw [r.length]
  exact (r.drop _).take _
abbrev dSl : SD → Option Int → Option Int → (VR → Prop) → Prop
  | .d (.list ds), lo, hi, Q => Q (.ow (.l (cutA ds lo hi)))
  | .d (.tuple ds), lo, hi, Q => Q (.fz (.tuple (cutA ds lo hi)))
  | .sc ns, lo, hi, Q => ns.length ≤ sizeLine ∧ Q (.ow (.l ((cutA ns lo hi).map .int)))
  | .d (.str x), lo, hi, Q => x.length ≤ sizeLine ∧ Q (.fz (.str (cutS x lo hi)))
  | _, _, _, _ => False
abbrev eSl (te : DE) (tl th : DO) : DE := fun ρ Q E => te ρ (fun x ρ1 => tl ρ1 (fun l ρ2 => th ρ2 (fun u ρ3 => match peek (stl x) ρ3 with
  | some a => dSl a l u fun z => Q z ρ3
  | none => False) E) E) E
theorem cut_whole {α : Type} {xs : List α} {lo hi : Option Int} (h : HT.sIx xs.length 0 lo = 0 ∧ HT.sIx xs.length xs.length hi = xs.length) : cutA xs lo hi = xs := by
  unfold cutA
  rw [h.1, h.2]
  simp
def rSlX3 (K : PySem.W.Frag) : V → Option Int → Option Int → Hp → VK → Prop := fun x lo hi H Q => rSlL K x lo hi H Q ∨ rSlA K x lo hi H Q ∨ rSlS x lo hi H Q
theorem pd_slice {e : Expr} {lo hi : Option Expr} {te : DE} {tl th : DO} {p2 : Pos} (he : PD X W e te) (hl : POD X W lo tl) (hh : POD X W hi th) : PD X W (.Subscript e (.Slice lo hi none p2) pos) (eSl te tl th) := by
  obtain ⟨t1, p1, s1⟩ := he
  obtain ⟨t2, p2, s2⟩ := hl
  obtain ⟨t3, p3, s3⟩ := hh
  refine ⟨_, pe_slice (r := rSlX3 X.K) (SlR.or sl_list (SlR.or sl_tupA sl_str)) p1 p2 p3, ?_⟩
  intro B Hf ρ σ H Q Qd Ed S h hQ hE
  refine s1 B Hf ρ σ H _ _ Ed S h (fun r1 ρ1 H1 v1 q1 e1 => ?_) hE
  obtain ⟨Hf1, S1, h1⟩ := e1.settle
  refine s2 (B.up Hf1) Hf1 ρ1 σ H1 _ _ Ed S1.raise q1 (fun l ρ2 H2 Hf2 q2 S2 => ?_) (hE.up S1.up)
  refine s3 (B.up Hf1) Hf2 ρ2 σ H2 _ _ Ed S2 q2 (fun u ρ3 H3 Hf3 q3 S3 => ?_) (hE.up S1.up)
  have S4 := S3.base S1.up
  cases p : peek (stl r1) ρ3 with
  | none => rw [p] at q3; exact q3.elim
  | some a =>
    rw [p] at q3
    have R := (h1.mono S3.up).peek S4 p
    cases a with
    | sc ns =>
      obtain ⟨a, rfl, h⟩ := R
      refine .inl ⟨a, _, rfl, h, fun p hp => hQ _ ρ3 _ _ q3.2 ⟨Hf3, S4.allocL hp ?_ ?_⟩⟩
      · have := (Reps.ofInts (K := X.K) (H := Hf3) ns).cut l u
        have e : cutA (ns.map PyData.int) l u = (cutA ns l u).map .int := by unfold cutA; rw [List.length_map, List.map_take, List.map_drop]
        rw [e] at this; exact this
      · have := cutA_le ns l u
        have hz := q3.1
        rw [List.length_map]; omega
    | d d =>
      cases d with
      | list ds =>
        obtain ⟨a, vs, rfl, h, r, z⟩ := R
        have := cutA_le ds l u
        exact .inl ⟨a, vs, rfl, SqL.of h, fun p hp => hQ _ ρ3 _ _ q3 ⟨Hf3, S4.allocL hp (r.cut l u) (by omega)⟩⟩
      | tuple ds =>
        obtain ⟨a, vs, rfl, h, r, z⟩ := R.tup
        have := cutA_le ds l u
        refine .inr (.inl ⟨a, vs, rfl, sqT_same S4.sub h, fun w => ?_, fun w p hp => ?_⟩)
        · rw [r.length] at w
          have q3 : Qd (.fz (.tuple (cutA ds l u))) ρ3 := q3
          rw [cut_whole w] at q3
          exact hQ _ ρ3 _ _ q3 ⟨Hf3, S4, .tup h r z⟩
        · exact hQ _ ρ3 _ _ q3 ⟨_, S4.alloc hp _, .tup (SqT.of upd_same) ((r.cut l u).same (same_upd (S4.sub.free hp))) (by omega)⟩
      | str x => exact .inr (.inr ⟨x, R.str, q3.1, hQ _ ρ3 _ _ q3.2 ⟨Hf3, S4, .str _⟩⟩)
      | _ => exact q3.elim

/-! ### isinstance of data -/
def tyD : D → String
  | .none => "NoneType" | .bool _ => "bool" | .int _ => "int" | .str _ => "str" | .list _ => "list" | .tuple _ => "tuple" | .dict _ => "dict"
abbrev isInt : D → Bool | .int _ => true | .bool _ => true | _ => false
abbrev isBool : D → Bool | .bool _ => true | _ => false
abbrev isStr : D → Bool | .str _ => true | _ => false
abbrev isList : D → Bool | .list _ => true | _ => false
abbrev isTuple : D → Bool | .tuple _ => true | _ => false
/-- an exception object's class is asked of the built-in types: never one of these -/
def ExcNo (K : PySem.W.Frag) (C : Addr) (T : String) : Prop := ExcC K C ∧ PySem.W.kitOne K (.ref C) (.type T) = some false
theorem kt_int : (["NoneType", "bool", "int", "str", "list", "tuple"].all fun a => kitB a "int" == some (a == "int" || a == "bool")) = true := by decide +kernel
theorem is_int : ∀ d : D, (∀ k, d ≠ .dict k) → kitB (tyD d) "int" = some (isInt d)
  | .none, _ => (eq_of_beq (List.all_eq_true.mp kt_int "NoneType" (by decide))).trans (congrArg some (by decide : (("NoneType" : String) == "int" || ("NoneType" : String) == "bool") = false))
  | .bool _, _ => (eq_of_beq (List.all_eq_true.mp kt_int "bool" (by decide))).trans (congrArg some (by decide : (("bool" : String) == "int" || ("bool" : String) == "bool") = true))
  | .int _, _ => (eq_of_beq (List.all_eq_true.mp kt_int "int" (by decide))).trans (congrArg some (by decide : (("int" : String) == "int" || ("int" : String) == "bool") = true))
  | .str _, _ => (eq_of_beq (List.all_eq_true.mp kt_int "str" (by decide))).trans (congrArg some (by decide : (("str" : String) == "int" || ("str" : String) == "bool") = false))
  | .list _, _ => (eq_of_beq (List.all_eq_true.mp kt_int "list" (by decide))).trans (congrArg some (by decide : (("list" : String) == "int" || ("list" : String) == "bool") = false))
  | .tuple _, _ => (eq_of_beq (List.all_eq_true.mp kt_int "tuple" (by decide))).trans (congrArg some (by decide : (("tuple" : String) == "int" || ("tuple" : String) == "bool") = false))
  | .dict k, h => absurd rfl (h k)
theorem kt_bool : (["NoneType", "bool", "int", "str", "list", "tuple"].all fun a => kitB a "bool" == some (a == "bool")) = true := by decide +kernel
theorem is_bool : ∀ d : D, (∀ k, d ≠ .dict k) → kitB (tyD d) "bool" = some (isBool d)
  | .none, _ => (eq_of_beq (List.all_eq_true.mp kt_bool "NoneType" (by decide))).trans (congrArg some (by decide : (("NoneType" : String) == "bool") = false))
  | .bool _, _ => (eq_of_beq (List.all_eq_true.mp kt_bool "bool" (by decide))).trans (congrArg some (by decide : (("bool" : String) == "bool") = true))
  | .int _, _ => (eq_of_beq (List.all_eq_true.mp kt_bool "int" (by decide))).trans (congrArg some (by decide : (("int" : String) == "bool") = false))
  | .str _, _ => (eq_of_beq (List.all_eq_true.mp kt_bool "str" (by decide))).trans (congrArg some (by decide : (("str" : String) == "bool") = false))
  | .list _, _ => (eq_of_beq (List.all_eq_true.mp kt_bool "list" (by decide))).trans (congrArg some (by decide : (("list" : String) == "bool") = false))
  | .tuple _, _ => (eq_of_beq (List.all_eq_true.mp kt_bool "tuple" (by decide))).trans (congrArg some (by decide : (("tuple" : String) == "bool") = false))
  | .dict k, h => absurd rfl (h k)
theorem kt_str : (["NoneType", "bool", "int", "str", "list", "tuple"].all fun a => kitB a "str" == some (a == "str")) = true := by decide +kernel
theorem is_str : ∀ d : D, (∀ k, d ≠ .dict k) → kitB (tyD d) "str" = some (isStr d)
  | .none, _ => (eq_of_beq (List.all_eq_true.mp kt_str "NoneType" (by decide))).trans (congrArg some (by decide : (("NoneType" : String) == "str") = false))
  | .bool _, _ => (eq_of_beq (List.all_eq_true.mp kt_str "bool" (by decide))).trans (congrArg some (by decide : (("bool" : String) == "str") = false))
  | .int _, _ => (eq_of_beq (List.all_eq_true.mp kt_str "int" (by decide))).trans (congrArg some (by decide : (("int" : String) == "str") = false))
  | .str _, _ => (eq_of_beq (List.all_eq_true.mp kt_str "str" (by decide))).trans (congrArg some (by decide : (("str" : String) == "str") = true))
  | .list _, _ => (eq_of_beq (List.all_eq_true.mp kt_str "list" (by decide))).trans (congrArg some (by decide : (("list" : String) == "str") = false))
  | .tuple _, _ => (eq_of_beq (List.all_eq_true.mp kt_str "tuple" (by decide))).trans (congrArg some (by decide : (("tuple" : String) == "str") = false))
  | .dict k, h => absurd rfl (h k)
theorem kt_list : (["NoneType", "bool", "int", "str", "list", "tuple"].all fun a => kitB a "list" == some (a == "list")) = true := by decide +kernel
theorem is_list : ∀ d : D, (∀ k, d ≠ .dict k) → kitB (tyD d) "list" = some (isList d)
  | .none, _ => (eq_of_beq (List.all_eq_true.mp kt_list "NoneType" (by decide))).trans (congrArg some (by decide : (("NoneType" : String) == "list") = false))
  | .bool _, _ => (eq_of_beq (List.all_eq_true.mp kt_list "bool" (by decide))).trans (congrArg some (by decide : (("bool" : String) == "list") = false))
  | .int _, _ => (eq_of_beq (List.all_eq_true.mp kt_list "int" (by decide))).trans (congrArg some (by decide : (("int" : String) == "list") = false))
  | .str _, _ => (eq_of_beq (List.all_eq_true.mp kt_list "str" (by decide))).trans (congrArg some (by decide : (("str" : String) == "list") = false))
  | .list _, _ => (eq_of_beq (List.all_eq_true.mp kt_list "list" (by decide))).trans (congrArg some (by decide : (("list" : String) == "list") = true))
  | .tuple _, _ => (eq_of_beq (List.all_eq_true.mp kt_list "tuple" (by decide))).trans (congrArg some (by decide : (("tuple" : String) == "list") = false))
  | .dict k, h => absurd rfl (h k)
theorem kt_tuple : (["NoneType", "bool", "int", "str", "list", "tuple"].all fun a => kitB a "tuple" == some (a == "tuple")) = true := by decide +kernel
theorem is_tuple : ∀ d : D, (∀ k, d ≠ .dict k) → kitB (tyD d) "tuple" = some (isTuple d)
  | .none, _ => (eq_of_beq (List.all_eq_true.mp kt_tuple "NoneType" (by decide))).trans (congrArg some (by decide : (("NoneType" : String) == "tuple") = false))
  | .bool _, _ => (eq_of_beq (List.all_eq_true.mp kt_tuple "bool" (by decide))).trans (congrArg some (by decide : (("bool" : String) == "tuple") = false))
  | .int _, _ => (eq_of_beq (List.all_eq_true.mp kt_tuple "int" (by decide))).trans (congrArg some (by decide : (("int" : String) == "tuple") = false))
  | .str _, _ => (eq_of_beq (List.all_eq_true.mp kt_tuple "str" (by decide))).trans (congrArg some (by decide : (("str" : String) == "tuple") = false))
  | .list _, _ => (eq_of_beq (List.all_eq_true.mp kt_tuple "list" (by decide))).trans (congrArg some (by decide : (("list" : String) == "tuple") = false))
  | .tuple _, _ => (eq_of_beq (List.all_eq_true.mp kt_tuple "tuple" (by decide))).trans (congrArg some (by decide : (("tuple" : String) == "tuple") = true))
  | .dict k, h => absurd rfl (h k)
theorem RepS.ty {K : PySem.W.Frag} {Hf H : Hp} {v : V} {d : D} (e : Same Hf H) (h : RepS K Hf H v (.d d)) (hd : ∀ k, d ≠ .dict k) : TyX K H v (.type (tyD d)) := by
  cases d with
  | none => rw [h.non]; exact .base .non
  | bool b => rw [h.bool]; exact .base (.bl _)
  | int i => rw [h.int]; exact .base (.int _)
  | str x => rw [h.str]; exact .base (.str _)
  | list ds => obtain ⟨a, vs, rfl, h, _⟩ := h; exact .base (.lst h)
  | tuple ds =>
    obtain ⟨a, vs, rfl, h, _⟩ := h.tup
    rcases h with (h | ⟨o, h⟩) | ⟨o, its, n, h1, h2, _⟩
    · exact .base (.tup (e _ _ h))
    · exact .fTuple (e _ _ h)
    · exact .kTuple h1 h2
  | dict k => exact absurd rfl (hd k)
/-- isinstance(x, T), isinstance(x, (T, U)) of data, T and U built-in types; exD: what is answered of exception objects -/
abbrev eIs (f : D → Bool) (ta : DE) : DE := fun ρ Q E => ta ρ (fun r ρ1 => match peek (stl r) ρ1 with
  | some (.d (.dict _)) => False
  | some (.d d) => Q (.fz (.bool (f d))) ρ1
  | _ => False) E
structure IsT (T : String) (f : D → Bool) : Prop where
  h : ∀ d : D, (∀ k, d ≠ .dict k) → kitB (tyD d) T = some (f d)
theorem ist_int : IsT "int" isInt := ⟨is_int⟩
theorem ist_bool : IsT "bool" isBool := ⟨is_bool⟩
theorem ist_str : IsT "str" isStr := ⟨is_str⟩
theorem ist_list : IsT "list" isList := ⟨is_list⟩
theorem ist_tuple : IsT "tuple" isTuple := ⟨is_tuple⟩
theorem eis_of {P : D → Prop} {a : SD} (q : match (some a : Option SD) with | some (.d (.dict _)) => False | some (.d d) => P d | _ => False) : ∃ d, a = .d d ∧ (∀ k, d ≠ .dict k) ∧ P d := by
  cases a with
  | sc _ => exact q.elim
  | d d => cases d with
    | dict k => exact q.elim
    | _ => exact ⟨_, rfl, fun k z => (nomatch z), q⟩
theorem pd_is {y : Str} {p p2 : Pos} {a : Expr} {T : String} {f : D → Bool} {ta : DE} (it : IsT T f) (hg : Gl X "isinstance") (hm : X.mg "isinstance" = none) (hg2 : Gl X y) (hm2 : X.mg y = none) (hv2 : bootBuiltins y = some (.type T)) (ha : PD X W a ta)
    (hn : y ≠ "__name__" := by decide) (hd : (y == ("__debug__" : Str)) = false := by decide)
    (he : starEach [a, .Name y p2] X.env = (false, eval a X.env) :: starEach [.Name y p2] X.env := by rfl) (hpl : (backTo pos (starEach [.Name y p2] X.env)).any (·.1) = false := by rfl) (he2 : starEach [.Name y p2] X.env = (false, eval (.Name y p2) X.env) :: starEach [] X.env := by rfl) :
    PD X W (.Call (.Name "isinstance" p) [a, .Name y p2] [] pos) (eIs f ta) := by
  obtain ⟨t, p1, s⟩ := ha
  refine ⟨_, pe_callB call_isi hg hm PyProof.Rows.boot_isinstance (pa_cons p1 (pa_cons (pe_bltn (v := .ty T) hg2 hm2 hv2 rfl hn hd) pa_nil he2) he) (by decide) (by decide) he hpl, ?_⟩
  intro B Hf ρ σ H Q Qd Ed S h hQ hE
  refine s B Hf ρ σ H _ _ Ed S h (fun r1 ρ1 H1 v1 q1 e1 => ?_) hE
  obtain ⟨Hf1, S1, h1⟩ := e1.settle
  cases pk : peek (stl r1) ρ1 with
  | none => rw [pk] at q1; exact q1.elim
  | some a =>
    rw [pk] at q1
    obtain ⟨d, rfl, hd, q⟩ := eis_of (P := fun d => Qd (.fz (.bool (f d))) ρ1) q1
    exact ⟨v1, .ty T, _, .type T, f d, rfl, .ty T, (h1.peek S1 pk).ty S1.sub hd, kit_ty (it.h d hd), hQ _ ρ1 H1 _ q ⟨Hf1, S1, .bl _⟩⟩
theorem pd_is2 {y z : Str} {p p2 p3 pt : Pos} {x1 : Nat} {a : Expr} {T U : String} {f g : D → Bool} {ta : DE} (it : IsT T f) (iu : IsT U g) (hg : Gl X "isinstance") (hm : X.mg "isinstance" = none) (hg2 : Gl X y) (hm2 : X.mg y = none) (hv2 : bootBuiltins y = some (.type T)) (hg3 : Gl X z) (hm3 : X.mg z = none) (hv3 : bootBuiltins z = some (.type U)) (ha : PD X W a ta)
    (hn : y ≠ "__name__" := by decide) (hd : (y == ("__debug__" : Str)) = false := by decide) (hn3 : z ≠ "__name__" := by decide) (hd3 : (z == ("__debug__" : Str)) = false := by decide)
    (he : starEach [a, .Tuple [.Name y p2, .Name z p3] x1 pt] X.env = (false, eval a X.env) :: starEach [.Tuple [.Name y p2, .Name z p3] x1 pt] X.env := by rfl) (hpl : (backTo pos (starEach [.Tuple [.Name y p2, .Name z p3] x1 pt] X.env)).any (·.1) = false := by rfl)
    (he2 : starEach [.Tuple [.Name y p2, .Name z p3] x1 pt] X.env = (false, eval (.Tuple [.Name y p2, .Name z p3] x1 pt) X.env) :: starEach [] X.env := by rfl)
    (he3 : starEach [.Name y p2, .Name z p3] X.env = (false, eval (.Name y p2) X.env) :: starEach [.Name z p3] X.env := by rfl) (he4 : starEach [.Name z p3] X.env = (false, eval (.Name z p3) X.env) :: starEach [] X.env := by rfl) :
    PD X W (.Call (.Name "isinstance" p) [a, .Tuple [.Name y p2, .Name z p3] x1 pt] [] pos) (eIs (fun d => f d || g d) ta) := by
  obtain ⟨t, p1, s⟩ := ha
  refine ⟨_, pe_callB call_isiT hg hm PyProof.Rows.boot_isinstance (pa_cons p1 (pa_cons (pe_tup (pa_cons (pe_bltn (v := .ty T) hg2 hm2 hv2 rfl hn hd) (pa_cons (pe_bltn (v := .ty U) hg3 hm3 hv3 rfl hn3 hd3) pa_nil he4) he3)) pa_nil he2) he) (by decide) (by decide) he hpl, ?_⟩
  intro B Hf ρ σ H Q Qd Ed S h hQ hE
  refine s B Hf ρ σ H _ _ Ed S h (fun r1 ρ1 H1 v1 q1 e1 => ?_) hE
  obtain ⟨Hf1, S1, h1⟩ := e1.settle
  cases pk : peek (stl r1) ρ1 with
  | none => rw [pk] at q1; exact q1.elim
  | some a =>
    rw [pk] at q1
    obtain ⟨d, rfl, hd, q⟩ := eis_of (P := fun d => Qd (.fz (.bool (f d || g d))) ρ1) q1
    refine ⟨by show 2 ≤ sizeLine; decide, fun p hp => ?_⟩
    have S2 := S1.junk (same_upd (o := .tup [.ty T, .ty U]) hp)
    refine ⟨v1, p, [.ty T, .ty U], _, [.type T, .type U], f d || g d, rfl, upd_same, .cons (.ty T) (.cons (.ty U) .nil), (h1.peek S2 pk).ty S2.sub hd, ?_, hQ _ ρ1 _ _ q ⟨Hf1, S2, .bl _⟩⟩
    refine kitAny_cons (kit_ty (it.h d hd)) (fun e => ?_) (fun e => by rw [e]; rfl)
    refine kitAny_cons (kit_ty (iu.h d hd)) (fun e2 => ?_) (fun e2 => by rw [e, e2]; rfl)
    rw [e, e2]; exact kitAny_nil

/-! ### stores into an owned list, methods of one -/
abbrev conL : Sl → Option (List D)
  | .ow (.l ds) => some ds
  | .pw _ (.l ds) => some ds
  | _ => none
abbrev wrL (s : Sl) (es : List D) : Sl := match s with
  | .pw a _ => .pw a (.l es)
  | _ => .ow (.l es)
theorem SO.wr {K : PySem.W.Frag} {B : Bs} {Hf H : Hp} {ρ : List Sl} {σ : L2.St} {i : Nat} {ds : List D} {v : V} (S : SO K B Hf ρ σ H) (hc : conL (getS ρ i) = some ds) (hv : σ[i]? = some (some v)) : ∃ p vs, v = .ref p ∧ H p = some (.lst vs) ∧ Reps K Hf vs ds ∧ ds.length ≤ sizeLine ∧
    ∀ us es, Reps K Hf us es → es.length ≤ sizeLine → SO K B Hf (setS ρ i (wrL (getS ρ i) es)) σ (upd H p (.lst us)) := by
  generalize hs : getS ρ i = s at hc
  have hn : s ≠ .nil := fun z => by rw [z] at hc; cases hc
  have hi := getS_eq hs hn
  have lt := S.lt hi
  obtain ⟨w, e1, S1⟩ := S.takeSl hi
  rw [hv] at e1; cases e1
  obtain ⟨fp, ⟨v', σ', f1, f2, e2, e3, h1, h2⟩, n1, n2⟩ := S1.sl
  cases e2; subst e3
  have key : ∃ p, v = .ref p ∧ OwnR K Hf H (.l ds) p f1 ∧ ∀ (H' : Hp) (es : List D), OwnR K Hf H' (.l es) p f1 → SlO K Hf H' (wrL s es) (some v) f1 := by
    cases s with
    | ow c =>
      cases c with
      | l ds' =>
        cases hc
        obtain ⟨p, e, q⟩ := h1
        cases e
        exact ⟨p, rfl, q, fun H' es q' => ⟨p, rfl, q'⟩⟩
    | pw a c =>
      cases c with
      | l ds' =>
        cases hc
        obtain ⟨e, q⟩ := h1
        cases e
        exact ⟨a, rfl, q, fun H' es q' => ⟨rfl, q'⟩⟩
    | _ => cases hc
  obtain ⟨p, rfl, ⟨rfl, z, vs, q1, q2⟩, back⟩ := key
  refine ⟨p, vs, rfl, q1, q2, z, fun us es r ze => ?_⟩
  have hp := n2 p (by simp)
  have nd := List.nodup_cons.mp n1
  have ne : ∀ b ∈ f2, b ≠ p := fun b hb e => nd.1 (e ▸ hb)
  have S2 : SO K B Hf (wrL s es :: ρ.set i .nil) (some (.ref p) :: σ) (upd H p (.lst us)) := by
    refine ⟨S1.up, fun b o e => ?_, fun b o e => ?_, [p] ++ f2, ⟨_, _, [p], f2, rfl, rfl, back _ es ⟨rfl, ze, us, upd_same, r⟩, h2.mono (Same.refl _) fun b hb => upd_ne (ne b hb)⟩, n1, n2⟩
    · rw [upd_ne (fun z => by rw [z, hp.1] at e; cases e)]
      exact S1.sub _ _ e
    · rw [upd_ne (fun z => by rw [z, hp.2] at e; cases e)]
      exact S1.fr b o e
  have S3 := S2.putSl (i := i) (by rw [List.getElem?_set_self lt])
  rw [List.set_set, set_self_of hv] at S3
  rw [setS_eq]
  exact S3
/-- xs[k] = e, xs an owned list at a name -/
abbrev sSt (i : Nat) (te ti : DE) : DS := fun D ρ => te ρ (fun r ρ1 => frz r ρ1 fun d ρ2 => (conL (getS ρ2 i)).isSome = true ∧ ti ρ2 (fun r2 ρ3 => match peek (stl r2) ρ3, conL (getS ρ3 i) with
  | some (.d (.int k)), some ds => ∃ j, ixN ds.length k = some j ∧ D.nx (setS ρ3 i (wrL (getS ρ3 i) (ds.set j d)))
  | _, _ => False) D.ex) D.ex
theorem conL_var {K : PySem.W.Frag} {B : Bs} {Hf H : Hp} {ρ : List Sl} {σ : L2.St} {i : Nat} (S : SO K B Hf ρ σ H) (h : (conL (getS ρ i)).isSome = true) : ∃ p, σ[i]? = some (some (.ref p)) := by
  generalize hs : getS ρ i = s at h
  have hn : s ≠ .nil := fun z => by rw [z] at h; cases h
  obtain ⟨w, fp, e, q⟩ := S.get (getS_eq hs hn)
  cases s with
  | ow c => obtain ⟨a, e2, _⟩ := q; subst e2; exact ⟨a, e⟩
  | pw a c => obtain ⟨e2, _⟩ := q; subst e2; exact ⟨a, e⟩
  | _ => cases h
theorem psd_st (i : Nat) {x : Str} {e ie : Expr} {te ti : DE} {p1 p2 : Pos} (he : PD X W e te) (hi : PD X W ie ti) (hN : X.N[i]? = some x := by rfl) (hv : Vis X.env.scope x := by first | exact Or.inl rfl | exact Or.inr (Or.inl rfl) | exact Or.inr (Or.inr rfl))
    (ha : ∀ v, assign (.Subscript (.Name x p1) ie p2) X.env v = (do
      let ov ← holding [v] (eval (.Name x p1) X.env)
      let iv ← holding [v, ov] (eval ie X.env)
      standAt p2
      holding [v, ov, iv] (setItem ov iv v)
      release [v, ov, iv] []) := by intro _; rfl)
    (hs : swapsWithSole [.Subscript (.Name x p1) ie p2] e pos.line X.env = pure false := by rfl) (hw : swappedStores [.Subscript (.Name x p1) ie p2] e X.env = pure none := by rfl)
    (h1 : (assignEach [.Subscript (.Name x p1) ie p2] X.env).map (·.2) = [assign (.Subscript (.Name x p1) ie p2) X.env] := by rfl)
    (hd : (x == ("__debug__" : Str)) = false := by decide) (hcd : (x == ("__classdict__" : Str)) = false := by decide) : PSD X W (.Assign [.Subscript (.Name x p1) ie p2] e pos) (sSt i te ti) := by
  obtain ⟨t, p, s⟩ := he
  obtain ⟨t2, q2, s2⟩ := hi
  refine ⟨_, ps_asg p (pg_sub (pv i hN hv hd hcd) q2 set_list ha) hs hw h1, ?_⟩
  intro B Hf ρ σ H D D' S L h
  refine s B Hf ρ σ H _ _ _ S h (fun r ρ' H' v q e => ?_) L.ex
  obtain ⟨Hf', d, ρ2, S2, rv, hc, q⟩ := e.frz q
  obtain ⟨pp, hp⟩ := conL_var S2 hc
  refine ⟨_, hp, ?_⟩
  refine s2 (B.up Hf') Hf' ρ2 σ H' _ _ _ S2.raise q (fun r2 ρ3 H3 v3 q3 e3 => ?_) (L.ex.up S2.up)
  obtain ⟨Hf3, S3, h3⟩ := e3.settle
  cases pk : peek (stl r2) ρ3 with
  | none => rw [pk] at q3; exact q3.elim
  | some a =>
    cases ck : conL (getS ρ3 i) with
    | none => rw [pk, ck] at q3; cases a with | sc _ => exact q3.elim | d d => cases d <;> exact q3.elim
    | some ds =>
      rw [pk, ck] at q3
      cases a with
      | sc _ => exact q3.elim
      | d d0 =>
        cases d0 with
        | int k =>
          obtain ⟨j, hj, q3⟩ := q3
          obtain ⟨p3, vs, e4, w1, w2, w3, w4⟩ := S3.wr ck hp
          cases e4
          refine ⟨pp, vs, k, j, rfl, (h3.peek S3 pk).int, w1, by rw [w2.length]; exact hj, ?_⟩
          exact L.nx _ _ _ _ q3 ((w4 (vs.set j v) (ds.set j d) (w2.set (rv.same S3.up) j) (by rw [List.length_set]; exact w3)).base S2.up)
        | _ => exact q3.elim

abbrev OpM := List D → List D → (D → List D → Prop) → Prop
def ConnM (r : V → List V → Hp → VK → Prop) (op : OpM) : Prop := ∀ (K : PySem.W.Frag) (Hf H : Hp) (p : Addr) (vs : List V) (ds : List D) (xs : List V) (args : List D) (Q : VK) (P : D → List D → Prop), H p = some (.lst vs) → Reps K Hf vs ds → ds.length ≤ sizeLine → Reps K Hf xs args → op ds args P → Same Hf H →
  (∀ res es v us, P res es → Rep K Hf v res → Reps K Hf us es → es.length ≤ sizeLine → Q v (upd H p (.lst us))) → r (.ref p) xs H Q
abbrev eMt (i : Nat) (op : OpM) (ta : DF) : DE := fun ρ Q E => (conL (getS ρ i)).isSome = true ∧ ta ρ (fun args ρ1 => match conL (getS ρ1 i) with
  | some ds => op ds args fun res es => Q (.fz res) (setS ρ1 i (wrL (getS ρ1 i) es))
  | none => False) E
theorem tyv_list {K : PySem.W.Frag} {B : Bs} {Hf H : Hp} {ρ : List Sl} {σ : L2.St} {i : Nat} {p : Addr} (S : SO K B Hf ρ σ H) (h : (conL (getS ρ i)).isSome = true) (hp : σ[i]? = some (some (.ref p))) : tyV K "list" (.ref p) H := by
  cases ck : conL (getS ρ i) with
  | none => rw [ck] at h; cases h
  | some ds =>
    obtain ⟨p', vs, e, w1, _⟩ := S.wr ck hp
    cases e
    exact .inl ⟨rfl, vs, SqL.of w1⟩
theorem pd_mt (i : Nat) {x name : Str} {id : String} {r : V → List V → Hp → VK → Prop} {op : OpM} {e : Expr} {es : List Expr} {ta : DF} {px apos : Pos} (hm : MtR X id r) (c : ConnM r op) (slot : Slot "list" name id) (hty : typeOf (.builtin id) = pure (.type "method_descriptor")) (ha : PFD X W (e :: es) ta)
    (hN : X.N[i]? = some x := by rfl) (hv : Vis X.env.scope x := by first | exact Or.inl rfl | exact Or.inr (Or.inl rfl) | exact Or.inr (Or.inr rfl))
    (hbase : attributeBase (.Name x px) name X.env (eval (.Name x px) X.env) = eval (.Name x px) X.env := by rfl)
    (hfew : ((backTo pos (starEach (e :: es) X.env)).all (fun x => !x.1) && (backToKw pos (keywordEach [] X.env)).all (fun x => x.1.isSome)
      && decide ((e :: es).length + ([] : List Keyword).length + (if ([] : List Keyword).isEmpty then 0 else 1) < 30)) = true := by rfl)
    (hline : (apos.endLine == pos.line) = true := by rfl) (hs : starEach (e :: es) X.env = (false, eval e X.env) :: starEach es X.env := by rfl) (hplain : (backTo pos (starEach es X.env)).any (·.1) = false := by rfl)
    (hd : (x == ("__debug__" : Str)) = false := by decide) (hcd : (x == ("__classdict__" : Str)) = false := by decide) : PD X W (.Call (.Attribute (.Name x px) name apos) (e :: es) [] pos) (eMt i op ta) := by
  obtain ⟨t, p, s⟩ := ha
  refine ⟨_, pe_bm PySem.F.plainAttrs_list slot hty hm (pv i hN hv hd hcd) p hbase hfew hline hs hplain, ?_⟩
  intro B Hf ρ σ H Q Qd Ed S h hQ hE
  obtain ⟨hc, h⟩ := h
  obtain ⟨pp, hp⟩ := conL_var S hc
  refine ⟨_, hp, tyv_list S hc hp, ?_⟩
  refine s B Hf ρ σ H _ _ _ S h (fun args ρ1 H1 Hf1 xs q S1 r1 _ => ?_) hE
  cases ck : conL (getS ρ1 i) with
  | none => rw [ck] at q; exact q.elim
  | some ds =>
    rw [ck] at q
    obtain ⟨p', vs, e, w1, w2, w3, w4⟩ := S1.wr ck hp
    cases e
    exact c X.K Hf1 H1 pp vs ds xs args Q _ w1 w2 w3 r1 q S1.sub fun res es v us qr rr ru z => hQ _ _ _ _ qr ⟨Hf1, w4 us es ru z, rr⟩
theorem pd_mt0 (i : Nat) {x name : Str} {id : String} {r : V → List V → Hp → VK → Prop} {op : OpM} {px apos : Pos} (hm : MtR X id r) (c : ConnM r op) (slot : Slot "list" name id) (hty : typeOf (.builtin id) = pure (.type "method_descriptor"))
    (hN : X.N[i]? = some x := by rfl) (hv : Vis X.env.scope x := by first | exact Or.inl rfl | exact Or.inr (Or.inl rfl) | exact Or.inr (Or.inr rfl))
    (hbase : attributeBase (.Name x px) name X.env (eval (.Name x px) X.env) = eval (.Name x px) X.env := by rfl) (hline : (apos.endLine == pos.line) = true := by rfl)
    (hd : (x == ("__debug__" : Str)) = false := by decide) (hcd : (x == ("__classdict__" : Str)) = false := by decide) : PD X W (.Call (.Attribute (.Name x px) name apos) [] [] pos) (eMt i op fNil) := by
  refine ⟨_, pe_bm0 PySem.F.plainAttrs_list slot hty hm (pv i hN hv hd hcd) hbase hline, ?_⟩
  intro B Hf ρ σ H Q Qd Ed S h hQ hE
  obtain ⟨hc, h⟩ := h
  obtain ⟨pp, hp⟩ := conL_var S hc
  refine ⟨_, hp, tyv_list S hc hp, ?_⟩
  have q : match conL (getS ρ i) with | some ds => op ds [] fun res es => Qd (.fz res) (setS ρ i (wrL (getS ρ i) es)) | none => False := h
  cases ck : conL (getS ρ i) with
  | none => rw [ck] at q; exact q.elim
  | some ds =>
    rw [ck] at q
    obtain ⟨p', vs, e, w1, w2, w3, w4⟩ := S.wr ck hp
    cases e
    exact c X.K Hf H pp vs ds [] [] Q _ w1 w2 w3 .nil q S.sub fun res es v us qr rr ru z => hQ _ _ _ _ qr ⟨Hf, w4 us es ru z, rr⟩
abbrev mAppend : OpM := fun ds args P => match args with
  | [d] => ds.length < sizeLine ∧ P .none (ds ++ [d])
  | _ => False
theorem cm_append : ConnM rAppend mAppend := by
  intro K Hf H p vs ds xs args Q P hp r z ra op e k
  match args, ra, op with
  | [d], .cons (v := y) h .nil, op =>
    exact ⟨p, vs, y, rfl, rfl, hp, by rw [r.length]; exact op.1, k _ _ _ _ op.2 .non (r.append (.cons h .nil)) (by rw [List.length_append, List.length_singleton]; exact op.1)⟩
abbrev mPop : OpM := fun ds args P => match args with
  | [] => ∃ d, ds[ds.length - 1]? = some d ∧ P d ds.dropLast
  | _ => False
theorem cm_pop : ConnM rPop mPop := by
  intro K Hf H p vs ds xs args Q P hp r z ra op e k
  match args, ra, op with
  | [], .nil, op =>
    obtain ⟨d, hd, op⟩ := op
    rw [← r.length] at hd
    obtain ⟨y, hy, ry⟩ := r.get' hd
    exact ⟨p, vs, y, rfl, rfl, hp, hy, k _ _ _ _ op ry r.dropLast (by rw [List.length_dropLast]; omega)⟩
abbrev mPopAt : OpM := fun ds args P => match args with
  | [.int i] => -(2 ^ 63) ≤ i ∧ i < 2 ^ 63 ∧ ∃ j d, seqIndex? i ds.length = some j ∧ ds[j]? = some d ∧ P d (ds.eraseIdx j)
  | _ => False
theorem cm_popAt : ConnM rPopAt mPopAt := by
  intro K Hf H p vs ds xs args Q P hp r z ra op e k
  match args, ra, op with
  | [.int i], .cons (v := y) h .nil, op =>
    obtain ⟨b1, b2, j, d, hj, hd, op⟩ := op
    cases h
    obtain ⟨y, hy, ry⟩ := r.get' hd
    exact ⟨p, vs, i, j, y, rfl, rfl, hp, b1, b2, by rw [r.length]; exact hj, hy, k _ _ _ _ op ry (r.eraseIdx j) (Nat.le_trans (len_erase ds j) z)⟩
abbrev mInsert : OpM := fun ds args P => match args with
  | [.int i, d] => ds.length < sizeLine ∧ 0 ≤ i ∧ i < 2 ^ 63 ∧ P .none (ds.take i.toNat ++ [d] ++ ds.drop i.toNat)
  | _ => False
theorem cm_insert : ConnM (fun x vs H Q => ∃ (l : Addr) (xs : List V) (i : Int) (y : V), x = .ref l ∧ vs = [.int i, y] ∧ H l = some (.lst xs) ∧ xs.length < sizeLine ∧ 0 ≤ i ∧ i < 2 ^ 63 ∧
    Q .non (upd H l (.lst (xs.take i.toNat ++ [y] ++ xs.drop i.toNat)))) mInsert := by
  intro K Hf H p vs ds xs args Q P hp r z ra op e k
  match args, ra, op with
  | [.int i, d], .cons h0 (.cons (v := y) h .nil), op =>
    obtain ⟨b0, b1, b2, op⟩ := op
    cases h0
    refine ⟨p, vs, i, y, rfl, rfl, hp, by rw [r.length]; exact b0, b1, b2, k _ _ _ _ op .non (((r.take _).append (.cons h .nil)).append (r.drop _)) ?_⟩
    simp only [List.length_append, List.length_take, List.length_drop, List.length_cons, List.length_nil]
    omega
abbrev mExtend : OpM := fun ds args P => match args with
  | [.list es] => ds.length + es.length ≤ sizeLine ∧ P .none (ds ++ es)
  | _ => False
theorem cm_extend : ConnM rExtend mExtend := by
  intro K Hf H p vs ds xs args Q P hp r z ra op e k
  match args, ra, op with
  | [.list es], .cons (v := y) h .nil, op =>
    cases h with
    | lst h rs z2 => exact ⟨p, _, vs, _, rfl, rfl, hp, e _ _ h, by rw [r.length, rs.length]; exact op.1, k _ _ _ _ op.2 .non (r.append rs) (by rw [List.length_append]; exact op.1)⟩
abbrev mReverse : OpM := fun ds args P => match args with
  | [] => P .none ds.reverse
  | _ => False
theorem cm_reverse : ConnM rReverse mReverse := by
  intro K Hf H p vs ds xs args Q P hp r z ra op e k
  match args, ra, op with
  | [], .nil, op => exact ⟨p, vs, rfl, rfl, hp, k _ _ _ _ op .non r.reverse (by rw [List.length_reverse]; exact z)⟩
end
end DL
set_option Elab.async false
set_option linter.all false
set_option maxRecDepth 100000
set_option maxHeartbeats 1000000
/-! DLh: the text's defs, keywords, raise, try, the law's end. -/
namespace DL
open PySem PySem.Spec PyProof.Rows L2

/-! ### the defs of the text -/
structure Has (K : PySem.W.Frag) (mg : Str → Option Value) (x : Str) (st : Stmt) : Prop where
  ex : ∃ f fd, Fun K x x st f fd ∧ mg x = some (.ref f)
theorem has_mk {K : PySem.W.Frag} {h : Heap} {mg : Str → Option Value} {x : Str} {st : Stmt} {f : Addr} {oc : Value} {od an : Option Addr} {osl : Array (Option Value)} {kV doc pm cdv ct : Value} (X : K.In h) (G : h.Ns mainGlobals mg) (a : PySem.W.nsIn K mainGlobals x = some (some (.ref f)))
    (l : K.lookup f = some ⟨oc, od, .func (PySem.W.fnOf x x (defArgs st) (defBody st) (defScope st) .none kV doc pm an cdv ct), osl⟩) (c : PySem.W.codeIn K cdv x = true) (k : PySem.W.keepIn K (.ref f) = true) : Has K mg x st :=
  ⟨f, _, fun_mk l c k, PySem.W.mg_of X G a⟩
/-- a def that may be called: its promise -/
structure FnC (P : Program) (w : World) (K : PySem.W.Frag) (mg : Str → Option Value) (base : Heap) (k : Nat) (x : Str) (ps : List Str) (st : Stmt) (sp : Spc) : Prop where
  ex : ∃ f fd, Fun K x x st f fd ∧ mg x = some (.ref f) ∧ FnOk P w K mg base (L2.CX P w) k f fd ps (spOf K ps.length sp.fs)
section
variable {P : Program} {w : World} {K : PySem.W.Frag} {mg : Str → Option Value} {base : Heap}
theorem FnC.mono {j k : Nat} {x : Str} {ps : List Str} {st : Stmt} {sp : Spc} (F : FnC P w K mg base j x ps st sp) (h : j ≤ k) : FnC P w K mg base k x ps st sp := let ⟨f, fd, a, b, c⟩ := F; ⟨f, fd, a, b, c.mono h⟩
/-- THE RULE for a def of the text -/
theorem defC {x : Str} {st : Stmt} {N ps : List Str} {k : Nat} (Hs : Has K mg x st) (S : FnScope N ps (defScope st)) (sp : Spc)
    (hbody : ∀ (cdv : Value) (f : Addr) (A : Around) (outer : List Env) (s : Shared) (H : Hp) (E : XK), Room k (A.deeper (envOfC x (defScope st) s.heap.objs.size f cdv)) →
      ∃ t, PBD (cxOf (L2.CX P w) P w K mg base N x (defScope st) f cdv A outer s H E) (fun cls d _ H => E cls d H) (defBody st) t ∧ ∀ as ad, sp.pre as → as.length = ps.length → t (endsOf sp as ad) (startS as ad 0 ++ List.replicate (N.length - ps.length) .nil)) :
    FnC P w K mg base (k + 1) x ps st sp := by
  obtain ⟨f, fd, F, gm⟩ := Hs
  exact ⟨f, fd, F, gm, def_ok F S sp fun cdv A outer s H E hr => hbody cdv f A outer s H E hr⟩
end
section
variable {X : Cx} {W : WX} {pos : Pos}
/-- how the arguments of a text's def bind: by place -/
structure BindP (st : Stmt) (x : Str) (ps : List Str) : Prop where
  h : ∀ (kV doc pm : Value) (an : Option Addr) (cdv ct : Value) (us : List Value), us.length = ps.length → bindArgs (PySem.W.fnOf x x (defArgs st) (defBody st) (defScope st) .none kV doc pm an cdv ct) ⟨us, []⟩ = pure (ps.zip us)
/-- .. by keywords alone, ks in the call's sequence, g puts them in the parameters' -/
structure BindK (st : Stmt) (x : Str) (ps ks : List Str) (pm : List Nat) : Prop where
  h : ∀ (kV doc pmv : Value) (an : Option Addr) (cdv ct : Value) (us : List Value), us.length = ks.length → bindArgs (PySem.W.fnOf x x (defArgs st) (defBody st) (defScope st) .none kV doc pmv an cdv ct) ⟨[], ks.zip us⟩ = pure (ps.zip (pm.filterMap (us[·]?)))
theorem pd_callC {x : Str} {p : Pos} {e : Expr} {es : List Expr} {k j : Nat} {ps : List Str} {st : Stmt} {sp : Spc} {tc : DC} (tk : Takes X W) (F : FnC X.prog X.w X.K X.mg X.base k x ps st sp) (hr : Room j X.A) (hj : k ≤ j) (bp : BindP st x ps) (hg : Gl X x)
    (ha : PCD X W (e :: es) tc) (hl : (e :: es).length = ps.length := by rfl) (hdb : (x == ("__debug__" : Str)) = false := by decide) (he : starEach (e :: es) X.env = (false, eval e X.env) :: starEach es X.env := by rfl) (hpl : (backTo pos (starEach es X.env)).any (·.1) = false := by rfl) :
    PD X W (.Call (.Name x p) (e :: es) [] pos) (eCall sp.fs tc) := by
  obtain ⟨f, fd, F1, gm, F2⟩ := F
  exact pd_call tk F2 (hr.mono hj) hg gm F1.kp (F1.binds bp.h) ha hl hdb he hpl
abbrev permL {α : Type} (pm : List Nat) (l : List α) : List α := pm.filterMap (l[·]?)
theorem paired_perm {α β : Type} {F : α → β → Prop} {as : List α} {bs : List β} (h : Paired F as bs) : ∀ pm : List Nat, Paired F (permL pm as) (permL pm bs)
  | [] => .nil
  | i :: pm => by
    have get : ∀ {as : List α} {bs : List β} {i : Nat}, Paired F as bs → (as[i]? = none ∧ bs[i]? = none) ∨ ∃ a b, as[i]? = some a ∧ bs[i]? = some b ∧ F a b := by
      intro as bs i p
      induction p generalizing i with
      | nil => exact .inl ⟨by simp, by simp⟩
      | @cons a b l1 l2 h t ih =>
        cases i with
        | zero => exact .inr ⟨a, b, rfl, rfl, h⟩
        | succ i => simpa using ih (i := i)
    unfold permL
    rcases get (i := i) h with ⟨e1, e2⟩ | ⟨a, b, e1, e2, q⟩
    · rw [List.filterMap_cons, List.filterMap_cons, e1, e2]
      exact paired_perm h pm
    · rw [List.filterMap_cons, List.filterMap_cons, e1, e2]
      exact .cons q (paired_perm h pm)
/-- f(k = v, ..), every parameter by its name -/
theorem pe_callKw {x : Str} {p : Pos} {kws : List Keyword} {k : Nat} {f : Addr} {fd : FuncData} {ps ks : List Str} {s0 : Sp} {tk : TA} {CX : CXT} {E : L2.St → XK} {pm : List Nat}
    (F : FnOk X.prog X.w X.K X.mg X.base CX k f fd ps s0) (hr : Room k X.A) (hg : Gl X x) (hm : X.mg x = some (.ref f)) (hk : PySem.W.keepIn X.K (.ref f) = true)
    (hb : ∀ (s : Shared) (ws : List Value), ws.length = ks.length → BindsTo s fd ⟨[], ks.zip ws⟩ (ps.zip (permL pm ws))) (hx : ∀ σ, PassesAt CX X σ (E σ))
    (hkw : PK X kws tk) (hall : (backToKw pos (keywordEach kws X.env)).all (·.1.isSome) = true := by rfl) (hks : (backToKw pos (keywordEach kws X.env)).filterMap (·.1) = ks := by rfl) (hdb : (x == ("__debug__" : Str)) = false := by decide)
    (hpl : ((backTo pos (starEach [] X.env)).any (·.1) || (backToKw pos (keywordEach kws X.env)).any (·.1.isNone)) = false := by rfl) :
    PE X (.Call (.Name x p) [] kws pos) (fun σ H Q => tk σ H fun zs H2 => zs.length = ks.length ∧ s0 (permL pm zs) H2 Q (E σ)) := by
  refine ⟨fun pins s σ H Q I h => ?_⟩
  refine wpAny_Call_Name_kw (ld_glob I hg hm ?_ hdb)
  refine PySem.W.callWith_KW0 (h₀ := X.base) I.ok.mod.kin hk hall (thn (hkw.run pos pins s σ H _ I h) fun ws s2 hh => ?_) hpl
  obtain ⟨zs, H2, I2, rz, lz, q2⟩ := hh
  refine ⟨I2.kIn, ?_⟩
  rw [hks]
  have r2 : Vals (permL pm zs) (permL pm ws) := paired_perm rz pm
  have lw := rz.length
  refine wpAny_call (codeAny_mono (F.run X.A X.stack s2 H2 ⟨[], ks.zip ws⟩ (permL pm ws) (permL pm zs) Q (E σ) hr I2.env0 (hb s2 ws (by omega)) r2 q2) fun r s' hq => ?_)
  cases r with
  | error e => exact hx σ pins H2 s2 e s' I2 hq
  | ok fl =>
    cases fl with
    | ret u => exact I2.after hq
    | next => exact False.elim hq
    | brk => exact False.elim hq
    | cont => exact False.elim hq
structure PKD (X : Cx) (W : WX) (kws : List Keyword) (t : DC) : Prop where
  ex : ∃ ta, PK X kws ta ∧ SemC X.K W ta kws.length t
theorem pkd_nil : PKD X W [] cNil := ⟨_, pk_nil, fun B Hf ρ σ H Q Qd Ed S h hQ hE => hQ [] _ _ Hf _ h S .nil rfl⟩
theorem pkd_cons {nm : Option Str} {kpos : Pos} {e : Expr} {kws : List Keyword} {te : DE} {ta : DC} (he : PD X W e te) (ha : PKD X W kws ta) : PKD X W (⟨nm, e, kpos⟩ :: kws) (cFz te ta) := by
  obtain ⟨t1, p1, s1⟩ := he
  obtain ⟨t2, p2, s2⟩ := ha
  refine ⟨_, pk_cons p1 p2, ?_⟩
  intro B Hf ρ σ H Q Qd Ed S h hQ hE
  refine s1 B Hf ρ σ H _ _ Ed S h (fun r1 ρ1 H1 v1 q1 e1 => ?_) hE
  have other : ∀ d ρ2 Hf1, SO X.K B Hf1 ρ2 σ H1 → Rep X.K Hf1 v1 d → ta ρ2 (fun ags ρ3 => Qd (.fz d :: ags) ρ3) Ed → t2 σ H1 fun xs H2 => Q (v1 :: xs) H2 := by
    intro d ρ2 Hf1 S1 h1 q
    refine s2 (B.up Hf1) Hf1 ρ2 σ H1 _ _ Ed S1.raise q (fun ags ρ3 H2 Hf2 vs q2 S2 h2 l2 => ?_) (hE.up S1.up)
    exact hQ (.fz d :: ags) ρ3 H2 Hf2 (v1 :: vs) q2 (S2.base S1.up) (.cons (h1.same S2.up) h2) (congrArg (· + 1) l2)
  cases r1 with
  | sc ns =>
    obtain ⟨Hf1, a, S1, rfl, h1⟩ := e1
    refine s2 (B.up Hf1) Hf1 ρ1 σ H1 _ _ Ed S1.raise q1 (fun ags ρ3 H2 Hf2 vs q2 S2 h2 l2 => ?_) (hE.up S1.up)
    exact hQ (.sc ns :: ags) ρ3 H2 Hf2 (_ :: vs) q2 (S2.base S1.up) (.cons ⟨a, rfl, S2.up.seq h1⟩ h2) (congrArg (· + 1) l2)
  | fz d =>
    obtain ⟨Hf1, d, ρ2, S1, h1, q⟩ := e1.frz q1
    exact other d ρ2 Hf1 S1 h1 q
  | ow c =>
    obtain ⟨Hf1, d, ρ2, S1, h1, q⟩ := e1.frz q1
    exact other d ρ2 Hf1 S1 h1 q
  | bw i =>
    obtain ⟨Hf1, d, ρ2, S1, h1, q⟩ := e1.frz q1
    exact other d ρ2 Hf1 S1 h1 q
abbrev noOw : List Ag → Bool
  | [] => true
  | .fz _ :: r => noOw r
  | .sc _ :: r => noOw r
  | _ :: _ => false
abbrev nthR {α : Type} : List α → Nat → Option α
  | [], _ => none
  | a :: _, 0 => some a
  | _ :: l, i + 1 => nthR l i
abbrev permR {α : Type} : List Nat → List α → List α
  | [], _ => []
  | i :: pm, l => match nthR l i with
    | some x => x :: permR pm l
    | none => permR pm l
theorem nthR_eq {α : Type} : ∀ (l : List α) (i : Nat), nthR l i = l[i]?
  | [], _ => by simp [nthR]
  | _ :: _, 0 => rfl
  | _ :: l, i + 1 => by simpa [nthR] using nthR_eq l i
theorem permR_eq {α : Type} : ∀ (pm : List Nat) (l : List α), permR pm l = permL pm l
  | [], _ => rfl
  | i :: pm, l => by
    unfold permL
    rw [List.filterMap_cons]
    have ih := permR_eq pm l
    unfold permL at ih
    show (match nthR l i with | some x => x :: permR pm l | none => permR pm l) = _
    rw [nthR_eq, ih]
    cases l[i]? <;> rfl
/-- the keywords' values in the parameters' sequence -/
abbrev cPerm (pm : List Nat) (tc : DC) : DC := fun ρ Q E => tc ρ (fun ags ρ1 => noOw ags = true ∧ Q (permR pm ags) ρ1) E
theorem noOw_tops : ∀ {ags : List Ag}, noOw ags = true → tops ags = []
  | [], _ => rfl
  | .fz _ :: r, h => noOw_tops (ags := r) h
  | .sc _ :: r, h => noOw_tops (ags := r) h
  | .bw _ :: _, h => by cases h
  | .ow _ :: _, h => by cases h
theorem noOw_topV : ∀ {ags : List Ag} {vs : List V}, noOw ags = true → topV ags vs = []
  | [], [], _ => rfl
  | [], _ :: _, _ => rfl
  | .fz _ :: r, _ :: vs, h => noOw_topV (ags := r) (vs := vs) h
  | .fz _ :: r, [], h => rfl
  | .sc _ :: r, [], h => rfl
  | .sc _ :: r, _ :: vs, h => noOw_topV (ags := r) (vs := vs) h
  | .bw _ :: _, _, h => by cases h
  | .ow _ :: _, _, h => by cases h
theorem permL_ow {pm : List Nat} {ags : List Ag} (h : noOw ags = true) : noOw (permL pm ags) = true := by
  have mem : ∀ {l : List Ag}, noOw l = true ↔ ∀ a ∈ l, (∃ d, a = .fz d) ∨ ∃ ns, a = .sc ns := by
    intro l
    induction l with
    | nil => simp [noOw]
    | cons a r ih =>
      cases a with
      | fz d => simp [noOw, ih]
      | sc ns => simp [noOw, ih]
      | bw i => simp [noOw]
      | ow c => simp [noOw]
  refine mem.mpr fun a ha => ?_
  unfold permL at ha
  obtain ⟨i, _, hi⟩ := List.mem_filterMap.mp ha
  exact mem.mp h a (List.mem_of_getElem? hi)
theorem pd_callKw {x : Str} {p : Pos} {kws : List Keyword} {k j : Nat} {ps ks : List Str} {st : Stmt} {sp : Spc} {tc : DC} (pm : List Nat) (tk : Takes X W) (F : FnC X.prog X.w X.K X.mg X.base k x ps st sp) (hr : Room j X.A) (hj : k ≤ j) (bp : BindK st x ps ks pm) (hg : Gl X x)
    (ha : PKD X W kws tc) (hn : ∀ (l : List V), l.length = ks.length → (permL pm l).length = ps.length) (hkl : kws.length = ks.length := by rfl) (hdb : (x == ("__debug__" : Str)) = false := by decide) (hall : (backToKw pos (keywordEach kws X.env)).all (·.1.isSome) = true := by rfl) (hks : (backToKw pos (keywordEach kws X.env)).filterMap (·.1) = ks := by rfl)
    (hpl : ((backTo pos (starEach [] X.env)).any (·.1) || (backToKw pos (keywordEach kws X.env)).any (·.1.isNone)) = false := by rfl) :
    PD X W (.Call (.Name x p) [] kws pos) (eCall sp.fs (cPerm pm tc)) := by
  obtain ⟨f, fd, F1, gm, F2⟩ := F
  obtain ⟨ta, pa, sa⟩ := ha
  have hb : ∀ (s : Shared) (ws : List Value), ws.length = ks.length → BindsTo s fd ⟨[], ks.zip ws⟩ (ps.zip (permL pm ws)) := by
    intro s ws hl
    obtain ⟨oc, od, kV, doc, pmv, an, cdv, ct, osl, rfl, lk, hcd⟩ := F1.ex
    exact .of_eq (bp.h kV doc pmv an cdv ct ws hl)
  refine ⟨_, pe_callKw (E := WE W) F2 (hr.mono hj) hg gm F1.kp hb (fun σ => passAt tk σ) pa hall hks hdb hpl, ?_⟩
  intro B Hf ρ σ H Q Qd Ed S h hQ hE
  refine sa B Hf ρ σ H _ _ Ed S h (fun ags ρ1 H1 Hf1 vs q S1 h1 l1 => ?_) hE
  obtain ⟨hno, q⟩ := q
  rw [permR_eq] at q
  have hp := permL_ow (pm := pm) hno
  have S1' : SO X.K B Hf1 (tops (permL pm ags) ++ ρ1) (topV (permL pm ags) (permL pm vs) ++ σ) H1 := by
    rw [noOw_tops hno, noOw_topV hno] at S1
    rw [noOw_tops hp, noOw_topV hp]
    exact S1
  obtain ⟨as, ρ2, bs, fr, q2, S2, back, backX⟩ := call_frame S1' (paired_perm h1 pm) q
  refine ⟨l1.trans hkl, hn vs (l1.trans hkl), fr, Hf1, as, S2, ?_⟩
  refine ⟨q2.1, fun r as' p Hf' H' v S3 => hQ _ _ H' v (q2.2.1 r as' p) (back Hf' H' r v as' S3), fun C as' p Hf' H' S3 => ?_⟩
  obtain ⟨Hf2, S4⟩ := backX Hf' H' as' S3
  exact hE C _ σ H' Hf2 (q2.2.2 C as' p) S4

/-! ### raise, try -/
/-- an exception class of the text without an __init__ of its own -/
structure ExT (K : PySem.W.Frag) (mg : Str → Option Value) (x : Str) (C : Addr) : Prop where
  g : mg x = some (.ref C)
  x : PySem.W.excIn K C [.type "ValueError", .type "Exception", .type "BaseException", .type "object"] "ValueError.__new__" = true
  k : PySem.W.keepIn K (.ref C) = true
  b : PySem.W.subIn K (.ref C) (.type "BaseException") = some true
  t : PySem.W.typeIn K (.ref C) = some (.type "type")
abbrev sRaise (C : Addr) : DS := fun D ρ => D.ex C ρ
theorem psd_raise {x m : Str} {j : Nat} {p p2 pos2 : Pos} {C : Addr} (tk : Takes X W) (hc : X.calm = true) (T : ExT X.K X.mg x C) (hg : Gl X x) (hdb : (x == ("__debug__" : Str)) = false := by decide) : PSD X W (.Raise (some (.Call (.Name x p) [.Constant (.str m) j p2] [] pos)) none pos2) (sRaise C) := by
  refine ⟨_, ps_raise hc tk (pmk_own PySem.F.excBase_ValueError T.x T.g T.k (raises_own T.b T.t) hg hdb), ?_⟩
  intro B Hf ρ σ H D D' S L h
  exact L.ex C ρ σ H Hf h S
/-- try .. except x (as n): m tells which classes are caught, su the suite -/
abbrev tryX (i : Option Nat) (m : Addr → Option Bool) (su : Addr → Addr → DS) (D : DEnds) : XD := fun C ρ1 => match m C with
  | some true => ∀ a, (match i with
    | some i => su a C { nx := fun ρ2 => D.nx (setS ρ2 i .nil), rt := D.rt, bk := fun ρ2 => D.bk (setS ρ2 i .nil), ct := fun ρ2 => D.ct (setS ρ2 i .nil), ex := noX } (setS ρ1 i (.xa a))
    | none => su a C { D with ex := noX } ρ1)
  | some false => D.ex C ρ1
  | none => False
abbrev sTry (i : Option Nat) (m : Addr → Option Bool) (body : DS) (su : Addr → Addr → DS) : DS := fun D ρ => body { D with ex := tryX i m su D } ρ
/-- the suites, whatever the exception -/
structure SuD (X : Cx) (b₀ : Stmt) (suite : List Stmt) (m : Addr → Option Bool) (su : Addr → Addr → DS) : Prop where
  h : ∀ (a : Addr) (oe : Obj) (C : Addr) (pn : List (Addr × Obj)), m C = some true → Zc (.ref C) none oe → (∃ vs, oe.data = .fields vs) → PBD (X.suite a ((a, oe) :: pn)) W0 (b₀ :: suite) (su a C)
theorem SuD.all {b₀ : Stmt} {suite : List Stmt} {m : Addr → Option Bool} {su : Addr → Addr → DS} (h : SuD X b₀ suite m su) : ∃ ts : Addr → Value → Option Addr → TS,
    (∀ (a : Addr) (oe : Obj) (cls : Value) (d : Option Addr) (pn : List (Addr × Obj)), Zc cls d oe → (∃ vs, oe.data = .fields vs) → PSs (X.suite a ((a, oe) :: pn)) (b₀ :: suite) (ts a cls d)) ∧
    ∀ a C, m C = some true → SemS X.K W0 (ts a (.ref C) none) (su a C) := by
  refine ⟨fun a cls d D σ H => (∃ C, cls = .ref C ∧ d = none ∧ m C = some true) ∧ ∀ (C : Addr) (hC : m C = some true), cls = .ref C → ∀ (oe : Obj) (pn : List (Addr × Obj)) (hz : Zc (.ref C) none oe) (hf : ∃ vs, oe.data = .fields vs), (Classical.choose (h.h a oe C pn hC hz hf).ex) D σ H, ?_, ?_⟩
  · intro a oe cls d pn hz hf
    refine ⟨fun pins s σ H D I q => ?_⟩
    obtain ⟨⟨C, rfl, rfl, hC⟩, q⟩ := q
    exact (Classical.choose_spec (h.h a oe C pn hC hz hf).ex).1.run pins s σ H D I (q C hC rfl oe pn hz hf)
  · intro a C hC B Hf ρ σ H D D' S L q
    refine ⟨⟨C, rfl, rfl, hC⟩, fun C' hC' e oe pn hz hf => ?_⟩
    cases e
    exact (Classical.choose_spec (h.h a oe C pn hC hz hf).ex).2 B Hf ρ σ H D D' S L q
theorem body_all {body : List Stmt} {t : DS} (hb : ∀ (W : WX) (pn : List (Addr × Obj)) (xe : Value → Shared → Prop), Takes (X.tr pn xe) W → PassesOwn (model X.prog X.w) X.A X.env xe → PBD (X.tr pn xe) W body t) :
    ∃ tb : WX → TS, (∀ (W : WX) (pn : List (Addr × Obj)) (xe : Value → Shared → Prop), Takes (X.tr pn xe) W → PassesOwn (model X.prog X.w) X.A X.env xe → PSs (X.tr pn xe) body (tb W)) ∧ ∀ W, SemS X.K W (tb W) t := by
  refine ⟨fun W D σ H => ∀ (pn : List (Addr × Obj)) (xe : Value → Shared → Prop) (tk : Takes (X.tr pn xe) W) (po : PassesOwn (model X.prog X.w) X.A X.env xe), (Classical.choose (hb W pn xe tk po).ex) D σ H, ?_, ?_⟩
  · intro W pn xe tk po
    exact ⟨fun pins s σ H D I q => (Classical.choose_spec (hb W pn xe tk po).ex).1.run pins s σ H D I (q pn xe tk po)⟩
  · intro W B Hf ρ σ H D D' S L q pn xe tk po
    exact (Classical.choose_spec (hb W pn xe tk po).ex).2 B Hf ρ σ H D D' S L q
theorem xa_set {K : PySem.W.Frag} {B : Bs} {Hf H : Hp} {ρ : List Sl} {σ : L2.St} (S : SO K B Hf ρ σ H) (i : Nat) (a : Addr) : SO K B Hf (setS ρ i (.xa a)) (σ.set i (some (.ref a))) H := S.setFz i (s := .xa a) ⟨rfl, rfl⟩
theorem psd_try {x : Str} {c : Value} {body suite : List Stmt} {b₀ : Stmt} {np pos' : Pos} {m : Addr → Option Bool} {t : DS} {su : Addr → Addr → DS} (hs : X.stack = X.env :: X.outer) (hf : X.env.frame = some X.env.locals) (hc : Names X x c) (tk : Takes X W)
    (hm : ∀ C b, m C = some b → PySem.W.exmOne X.K (.ref C) c = some b)
    (hb : ∀ (W : WX) (pn : List (Addr × Obj)) (xe : Value → Shared → Prop), Takes (X.tr pn xe) W → PassesOwn (model X.prog X.w) X.A X.env xe → PBD (X.tr pn xe) W body t) (hsu : SuD X b₀ suite m su) :
    PSD X W (.Try body [.ExceptHandler (some (.Name x np)) none (b₀ :: suite) pos'] [] [] pos) (sTry none m t su) := by
  obtain ⟨tb, p1, s1⟩ := body_all hb
  obtain ⟨ts, p2, s2⟩ := hsu.all
  refine ⟨_, ps_try_only (tb := tb) (ts := ts) hs hf hc tk p1 p2, ?_⟩
  intro B Hf ρ σ H D D' S L h
  refine s1 _ B Hf ρ σ H { D with ex := tryX none m su D } D' S ⟨L.nx, L.rt, L.bk, L.ct, ?_⟩ h
  intro C ρ1 σ1 H1 Hf1 q S1
  have q : tryX none m su D C ρ1 := q
  unfold tryX at q
  cases e : m C with
  | none => rw [e] at q; exact q.elim
  | some b =>
    rw [e] at q
    refine ⟨b, hm C b e, fun hb a ha => ?_, fun hb => ?_⟩
    · subst hb
      exact s2 a C e B Hf1 ρ1 σ1 H1 { D with ex := noX } D' S1 ⟨L.nx, L.rt, L.bk, L.ct, xl_no⟩ (q a)
    · subst hb
      exact L.ex C ρ1 σ1 H1 Hf1 q S1
theorem psd_tryAs (i : Nat) {x n : Str} {c : Value} {body suite : List Stmt} {b₀ : Stmt} {np pos' : Pos} {m : Addr → Option Bool} {t : DS} {su : Addr → Addr → DS} (hs : X.stack = X.env :: X.outer) (hf : X.env.frame = some X.env.locals) (hN : X.N.Nodup) (hi : X.N[i]? = some n) (hln : X.env.kindOf n = some .local) (hc : Names X x c) (tk : Takes X W)
    (hm : ∀ C b, m C = some b → PySem.W.exmOne X.K (.ref C) c = some b)
    (hb : ∀ (W : WX) (pn : List (Addr × Obj)) (xe : Value → Shared → Prop), Takes (X.tr pn xe) W → PassesOwn (model X.prog X.w) X.A X.env xe → PBD (X.tr pn xe) W body t) (hsu : SuD X b₀ suite m su) :
    PSD X W (.Try body [.ExceptHandler (some (.Name x np)) (some n) (b₀ :: suite) pos'] [] [] pos) (sTry (some i) m t su) := by
  obtain ⟨tb, p1, s1⟩ := body_all hb
  obtain ⟨ts, p2, s2⟩ := hsu.all
  refine ⟨_, ps_try_as (tb := tb) (ts := ts) hs hf hN hi hln hc tk p1 p2, ?_⟩
  intro B Hf ρ σ H D D' S L h
  refine s1 _ B Hf ρ σ H { D with ex := tryX (some i) m su D } D' S ⟨L.nx, L.rt, L.bk, L.ct, ?_⟩ h
  intro C ρ1 σ1 H1 Hf1 q S1
  have q : tryX (some i) m su D C ρ1 := q
  unfold tryX at q
  cases e : m C with
  | none => rw [e] at q; exact q.elim
  | some b =>
    rw [e] at q
    refine ⟨b, hm C b e, fun hb a ha => ?_, fun hb => ?_⟩
    · subst hb
      refine s2 a C e B Hf1 _ _ H1 { nx := fun ρ2 => D.nx (setS ρ2 i .nil), rt := D.rt, bk := fun ρ2 => D.bk (setS ρ2 i .nil), ct := fun ρ2 => D.ct (setS ρ2 i .nil), ex := noX } _ (xa_set S1 i a) ⟨fun ρ σ H Hf q S => L.nx _ _ _ _ q (S.setNone i), L.rt, fun ρ σ H Hf q S => L.bk _ _ _ _ q (S.setNone i), fun ρ σ H Hf q S => L.ct _ _ _ _ q (S.setNone i), xl_no⟩ (q a)
    · subst hb
      exact L.ex C ρ1 σ1 H1 Hf1 q S1
end

/-! ### the law's end -/
theorem law_end {l : PySem.W.OpenLaw} {q : Program} {loose : List Str} {XP : (Str → Option Value) → Heap → Prop} {YP : World → Heap → Prop} {d : DefRec} {K : Params → PySem.W.Frag} {st : Stmt} {k : Nat} {x : Str} {sp : Spc} (hn : l.most = some 63) (hdf : d.params.defaults = []) (hr : Room k callerA)
    (hY : ∀ (w : World) (h : Heap), YP w h → (K w.params).In h) (bp : BindP st d.name [x])
    (F : ∀ (w : World) (mg : Str → Option Value) (h : Heap), (K w.params).In h → h.Ns mainGlobals mg → ∀ base : Heap, (K w.params).In base → base.Ns mainGlobals mg → FnC l.prog w (K w.params) mg base k d.name [x] st sp)
    (hp : ∀ ns : List Int, ns.length ≤ 63 → (∀ z ∈ ns, Builtin.Int.intBits z ≤ 1048576) → sp.pre [.sc ns] ∧ (∀ r as', sp.post [.sc ns] r as' → r = .fz (.bool true)) ∧ ∀ C as', ¬ sp.exc [.sc ns] C as') :
    PySem.W.WalkO q loose XP YP l.row.toRowW d [] (fun f vs => PySem.call f vs) := by
  refine L2.walk_ofB (n := 63) (k := k) (x := x) (CX := fun w => L2.CX l.prog w) (sp := fun w => spOf (K w.params) 1 sp.fs) hn (by decide) hdf hr hY (fun w mg fa h KX G hfa => ?_) (fun w H a ns hl hb hO hS => ?_) fun w H s e s' h => ?_
  · obtain ⟨f, fd, F1, gm, _⟩ := F w mg h KX G h KX G
    refine ⟨fd, fun s v => ?_, fun base Kb Gb => ?_⟩
    · obtain ⟨oc, od, kV, doc, pmv, an, cdv, ct, osl, rfl, lk, hcd⟩ := F1.ex
      exact .of_eq (bp.h kV doc pmv an cdv ct [v] rfl)
    · obtain ⟨f', fd', F1', gm', F2'⟩ := F w mg h KX G base Kb Gb
      have e1 : f' = fa := by rw [hfa] at gm'; cases gm'; rfl
      have e2 : f = fa := by rw [hfa] at gm; cases gm; rfl
      subst e1
      subst e2
      obtain ⟨oc, od, kV, doc, pmv, an, cdv, ct, osl, e3, lk, hcd⟩ := F1.ex
      obtain ⟨oc', od', kV', doc', pmv', an', cdv', ct', osl', e4, lk', hcd'⟩ := F1'.ex
      rw [lk] at lk'
      have : fd = fd' := by cases lk'; rfl
      rw [this]
      exact F2'
  · obtain ⟨h1, h2, h3⟩ := hp ns hl hb
    refine ⟨rfl, fun _ => none, H, [.sc ns], ⟨Same.refl _, Same.refl _, fun _ _ e => (by cases e), [], ⟨_, _, [], [], rfl, rfl, ⟨rfl, a, rfl, hS⟩, rfl, rfl⟩, List.nodup_nil, fun _ h => by simp at h⟩, h1, fun r as' p Hf' H' v S' => ?_, fun C as' p => absurd p (h3 C as')⟩
    have e := h2 r as' p
    subst e
    obtain ⟨v', fp, e1, e2, y, e3, rv⟩ := S'.get (i := 0) rfl
    cases e1
    cases e3
    cases rv
    rfl
  · obtain ⟨_, _, _, _, _, _, _, _, _, _, _, _, z⟩ := h
    exact z
end DL
set_option Elab.async false
set_option linter.all false
set_option maxRecDepth 100000
set_option maxHeartbeats 1000000
/-! DLi: chains, in, divmod, a caught exception's class. -/
namespace DL
open PySem PySem.Spec PyProof.Rows L2
section
variable {X : Cx} {W : WX} {pos : Pos}

/-! ### a constant of the text -/
theorem pd_globI {x : Str} {i : Int} (hg : Gl X x) (h : ∃ t, X.mg x = some (.int i t)) (hd : (x == ("__debug__" : Str)) = false := by decide) : PD X W (.Name x pos) (eC (.int i)) := by
  obtain ⟨t, h⟩ := h
  exact pd_glob (v := .int i) hg h ⟨t, rfl⟩ (fun _ => .int i) hd
theorem pd_globR {x : Str} {d : D} (hg : Gl X x) (h : ∃ a, X.mg x = some (.ref a) ∧ ∀ H, Rep X.K H (.ref a) d) (hd : (x == ("__debug__" : Str)) = false := by decide) : PD X W (.Name x pos) (eC d) := by
  obtain ⟨a, h, r⟩ := h
  exact pd_glob (v := .ref a) hg h rfl r hd
theorem u65 {k : Nat} {A : Around} (r : Room k A) : A.units + 65 < cLine := by have := r.un; omega

/-! ### a op b op2 c -/
abbrev eChain (rd rd' : DE2) (ta tb tc : DE) : DE := fun ρ Q E => ta ρ (fun x ρ1 => tb ρ1 (fun y ρ2 => pk2 (stl x) (stl y) ρ2 fun a b => rd a b fun z => match z with
  | .fz (.bool k) => if k = true then tc ρ2 (fun w ρ3 => pk2 (stl y) (stl w) ρ3 fun b c => rd' b c fun z => Q z ρ3) E else Q (.fz (.bool false)) ρ2
  | _ => False) E) E
theorem sem_chain {r r' : R2} {rd rd' : DE2} {ta tb tc : TE} {da db dc : DE} (c : Conn X.K r rd) (c' : Conn X.K r' rd') (ha : Sem1 X.K W ta da) (hb : Sem1 X.K W tb db) (hc : Sem1 X.K W tc dc) : Sem1 X.K W (tChain r r' ta tb tc) (eChain rd rd' da db dc) := by
  intro B Hf ρ σ H Q Qd Ed S h hQ hE
  refine ha B Hf ρ σ H _ _ Ed S h (fun r1 ρ1 H1 v1 q1 e1 => ?_) hE
  obtain ⟨Hf1, S1, h1⟩ := e1.settle
  refine hb (B.up Hf1) Hf1 ρ1 σ H1 _ _ Ed S1.raise q1 (fun r2 ρ2 H2 v2 q2 e2 => ?_) (hE.up S1.up)
  obtain ⟨Hf2, S2, h2⟩ := e2.settle
  have S3 := S2.base S1.up
  obtain ⟨a, b, p1, p2, q⟩ := pk2_of q2
  refine c (B.up Hf2) Hf2 ρ2 σ H2 v1 v2 a b _ _ S3.raise ((h1.mono S2.up).peek S3 p1) (h2.peek S3 p2) q fun z H3 v qz ez => ?_
  match z, qz with
  | .fz (.bool k), qz =>
    obtain ⟨Hf3, S4, rv⟩ := ez
    have ev : v = .bl k := by cases rv; rfl
    refine ⟨k, ev, ?_⟩
    cases k with
    | false => exact hQ _ _ H3 _ qz ⟨Hf3, S4.base S3.up, .bl _⟩
    | true =>
      refine hc (B.up Hf3) Hf3 ρ2 σ H3 _ _ Ed (S4.base S3.up).raise qz (fun r4 ρ4 H4 v4 q4 e4 => ?_) (hE.up (S4.base S3.up).up)
      obtain ⟨Hf5, S5, h5⟩ := e4.settle
      have S6 := S5.base (S4.base S3.up).up
      obtain ⟨b', c'', p3, p4, q5⟩ := pk2_of q4
      exact c' B Hf5 ρ4 σ H4 v2 v4 b' c'' Q _ S6 (((h2.mono S4.up).mono S5.up).peek S6 p3) (h5.peek S6 p4) q5 fun z H' v qz ez => hQ z ρ4 H' v qz ez
theorem pd_chain {op op' : CmpOp} {r r' : R2} {rd rd' : DE2} {a b c : Expr} {ta tb tc : DE} (ho : OpR X (compareOp op) r) (cn : Conn X.K r rd) (ho' : OpR X (compareOp op') r') (cn' : Conn X.K r' rd') (ha : PD X W a ta) (hb : PD X W b tb) (hc : PD X W c tc)
    (hm : lastMarks [op, op'] [b, c] = false := by with_unfolding_all rfl) : PD X W (.Compare a [op, op'] [b, c] pos) (eChain rd rd' ta tb tc) := by
  obtain ⟨t1, p1, s1⟩ := ha
  obtain ⟨t2, p2, s2⟩ := hb
  obtain ⟨t3, p3, s3⟩ := hc
  exact ⟨_, pe_chain ho ho' p1 p2 p3 hm, sem_chain cn cn' s1 s2 s3⟩
theorem ptd_chain {op op' : CmpOp} {r r' : R2} {rd rd' : DE2} {a b c : Expr} {ta tb tc : DE} (ho : OpR X (compareOp op) r) (cn : Conn X.K r rd) (ho' : OpR X (compareOp op') r') (cn' : Conn X.K r' rd') (ha : PD X W a ta) (hb : PD X W b tb) (hc : PD X W c tc)
    (hm : lastMarks [op, op'] [b, c] = false := by with_unfolding_all rfl) : PTD X W (.Compare a [op, op'] [b, c] pos) (dB (eChain rd rd' ta tb tc)) := by
  obtain ⟨t1, p1, s1⟩ := ha
  obtain ⟨t2, p2, s2⟩ := hb
  obtain ⟨t3, p3, s3⟩ := hc
  refine ⟨_, pt_chain ho ho' p1 p2 p3 hm, ?_⟩
  exact sem_b (sem_chain cn cn' s1 s2 s3)

/-! ### in -/
def flatD : D → Bool
  | .none => true
  | .bool _ => true
  | .int _ => true
  | .str _ => true
  | _ => false
abbrev dInn (n : Bool) : DE2
  | .d a, .d (.tuple ds), Q => flatD a = true ∧ ds.all flatD = true ∧ Q (.fz (.bool (n.xor (ds.any fun y => PyData.eqv y a))))
  | .d a, .d (.list ds), Q => SeqAt.shaped a = true ∧ SeqAt.shaped (.list ds) = true ∧ Q (.fz (.bool (n.xor (ds.any fun y => PyData.eqv y a))))
  | _, _, _ => False
theorem Rep.flat {K : PySem.W.Frag} {H : Hp} {v : V} {d : D} (h : Rep K H v d) (f : flatD d = true) : flatV v = true := by
  cases h <;> first | rfl | cases f
theorem Reps.flat {K : PySem.W.Frag} {H : Hp} : ∀ {vs : List V} {ds : List D}, Reps K H vs ds → ds.all flatD = true → vs.all flatV = true
  | _, _, .nil, _ => rfl
  | _, _, .cons h r, f => by
    rw [List.all_cons, Bool.and_eq_true] at f ⊢
    exact ⟨h.flat f.1, Reps.flat r f.2⟩
theorem Rep.eqV {K : PySem.W.Frag} {H : Hp} {v u : V} {d e : D} (h : Rep K H v d) (k : Rep K H u e) (f : flatD d = true) (g : flatD e = true) : eqV v u = PyData.eqv d e := by
  cases h <;> cases k <;> first | rfl | cases f | cases g
theorem Reps.inVr {K : PySem.W.Frag} {H : Hp} {x : V} {d : D} (hx : Rep K H x d) (fx : flatD d = true) : ∀ {vs : List V} {ds : List D}, Reps K H vs ds → ds.all flatD = true → inV x vs = ds.any fun y => PyData.eqv y d
  | _, _, .nil, _ => rfl
  | _, _, .cons h r, f => by
    rw [List.all_cons, Bool.and_eq_true] at f
    show (eqV _ _ || inV _ _) = (PyData.eqv _ _ || _)
    rw [h.eqV hx f.1 fx, Reps.inVr hx fx r f.2]
def rInA (K : PySem.W.Frag) (n : Bool) : R2 := fun x y H Q => rIn K n x y H Q ∨ (if n then rNotInD K x y H Q else rInD K x y H Q)
theorem op_inA (hu : X.A.units + 65 < cLine) : OpR X (compareOp .In) (rInA X.K false) := OpR.or op_in_seq (op_inD hu)
theorem op_notInA (hu : X.A.units + 65 < cLine) : OpR X (compareOp .NotIn) (rInA X.K true) := OpR.or op_notIn_seq (op_notInD hu)
theorem c_inn {K : PySem.W.Frag} (n : Bool) : Conn K (rInA K n) (dInn n) := by
  intro B Hf ρ σ H x y a b Q Qd S ra rb q k
  cases a with
  | sc _ => exact q.elim
  | d a =>
    cases b with
    | sc _ => exact q.elim
    | d b =>
      cases b with
      | tuple ds =>
        obtain ⟨f1, f2, q⟩ := q
        obtain ⟨p, vs, rfl, h1, r1, z1⟩ := rb.tup
        have rx := ra.rep S.sub
        have r1 := r1.same S.sub
        refine .inl ⟨p, vs, rfl, .inr (sqT_same S.sub h1), rx.flat f1, r1.flat f2, ?_⟩
        rw [Reps.inVr rx f1 r1 f2]
        refine k _ _ _ q ⟨Hf, S, ?_⟩
        cases n
        · rw [Bool.false_xor]; exact .bl _
        · rw [Bool.true_xor]; exact .bl _
      | list ds =>
        obtain ⟨f1, f2, q⟩ := q
        refine .inr ?_
        have d1 := (ra.rep S.sub).dp _ _ (SeqAt.canLay_of_shaped f1)
        have d2 := (rb.rep S.sub).dp _ _ (SeqAt.canLay_of_shaped f2)
        cases n
        · exact ⟨a, ds, d1, d2, f1, f2, k _ _ _ q ⟨Hf, S, by rw [Bool.false_xor]; exact .bl _⟩⟩
        · exact ⟨a, ds, d1, d2, f1, f2, k _ _ _ q ⟨Hf, S, by rw [Bool.true_xor]; exact .bl _⟩⟩
      | _ => exact q.elim

/-! ### divmod -/
abbrev dDivmod : DEn
  | [.d (.int i), .d (.int j)], Q => CDivP i j ∧ Q (.fz (.tuple [.int (i / j), .int (i % j)]))
  | _, _ => False
theorem c_divmod {K : PySem.W.Frag} : ConnN K (fun xs H Q => ∃ i j, xs = [.int i, .int j] ∧ CDivP i j ∧ ∀ p, H p = none → Q (.ref p) (upd H p (.tup [.int (i / j), .int (i % j)]))) dDivmod := by
  intro B Hf ρ σ H xs as Q Qd S r q k
  match as, q with
  | [.d (.int i), .d (.int j)], q =>
    obtain ⟨x, y, rfl, r1, r2⟩ := two_of r
    refine ⟨i, j, by rw [r1.int, r2.int], q.1, fun p hp => k _ _ _ q.2 ⟨_, S.alloc hp _, ?_⟩⟩
    exact .tup (SqT.of upd_same) (.cons (.int _) (.cons (.int _) .nil)) (by show 2 ≤ sizeLine; decide)
theorem divp_small {i j : Int} (hj : 0 < j) (h : i.natAbs < 2 ^ 4000) : CDivP i j := divp_ok hj (by
  have := PyProof.Rows.intBits_le h
  omega)

/-! ### isinstance of what a suite caught -/
abbrev eIsE (i : Nat) (a : Addr) (o : Option Bool) : DE := fun ρ Q _ => match o with
  | some b => getS ρ i = .xa a ∧ Q (.fz (.bool b)) ρ
  | none => False
theorem pd_isE (i : Nat) {a C : Addr} {oe : Obj} {pn : List (Addr × Obj)} {x y : Str} {p p1 p2 : Pos} {o : Option Bool} {te : V} {cv : Value} (E : ExcC X.K C) (hz : Zc (.ref C) none oe) (hf : ∃ vs, oe.data = .fields vs)
    (hg : Gl X "isinstance") (hm : X.mg "isinstance" = none) (hN : X.N[i]? = some x) (hv : Vis X.env.scope x) (hd : (x == ("__debug__" : Str)) = false) (hcd : (x == ("__classdict__" : Str)) = false)
    (hy : PE (X.suite a ((a, oe) :: pn)) (.Name y p2) (tC te)) (hcv : ∀ u, RelV te u → u = cv) (hb : ∀ b, o = some b → PySem.W.kitOne X.K (.ref C) cv = some b)
    (he : starEach [.Name x p1, .Name y p2] (X.suite a ((a, oe) :: pn)).env = (false, eval (.Name x p1) (X.suite a ((a, oe) :: pn)).env) :: starEach [.Name y p2] (X.suite a ((a, oe) :: pn)).env := by rfl) (he2 : starEach [.Name y p2] (X.suite a ((a, oe) :: pn)).env = (false, eval (.Name y p2) (X.suite a ((a, oe) :: pn)).env) :: starEach [] (X.suite a ((a, oe) :: pn)).env := by rfl)
    (hpl : (backTo pos (starEach [.Name y p2] (X.suite a ((a, oe) :: pn)).env)).any (·.1) = false := by rfl) :
    PD (X.suite a ((a, oe) :: pn)) W (.Call (.Name "isinstance" p) [.Name x p1, .Name y p2] [] pos) (eIsE i a o) := by
  refine ⟨_, pe_callB (X := X.suite a ((a, oe) :: pn)) (call_isE E hz hf) hg hm PyProof.Rows.boot_isinstance (pa_cons (pe_var (X := X.suite a ((a, oe) :: pn)) (i := i) hN hv hd hcd) (pa_cons hy pa_nil he2) he) (by decide) (by decide) he hpl, ?_⟩
  intro B Hf ρ σ H Q Qd Ed S h hQ hE
  cases o with
  | none => exact h.elim
  | some b =>
    obtain ⟨h1, h2⟩ := h
    obtain ⟨w, fp, e1, e2, e3⟩ := S.get (getS_eq h1 (fun z => nomatch z))
    refine ⟨.ref a, ?_, te, cv, b, rfl, hcv, hb b rfl, hQ _ ρ H _ h2 ⟨Hf, S, .bl _⟩⟩
    rw [e1, e3]
end
end DL
set_option Elab.async false
set_option linter.all false
set_option maxRecDepth 100000
set_option maxHeartbeats 2000000
namespace T18
open PySem PySem.Spec PyProof.Rows L2 DL
abbrev PW : Program := PySem.Challenge.pw_keptwhatever_k18_dates_counted
abbrev topS (i : Nat) : Stmt := PW.main.body.getD i (.Pass ⟨0, 0, 0, 0⟩)
abbrev s_is_integer : Stmt := topS 4
abbrev N_is_integer : List Str := ["thing"]
abbrev P_is_integer : List Str := ["thing"]
theorem sc_is_integer : FnScope N_is_integer P_is_integer (defScope s_is_integer) := ⟨rfl, rfl, rfl, by decide +kernel, rfl, by decide +kernel, by decide +kernel⟩
theorem bp_is_integer : BindP s_is_integer "is_integer" P_is_integer := ⟨fun _ _ _ _ _ _ us hl => match us, hl with | [_], _ => rfl⟩
abbrev s_check_day : Stmt := topS 6
abbrev N_check_day : List Str := ["thing"]
abbrev P_check_day : List Str := ["thing"]
theorem sc_check_day : FnScope N_check_day P_check_day (defScope s_check_day) := ⟨rfl, rfl, rfl, by decide +kernel, rfl, by decide +kernel, by decide +kernel⟩
theorem bp_check_day : BindP s_check_day "check_day" P_check_day := ⟨fun _ _ _ _ _ _ us hl => match us, hl with | [_], _ => rfl⟩
abbrev s_date_of : Stmt := topS 12
abbrev N_date_of : List Str := ["day", "years", "rest", "months", "month", "cycle"]
abbrev P_date_of : List Str := ["day"]
theorem sc_date_of : FnScope N_date_of P_date_of (defScope s_date_of) := ⟨rfl, rfl, rfl, by decide +kernel, rfl, by decide +kernel, by decide +kernel⟩
theorem bp_date_of : BindP s_date_of "date_of" P_date_of := ⟨fun _ _ _ _ _ _ us hl => match us, hl with | [_], _ => rfl⟩
abbrev s_number_of_date : Stmt := topS 13
abbrev N_number_of_date : List Str := ["year", "month", "day", "years", "months", "cycle", "rest"]
abbrev P_number_of_date : List Str := ["year", "month", "day"]
theorem sc_number_of_date : FnScope N_number_of_date P_number_of_date (defScope s_number_of_date) := ⟨rfl, rfl, rfl, by decide +kernel, rfl, by decide +kernel, by decide +kernel⟩
theorem bp_number_of_date : BindP s_number_of_date "number_of_date" P_number_of_date := ⟨fun _ _ _ _ _ _ us hl => match us, hl with | [_, _, _], _ => rfl⟩
abbrev s_month_length : Stmt := topS 14
abbrev N_month_length : List Str := ["year", "month"]
abbrev P_month_length : List Str := ["year", "month"]
theorem sc_month_length : FnScope N_month_length P_month_length (defScope s_month_length) := ⟨rfl, rfl, rfl, by decide +kernel, rfl, by decide +kernel, by decide +kernel⟩
theorem bp_month_length : BindP s_month_length "month_length" P_month_length := ⟨fun _ _ _ _ _ _ us hl => match us, hl with | [_, _], _ => rfl⟩
abbrev s_date : Stmt := topS 15
abbrev N_date : List Str := ["day"]
abbrev P_date : List Str := ["day"]
theorem sc_date : FnScope N_date P_date (defScope s_date) := ⟨rfl, rfl, rfl, by decide +kernel, rfl, by decide +kernel, by decide +kernel⟩
theorem bp_date : BindP s_date "date" P_date := ⟨fun _ _ _ _ _ _ us hl => match us, hl with | [_], _ => rfl⟩
abbrev s_day_of : Stmt := topS 16
abbrev N_day_of : List Str := ["year", "month", "day", "part"]
abbrev P_day_of : List Str := ["year", "month", "day"]
theorem sc_day_of : FnScope N_day_of P_day_of (defScope s_day_of) := ⟨rfl, rfl, rfl, by decide +kernel, rfl, by decide +kernel, by decide +kernel⟩
theorem bp_day_of : BindP s_day_of "day_of" P_day_of := ⟨fun _ _ _ _ _ _ us hl => match us, hl with | [_, _, _], _ => rfl⟩
abbrev s_weekday_of : Stmt := topS 17
abbrev N_weekday_of : List Str := ["day"]
abbrev P_weekday_of : List Str := ["day"]
theorem sc_weekday_of : FnScope N_weekday_of P_weekday_of (defScope s_weekday_of) := ⟨rfl, rfl, rfl, by decide +kernel, rfl, by decide +kernel, by decide +kernel⟩
theorem bp_weekday_of : BindP s_weekday_of "weekday_of" P_weekday_of := ⟨fun _ _ _ _ _ _ us hl => match us, hl with | [_], _ => rfl⟩
abbrev s_weekday : Stmt := topS 18
abbrev N_weekday : List Str := ["day"]
abbrev P_weekday : List Str := ["day"]
theorem sc_weekday : FnScope N_weekday P_weekday (defScope s_weekday) := ⟨rfl, rfl, rfl, by decide +kernel, rfl, by decide +kernel, by decide +kernel⟩
theorem bp_weekday : BindP s_weekday "weekday" P_weekday := ⟨fun _ _ _ _ _ _ us hl => match us, hl with | [_], _ => rfl⟩
abbrev s__law_purse : Stmt := topS 20
abbrev N__law_purse : List Str := ["script", "at", "cell"]
abbrev P__law_purse : List Str := ["script", "at"]
theorem sc__law_purse : FnScope N__law_purse P__law_purse (defScope s__law_purse) := ⟨rfl, rfl, rfl, by decide +kernel, rfl, by decide +kernel, by decide +kernel⟩
theorem bp__law_purse : BindP s__law_purse "_law_purse" P__law_purse := ⟨fun _ _ _ _ _ _ us hl => match us, hl with | [_, _], _ => rfl⟩
abbrev s__law_take : Stmt := topS 21
abbrev N__law_take : List Str := ["purse", "span", "brew", "digit"]
abbrev P__law_take : List Str := ["purse", "span"]
theorem sc__law_take : FnScope N__law_take P__law_take (defScope s__law_take) := ⟨rfl, rfl, rfl, by decide +kernel, rfl, by decide +kernel, by decide +kernel⟩
theorem bp__law_take : BindP s__law_take "_law_take" P__law_take := ⟨fun _ _ _ _ _ _ us hl => match us, hl with | [_, _], _ => rfl⟩
abbrev s__law_pick : Stmt := topS 22
abbrev N__law_pick : List Str := ["purse", "some"]
abbrev P__law_pick : List Str := ["purse", "some"]
theorem sc__law_pick : FnScope N__law_pick P__law_pick (defScope s__law_pick) := ⟨rfl, rfl, rfl, by decide +kernel, rfl, by decide +kernel, by decide +kernel⟩
theorem bp__law_pick : BindP s__law_pick "_law_pick" P__law_pick := ⟨fun _ _ _ _ _ _ us hl => match us, hl with | [_, _], _ => rfl⟩
abbrev s__law_match : Stmt := topS 23
abbrev N__law_match : List Str := ["found", "due", "k"]
abbrev P__law_match : List Str := ["found", "due"]
theorem sc__law_match : FnScope N__law_match P__law_match (defScope s__law_match) := ⟨rfl, rfl, rfl, by decide +kernel, rfl, by decide +kernel, by decide +kernel⟩
theorem bp__law_match : BindP s__law_match "_law_match" P__law_match := ⟨fun _ _ _ _ _ _ us hl => match us, hl with | [_, _], _ => rfl⟩
abbrev s__law_long : Stmt := topS 24
abbrev N__law_long : List Str := ["year", "month", "leap"]
abbrev P__law_long : List Str := ["year", "month"]
theorem sc__law_long : FnScope N__law_long P__law_long (defScope s__law_long) := ⟨rfl, rfl, rfl, by decide +kernel, rfl, by decide +kernel, by decide +kernel⟩
theorem bp__law_long : BindP s__law_long "_law_long" P__law_long := ⟨fun _ _ _ _ _ _ us hl => match us, hl with | [_, _], _ => rfl⟩
abbrev s__law_counted : Stmt := topS 25
abbrev N__law_counted : List Str := ["day", "turns", "left", "year", "month"]
abbrev P__law_counted : List Str := ["day"]
theorem sc__law_counted : FnScope N__law_counted P__law_counted (defScope s__law_counted) := ⟨rfl, rfl, rfl, by decide +kernel, rfl, by decide +kernel, by decide +kernel⟩
theorem bp__law_counted : BindP s__law_counted "_law_counted" P__law_counted := ⟨fun _ _ _ _ _ _ us hl => match us, hl with | [_], _ => rfl⟩
abbrev s__law_drawn_day : Stmt := topS 26
abbrev N__law_drawn_day : List Str := ["purse", "cycle", "some", "near", "far"]
abbrev P__law_drawn_day : List Str := ["purse"]
theorem sc__law_drawn_day : FnScope N__law_drawn_day P__law_drawn_day (defScope s__law_drawn_day) := ⟨rfl, rfl, rfl, by decide +kernel, rfl, by decide +kernel, by decide +kernel⟩
theorem bp__law_drawn_day : BindP s__law_drawn_day "_law_drawn_day" P__law_drawn_day := ⟨fun _ _ _ _ _ _ us hl => match us, hl with | [_], _ => rfl⟩
abbrev s__law_is_no_day : Stmt := topS 27
abbrev N__law_is_no_day : List Str := ["year", "month", "spot", "e"]
abbrev P__law_is_no_day : List Str := ["year", "month", "spot"]
theorem sc__law_is_no_day : FnScope N__law_is_no_day P__law_is_no_day (defScope s__law_is_no_day) := ⟨rfl, rfl, rfl, by decide +kernel, rfl, by decide +kernel, by decide +kernel⟩
theorem bp__law_is_no_day : BindP s__law_is_no_day "_law_is_no_day" P__law_is_no_day := ⟨fun _ _ _ _ _ _ us hl => match us, hl with | [_, _, _], _ => rfl⟩
abbrev s_law : Stmt := topS 28
abbrev N_law : List Str := ["script", "at", "purse", "turn", "here", "begin", "wrong", "due", "told", "year", "month", "spot", "size", "far"]
abbrev P_law : List Str := ["script"]
theorem sc_law : FnScope N_law P_law (defScope s_law) := ⟨rfl, rfl, rfl, by decide +kernel, rfl, by decide +kernel, by decide +kernel⟩
theorem bp_law : BindP s_law "law" P_law := ⟨fun _ _ _ _ _ _ us hl => match us, hl with | [_], _ => rfl⟩
theorem bk_weekday_0 : BindK s_weekday "weekday" P_weekday ["day"] [0] := ⟨fun _ _ _ _ _ _ us hl => match us, hl with | [_], _ => rfl⟩
theorem bk_day_of_2_1_0 : BindK s_day_of "day_of" P_day_of ["day", "month", "year"] [2, 1, 0] := ⟨fun _ _ _ _ _ _ us hl => match us, hl with | [_, _, _], _ => rfl⟩
theorem bk_date_0 : BindK s_date "date" P_date ["day"] [0] := ⟨fun _ _ _ _ _ _ us hl => match us, hl with | [_], _ => rfl⟩
/-- which class except DueError catches -/
def m_DueError (cl : Nat → Addr) (C : Addr) : Option Bool := if C = cl 0 then some true else if C = cl 1 then some true else none
def isx_DueError_ValueError (cl : Nat → Addr) (C : Addr) : Option Bool := if C = cl 0 then some true else if C = cl 1 then some true else none
def isx_DueError_InvalidDay (cl : Nat → Addr) (C : Addr) : Option Bool := if C = cl 0 then some false else if C = cl 1 then some true else none
/-- what is asked of the text beyond its defs -/
structure Tx (K : PySem.W.Frag) (mg : Str → Option Value) (cl : Nat → Addr) : Prop where
  b_ValueError : mg "ValueError" = none
  b_abs : mg "abs" = none
  b_bool : mg "bool" = none
  b_divmod : mg "divmod" = none
  b_int : mg "int" = none
  b_isinstance : mg "isinstance" = none
  b_len : mg "len" = none
  b_list : mg "list" = none
  b_max : mg "max" = none
  b_min : mg "min" = none
  b_range : mg "range" = none
  b_str : mg "str" = none
  b_tuple : mg "tuple" = none
  g_CYCLE : ∃ t, mg "CYCLE" = some (.int 146097 t)
  g_FIRST_MARCH : ∃ t, mg "FIRST_MARCH" = some (.int 60 t)
  g_FIRST_MONDAY : ∃ t, mg "FIRST_MONDAY" = some (.int 2 t)
  g_MONTH_DAYS : ∃ a, mg "MONTH_DAYS" = some (.ref a) ∧ ∀ H, Rep K H (.ref a) (.tuple [(.int 31), (.int 28), (.int 31), (.int 30), (.int 31), (.int 30), (.int 31), (.int 31), (.int 30), (.int 31), (.int 30), (.int 31)])
  ne_1_0 : cl 1 ≠ cl 0
  x_DueError : ExT K mg "DueError" (cl 0)
  x_InvalidDay : ExT K mg "InvalidDay" (cl 1)
  fm_DueError : ∀ C b, m_DueError cl C = some b → PySem.W.exmOne K (.ref C) (.ref (cl 0)) = some b
  ec_DueError : ∀ C, m_DueError cl C = some true → ExcC K C
  fisx_DueError_ValueError : ∀ C b, isx_DueError_ValueError cl C = some b → PySem.W.kitOne K (.ref C) (.type "ValueError") = some b
  fisx_DueError_InvalidDay : ∀ C b, isx_DueError_InvalidDay cl C = some b → PySem.W.kitOne K (.ref C) (.ref (cl 1)) = some b

theorem xT {c : Bool} {A B : Prop} (h : c = true) (a : A) : if c = true then A else B := by rw [if_pos h]; exact a
theorem xF {c : Bool} {A B : Prop} (h : c = false) (b : B) : if c = true then A else B := by rw [h, if_neg Bool.false_ne_true]; exact b
theorem xB {c : Bool} {A B : Prop} (a : c = true → A) (b : c = false → B) : if c = true then A else B := by
  cases h : c with
  | true => rw [if_pos rfl]; exact a h
  | false => rw [if_neg Bool.false_ne_true]; exact b h
theorem natAbs_lt_pow {i : Int} {n : Nat} (h1 : -((2 ^ n : Nat) : Int) < i) (h2 : i < ((2 ^ n : Nat) : Int)) : i.natAbs < 2 ^ n := by omega
theorem mulw {i j : Int} (h1 : -(10 ^ 60) < i) (h2 : i < 10 ^ 60) (h3 : -(10 ^ 60) < j) (h4 : j < 10 ^ 60) : CMulW i j :=
  wide_mul (a := 200) (b := 200) (natAbs_lt_pow (Int.lt_trans (by decide) h1) (Int.lt_trans h2 (by decide))) (natAbs_lt_pow (Int.lt_trans (by decide) h3) (Int.lt_trans h4 (by decide))) (by decide) (by decide) (by decide)
theorem divw {i j : Int} (h1 : 0 < j) (h2 : j < 10 ^ 60) : CDivW i j :=
  wide_div (b := 200) h1 (natAbs_lt_pow (by omega) (Int.lt_trans h2 (by decide))) (by decide) (by decide)
theorem divp {i j : Int} (h1 : 0 < j) (h2 : -(10 ^ 60) < i) (h3 : i < 10 ^ 60) : CDivP i j := divp_small h1 (Nat.lt_trans (natAbs_lt_pow (n := 200) (Int.lt_trans (by decide) h2) (Int.lt_trans h3 (by decide))) (Nat.pow_lt_pow_right (by decide) (by decide)))
theorem poww {i j : Int} (h0 : 0 ≤ j) (h1 : j ≤ 100) (h2 : -(10 ^ 60) < i) (h3 : i < 10 ^ 60) : CPowW i j := by
  refine ⟨h0, ?_⟩
  have b : Builtin.Int.intBits i ≤ 200 := PyProof.Rows.intBits_le (natAbs_lt_pow (n := 200) (Int.lt_trans (by decide) h2) (Int.lt_trans h3 (by decide)))
  have : (Builtin.Int.intBits i : Int) * j ≤ 200 * 100 := Int.mul_le_mul (by omega) h1 h0 (by omega)
  exact Int.le_trans this (by decide)
theorem modpos (a : Int) {b : Int} (h : 0 < b) : 0 ≤ a % b ∧ a % b < b := ⟨Int.emod_nonneg a (by omega), Int.emod_lt_of_pos a h⟩
theorem atI_ex {α : Type} {xs : List α} {i : Int} (h0 : 0 ≤ i) (h1 : i < xs.length) : ∃ x, atI xs i = some x ∧ x ∈ xs ∧ xs[i.toNat]? = some x := by
  have hl : i.toNat < xs.length := by omega
  refine ⟨xs[i.toNat], ?_, List.getElem_mem hl, List.getElem?_eq_getElem hl⟩
  unfold atI ixN
  rw [if_pos h0, if_pos h1]
  show xs[i.toNat]? = _
  exact List.getElem?_eq_getElem hl
theorem dT {p : Prop} [Decidable p] (h : decide p = true) : p := of_decide_eq_true h
theorem dF {p : Prop} [Decidable p] (h : decide p = false) : ¬ p := of_decide_eq_false h
theorem eqv_int (a b : Int) : PyData.eqv (.int a) (.int b) = decide (a = b) := by
  show (a == b) = _
  by_cases h : a = b
  · subst h; simp
  · simp [h]
theorem xBeq {a b : Int} {A B : Prop} (h1 : a = b → A) (h2 : a ≠ b → B) : if (false ^^ PyData.eqv (.int a) (.int b)) = true then A else B := by
  rw [eqv_int, Bool.false_xor]
  by_cases h : a = b
  · rw [if_pos (decide_eq_true h)]; exact h1 h
  · rw [decide_eq_false h, if_neg Bool.false_ne_true]; exact h2 h
theorem xBne {a b : Int} {A B : Prop} (h1 : a ≠ b → A) (h2 : a = b → B) : if (true ^^ PyData.eqv (.int a) (.int b)) = true then A else B := by
  rw [eqv_int, Bool.true_xor]
  by_cases h : a = b
  · rw [decide_eq_true h, Bool.not_true, if_neg Bool.false_ne_true]; exact h2 h
  · rw [decide_eq_false h, Bool.not_false, if_pos rfl]; exact h1 h
theorem xBd {p : Prop} [Decidable p] {A B : Prop} (h1 : p → A) (h2 : ¬ p → B) : if decide p = true then A else B := by
  by_cases h : p
  · rw [if_pos (decide_eq_true h)]; exact h1 h
  · rw [decide_eq_false h, if_neg Bool.false_ne_true]; exact h2 h
theorem xNB {c : Bool} {A B : Prop} (a : c = false → A) (b : c = true → B) : if (!c) = true then A else B := by
  cases h : c with
  | false => rw [Bool.not_false, if_pos rfl]; exact a h
  | true => rw [Bool.not_true, if_neg Bool.false_ne_true]; exact b h
theorem pbd_false {X : Cx} {W : WX} {b : List Stmt} : PBD X W b (fun _ _ => False) := ⟨fun _ _ _ => False, ⟨fun _ _ _ _ _ _ h => h.elim⟩, fun _ _ _ _ _ _ _ _ _ h => h.elim⟩
theorem sh_nil : SeqAt.shaped (.list []) = true := by decide
theorem xNd {p : Prop} [Decidable p] {A B : Prop} (h1 : ¬ p → A) (h2 : p → B) : if (!decide p) = true then A else B := by
  by_cases h : p
  · rw [decide_eq_true h, Bool.not_true, if_neg Bool.false_ne_true]; exact h2 h
  · rw [decide_eq_false h, Bool.not_false, if_pos rfl]; exact h1 h
theorem szl : (2000000 : Nat) ≤ sizeLine := by decide
theorem xE {α : Type} {P : α → Prop} {o : Option α} {x : α} (h : o = some x) (k : P x) : ∃ d, o = some d ∧ P d := ⟨x, h, k⟩
/-! the calendar, in plain Lean -/
def leapI (y : Int) : Bool := decide (y % 4 = 0) && (decide (y % 100 ≠ 0) || decide (y % 400 = 0))
def lenI (y m : Int) : Int := if m = 2 then (if leapI y then 29 else 28) else if m = 4 ∨ m = 6 ∨ m = 9 ∨ m = 11 then 30 else 31
def valid (y m d : Int) : Prop := 1 ≤ m ∧ m ≤ 12 ∧ 1 ≤ d ∧ d ≤ lenI y m
instance (y m d : Int) : Decidable (valid y m d) := by unfold valid; infer_instance
/-- the number of a date -/
def numI (y m d : Int) : Int :=
  let ys := if m > 2 then y else y - 1
  let ms := if m > 2 then m - 3 else m + 9
  60 + 146097 * ((ys - 2000) / 400) + 365 * ((ys - 2000) % 400) + (ys - 2000) % 400 / 4 - (ys - 2000) % 400 / 100 + (153 * ms + 2) / 5 + d - 1
/-- the date of a number -/
def dateI (n : Int) : Int × Int × Int :=
  let c := (n - 60) / 146097
  let r := (n - 60) % 146097
  let ys := (r - r / 1460 + r / 36524 - r / 146096) / 365
  let r2 := r - 365 * ys - ys / 4 + ys / 100
  let ms := (5 * r2 + 2) / 153
  let m := if ms < 10 then ms + 3 else ms - 9
  (2000 + 400 * c + ys + (if m < 3 then 1 else 0), m, r2 - (153 * ms + 2) / 5 + 1)
theorem leap_iff (y : Int) : leapI y = true ↔ y % 4 = 0 ∧ (y % 100 ≠ 0 ∨ y % 400 = 0) := by simp [leapI]
theorem leap_not (y : Int) : leapI y = false ↔ ¬ (y % 4 = 0 ∧ (y % 100 ≠ 0 ∨ y % 400 = 0)) := by rw [← leap_iff]; simp
theorem len_le (y m : Int) : 28 ≤ lenI y m ∧ lenI y m ≤ 31 := by
  unfold lenI
  split
  · split <;> omega
  · split <;> omega
theorem yr_sum (u : Int) : 146097 * (u / 400) + 365 * (u % 400) + u % 400 / 4 - u % 400 / 100 = 365 * u + u / 4 - u / 100 + u / 400 := by omega
/-- a day more -/
theorem num_d (y m d k : Int) : numI y m (d + k) = numI y m d + k := by unfold numI; dsimp only; omega
/-- the next month -/
theorem num_m {y m : Int} (h1 : 1 ≤ m) (h2 : m ≤ 11) : numI y (m + 1) 1 = numI y m 1 + lenI y m := by
  have hm : m = 1 ∨ m = 2 ∨ m = 3 ∨ m = 4 ∨ m = 5 ∨ m = 6 ∨ m = 7 ∨ m = 8 ∨ m = 9 ∨ m = 10 ∨ m = 11 := by omega
  rcases hm with rfl | rfl | rfl | rfl | rfl | rfl | rfl | rfl | rfl | rfl | rfl
  case inr.inl =>
    unfold numI lenI
    cases hl : leapI y with
    | true =>
      have := (leap_iff y).mp hl
      simp only [show ((2 : Int) + 1 > 2) from by decide, show ¬ ((2 : Int) > 2) from by decide, if_true, if_false]
      have e1 := yr_sum (y - 2000)
      have e2 := yr_sum (y - 1 - 2000)
      omega
    | false =>
      have := (leap_not y).mp hl
      simp only [show ((2 : Int) + 1 > 2) from by decide, show ¬ ((2 : Int) > 2) from by decide, if_true, if_false]
      have e1 := yr_sum (y - 2000)
      have e2 := yr_sum (y - 1 - 2000)
      simp only [Bool.false_eq_true, if_false]
      omega
  all_goals
    unfold numI lenI
    simp (config := { decide := true }) only [if_true, if_false]
    try omega
theorem num_y (y : Int) : numI (y + 1) 1 1 = numI y 12 1 + 31 := by
  unfold numI
  simp (config := { decide := true }) only [if_true, if_false]
  have e : y + 1 - 1 - 2000 = y - 2000 := by omega
  rw [e]
  omega
theorem num_yy (y : Int) : numI (y + 1) 1 1 = numI y 1 1 + 337 + lenI y 2 := by
  have h := fun (m : Int) (h1 : 1 ≤ m) (h2 : m ≤ 11) => num_m (y := y) h1 h2
  have l : ∀ m : Int, m ≠ 2 → lenI y m = if m = 4 ∨ m = 6 ∨ m = 9 ∨ m = 11 then 30 else 31 := fun m hm => if_neg hm
  have h1 := h 1 (by decide) (by decide); have h2 := h 2 (by decide) (by decide); have h3 := h 3 (by decide) (by decide); have h4 := h 4 (by decide) (by decide)
  have h5 := h 5 (by decide) (by decide); have h6 := h 6 (by decide) (by decide); have h7 := h 7 (by decide) (by decide); have h8 := h 8 (by decide) (by decide)
  have h9 := h 9 (by decide) (by decide); have h10 := h 10 (by decide) (by decide); have h11 := h 11 (by decide) (by decide)
  rw [l 1 (by decide), if_neg (by decide)] at h1
  rw [l 3 (by decide), if_neg (by decide)] at h3
  rw [l 4 (by decide), if_pos (by decide)] at h4
  rw [l 5 (by decide), if_neg (by decide)] at h5
  rw [l 6 (by decide), if_pos (by decide)] at h6
  rw [l 7 (by decide), if_neg (by decide)] at h7
  rw [l 8 (by decide), if_neg (by decide)] at h8
  rw [l 9 (by decide), if_pos (by decide)] at h9
  rw [l 10 (by decide), if_neg (by decide)] at h10
  rw [l 11 (by decide), if_pos (by decide)] at h11
  have := num_y y
  simp only [Int.reduceAdd] at *
  omega
/-- years of a cycle -/
def f146 (x : Int) : Int := x - x / 1460 + x / 36524 - x / 146096
theorem f146_succ (x : Int) : f146 x ≤ f146 (x + 1) := by unfold f146; omega
theorem f146_mono (x : Int) : ∀ k : Nat, f146 x ≤ f146 (x + k)
  | 0 => by simp
  | k + 1 => Int.le_trans (f146_mono x k) (by
    have := f146_succ (x + k)
    rw [show x + ((k + 1 : Nat) : Int) = x + k + 1 from by omega]
    exact this)
def st400 (y : Int) : Int := 365 * y + y / 4 - y / 100
theorem chk400 : ∀ n : Nat, n < 400 → 365 * (n : Int) ≤ f146 (st400 n) ∧ f146 (st400 n + (if leapI (n + 1) then 365 else 364)) < 365 * (n + 1) := by decide +kernel
theorem yoe_of {y d : Int} (h0 : 0 ≤ y) (h1 : y < 400) (h2 : 0 ≤ d) (h3 : d ≤ if leapI (y + 1) then 365 else 364) : f146 (st400 y + d) / 365 = y := by
  obtain ⟨n, rfl⟩ := Int.eq_ofNat_of_zero_le h0
  obtain ⟨c1, c2⟩ := chk400 n (by omega)
  have m1 := f146_mono (st400 n) d.toNat
  rw [show ((d.toNat : Nat) : Int) = d from by omega] at m1
  have m2 := f146_mono (st400 n + d) ((if leapI ((n : Int) + 1) then 365 else 364) - d).toNat
  rw [show st400 n + d + ((((if leapI ((n : Int) + 1) then 365 else 364) - d).toNat : Nat) : Int) = st400 n + (if leapI ((n : Int) + 1) then 365 else 364) from by omega] at m2
  omega
theorem date_num {y m d : Int} (h : valid y m d) : dateI (numI y m d) = (y, m, d) := by
  obtain ⟨h1, h2, h3, h4⟩ := h
  have key : ∀ (ys ms : Int), 0 ≤ ms → ms ≤ 11 → (153 * ms + 2) / 5 + d - 1 ≤ (if leapI (ys + 1) then 365 else 364) → ys % 1 = 0 →
      numI y m d = 60 + 146097 * ((ys - 2000) / 400) + st400 ((ys - 2000) % 400) + ((153 * ms + 2) / 5 + d - 1) → (5 * ((153 * ms + 2) / 5 + d - 1) + 2) / 153 = ms →
      y = ys + (if ms < 10 then 0 else 1) → m = (if ms < 10 then ms + 3 else ms - 9) → dateI (numI y m d) = (y, m, d) := by
    intro ys ms k1 k2 k3 _ k4 k5 k6 k7
    have hy0 : 0 ≤ (ys - 2000) % 400 := Int.emod_nonneg _ (by decide)
    have hy1 : (ys - 2000) % 400 < 400 := Int.emod_lt_of_pos _ (by decide)
    have hl : leapI ((ys - 2000) % 400 + 1) = leapI (ys + 1) := by
      have e : leapI ((ys - 2000) % 400 + 1) = true ↔ leapI (ys + 1) = true := by rw [leap_iff, leap_iff]; omega
      exact Bool.eq_iff_iff.mpr e
    have hd0 : 0 ≤ (153 * ms + 2) / 5 + d - 1 := by omega
    generalize hdoy : (153 * ms + 2) / 5 + d - 1 = doy at *
    generalize hyo : (ys - 2000) % 400 = yo at *
    have hyoe := yoe_of hy0 hy1 hd0 (by rw [hl]; exact k3)
    have hst : 0 ≤ st400 yo ∧ st400 yo ≤ 145731 - (if leapI (yo + 1) then 0 else 0) := by unfold st400; constructor <;> (try split) <;> omega
    have hlast : st400 yo + doy < 146097 := by
      have := (chk400 yo.toNat (by omega)).2
      have hle : doy ≤ 365 := by revert k3; split <;> omega
      have : st400 yo ≤ 145731 := by have := hst.2; revert this; split <;> omega
      omega
    unfold dateI
    dsimp only
    rw [k4]
    have q1 : (60 + 146097 * ((ys - 2000) / 400) + st400 yo + doy - 60) / 146097 = (ys - 2000) / 400 := by omega
    have q2 : (60 + 146097 * ((ys - 2000) / 400) + st400 yo + doy - 60) % 146097 = st400 yo + doy := by omega
    rw [q1, q2]
    have q3 : (st400 yo + doy - (st400 yo + doy) / 1460 + (st400 yo + doy) / 36524 - (st400 yo + doy) / 146096) / 365 = yo := hyoe
    rw [q3]
    have q4 : st400 yo + doy - 365 * yo - yo / 4 + yo / 100 = doy := by unfold st400; omega
    rw [q4, k5, ← k7]
    refine Prod.ext ?_ (Prod.ext rfl ?_)
    · show 2000 + 400 * ((ys - 2000) / 400) + yo + (if m < 3 then 1 else 0) = y
      rw [k6, k7]
      split <;> split <;> omega
    · show doy - (153 * ms + 2) / 5 + 1 = d
      omega
  have fix : ∀ (ys ms : Int), numI y m d = 60 + 146097 * ((ys - 2000) / 400) + 365 * ((ys - 2000) % 400) + (ys - 2000) % 400 / 4 - (ys - 2000) % 400 / 100 + (153 * ms + 2) / 5 + d - 1 →
      numI y m d = 60 + 146097 * ((ys - 2000) / 400) + st400 ((ys - 2000) % 400) + ((153 * ms + 2) / 5 + d - 1) := by
    intro ys ms h; rw [h]; unfold st400; omega
  have hle := len_le y m
  have hm : m = 1 ∨ m = 2 ∨ m = 3 ∨ m = 4 ∨ m = 5 ∨ m = 6 ∨ m = 7 ∨ m = 8 ∨ m = 9 ∨ m = 10 ∨ m = 11 ∨ m = 12 := by omega
  have l2 : m = 2 → d ≤ (if leapI (y - 1 + 1) then 29 else 28) := by
    intro e; subst e; rw [show y - 1 + 1 = y from by omega]; exact h4
  have l30 : m = 4 ∨ m = 6 ∨ m = 9 ∨ m = 11 → d ≤ 30 := by
    intro e
    have : lenI y m = 30 := by unfold lenI; rw [if_neg (by omega), if_pos e]
    omega
  have g : ∀ ys : Int, (364 : Int) ≤ if leapI (ys + 1) then 365 else 364 := by intro ys; split <;> omega
  rcases hm with rfl | rfl | rfl | rfl | rfl | rfl | rfl | rfl | rfl | rfl | rfl | rfl
  · exact key (y - 1) 10 (by decide) (by decide) (by have := g (y - 1); omega) (by omega) (fix (y - 1) 10 rfl) (by omega) (by simp) (by simp)
  · exact key (y - 1) 11 (by decide) (by decide) (by have := l2 rfl; revert this; split <;> omega) (by omega) (fix (y - 1) 11 rfl) (by have := l2 rfl; revert this; split <;> omega) (by simp) (by simp)
  · exact key y 0 (by decide) (by decide) (by have := g y; omega) (by omega) (fix y 0 rfl) (by omega) (by simp) (by simp)
  · exact key y 1 (by decide) (by decide) (by have := g y; omega) (by omega) (fix y 1 rfl) (by have := l30 (by decide); omega) (by simp) (by simp)
  · exact key y 2 (by decide) (by decide) (by have := g y; omega) (by omega) (fix y 2 rfl) (by omega) (by simp) (by simp)
  · exact key y 3 (by decide) (by decide) (by have := g y; omega) (by omega) (fix y 3 rfl) (by have := l30 (by decide); omega) (by simp) (by simp)
  · exact key y 4 (by decide) (by decide) (by have := g y; omega) (by omega) (fix y 4 rfl) (by omega) (by simp) (by simp)
  · exact key y 5 (by decide) (by decide) (by have := g y; omega) (by omega) (fix y 5 rfl) (by omega) (by simp) (by simp)
  · exact key y 6 (by decide) (by decide) (by have := g y; omega) (by omega) (fix y 6 rfl) (by have := l30 (by decide); omega) (by simp) (by simp)
  · exact key y 7 (by decide) (by decide) (by have := g y; omega) (by omega) (fix y 7 rfl) (by omega) (by simp) (by simp)
  · exact key y 8 (by decide) (by decide) (by have := g y; omega) (by omega) (fix y 8 rfl) (by have := l30 (by decide); omega) (by simp) (by simp)
  · exact key y 9 (by decide) (by decide) (by have := g y; omega) (by omega) (fix y 9 rfl) (by omega) (by simp) (by simp)

theorem sh_int (i : Int) : SeqAt.shaped (.int i) = true := by simp [SeqAt.shaped, PyData.canLay0, PyData.depth]
theorem sh_bool (i : Bool) : SeqAt.shaped (.bool i) = true := by simp [SeqAt.shaped, PyData.canLay0, PyData.depth]
def sp_is_integer (cl : Nat → Addr) : Spc := ⟨fun as => ∃ i, as = [.fz (.int i)], fun as r as' => ∀ d, as = [.fz d] → as' = as ∧ r = .fz (.bool true), fun _ _ _ => False⟩
def t_is_integer (cl : Nat → Addr) : DS :=
  (sRet (eAnd (eIs isInt (eVar 0)) (eNot (eIs isBool (eVar 0)))))
def sp_check_day (cl : Nat → Addr) : Spc := ⟨fun as => ∃ i, as = [.fz (.int i)], fun as r as' => ∀ d, as = [.fz d] → as' = as ∧ r = .fz .none, fun _ _ _ => False⟩
def t_check_day (cl : Nat → Addr) : DS :=
  (sIf (dNot (dB (eCall (sp_is_integer cl).fs (cFz (eVar 0) cNil)))) (sRaise (cl 1)) sNext)
def sp_date_of (cl : Nat → Addr) : Spc := ⟨fun as => ∃ i, as = [.fz (.int i)] ∧ -(10 ^ 12) < i ∧ i < 10 ^ 12, fun as r as' => ∀ i, as = [.fz (.int i)] → as' = as ∧ r = .fz (.tuple [.int (dateI i).1, .int (dateI i).2.1, .int (dateI i).2.2]), fun _ _ _ => False⟩
def t_date_of (cl : Nat → Addr) : DS :=
  (sSeq (sAsg (eCB dDivmod (aCons (eOp dSub (eVar 0) (eC (.int 60))) (aCons (eC (.int 146097)) aNil))) (gT (gsCons (gN 5) (gsCons (gN 2) gsNil))))
  (sSeq (sSet 1 (eOp dDiv (eOp dSub (eOp dAdd (eOp dSub (eVar 2) (eOp dDiv (eVar 2) (eC (.int 1460)))) (eOp dDiv (eVar 2) (eC (.int 36524)))) (eOp dDiv (eVar 2) (eC (.int 146096)))) (eC (.int 365))))
  (sSeq (sSet 2 (eOp dAdd (eOp dSub (eOp dSub (eVar 2) (eOp dMul (eC (.int 365)) (eVar 1))) (eOp dDiv (eVar 1) (eC (.int 4)))) (eOp dDiv (eVar 1) (eC (.int 100)))))
  (sSeq (sSet 3 (eOp dDiv (eOp dAdd (eOp dMul (eC (.int 5)) (eVar 2)) (eC (.int 2))) (eC (.int 153))))
  (sSeq (sSet 4 (eIf (dB (eOp dLt (eVar 3) (eC (.int 10)))) (eOp dAdd (eVar 3) (eC (.int 3))) (eOp dSub (eVar 3) (eC (.int 9)))))
  (sRet (eTup (fCons (eOp dAdd (eOp dAdd (eOp dAdd (eC (.int 2000)) (eOp dMul (eC (.int 400)) (eVar 5))) (eVar 1)) (eIf (dB (eOp dLt (eVar 4) (eC (.int 3)))) (eC (.int 1)) (eC (.int 0)))) (fCons (eVar 4) (fCons (eOp dAdd (eOp dSub (eVar 2) (eOp dDiv (eOp dAdd (eOp dMul (eC (.int 153)) (eVar 3)) (eC (.int 2))) (eC (.int 5)))) (eC (.int 1))) fNil))))))))))
def sp_number_of_date (cl : Nat → Addr) : Spc := ⟨fun as => ∃ y m d, as = [.fz (.int y), .fz (.int m), .fz (.int d)] ∧ -(10 ^ 12) < y ∧ y < 10 ^ 12 ∧ -(10 ^ 12) < m ∧ m < 10 ^ 12 ∧ -(10 ^ 12) < d ∧ d < 10 ^ 12, fun as r as' => ∀ y m d, as = [.fz (.int y), .fz (.int m), .fz (.int d)] → as' = as ∧ r = .fz (.int (numI y m d)), fun _ _ _ => False⟩
def t_number_of_date (cl : Nat → Addr) : DS :=
  (sSeq (sAsg (eIf (dB (eOp dGt (eVar 1) (eC (.int 2)))) (eTup (fCons (eVar 0) (fCons (eOp dSub (eVar 1) (eC (.int 3))) fNil))) (eTup (fCons (eOp dSub (eVar 0) (eC (.int 1))) (fCons (eOp dAdd (eVar 1) (eC (.int 9))) fNil)))) (gT (gsCons (gN 3) (gsCons (gN 4) gsNil))))
  (sSeq (sAsg (eCB dDivmod (aCons (eOp dSub (eVar 3) (eC (.int 2000))) (aCons (eC (.int 400)) aNil))) (gT (gsCons (gN 5) (gsCons (gN 6) gsNil))))
  (sRet (eOp dSub (eOp dAdd (eOp dAdd (eOp dSub (eOp dAdd (eOp dAdd (eOp dAdd (eC (.int 60)) (eOp dMul (eC (.int 146097)) (eVar 5))) (eOp dMul (eC (.int 365)) (eVar 6))) (eOp dDiv (eVar 6) (eC (.int 4)))) (eOp dDiv (eVar 6) (eC (.int 100)))) (eOp dDiv (eOp dAdd (eOp dMul (eC (.int 153)) (eVar 4)) (eC (.int 2))) (eC (.int 5)))) (eVar 2)) (eC (.int 1))))))
def sp_month_length (cl : Nat → Addr) : Spc := ⟨fun as => ∃ y m, as = [.fz (.int y), .fz (.int m)] ∧ 1 ≤ m ∧ m ≤ 12, fun as r as' => ∀ y m, as = [.fz (.int y), .fz (.int m)] → as' = as ∧ r = .fz (.int (lenI y m)), fun _ _ _ => False⟩
def t_month_length (cl : Nat → Addr) : DS :=
  (sSeq (sIf (dAnd (dB (eOp (dEq false) (eVar 1) (eC (.int 2)))) (dOr (dB (eOp (dEq false) (eOp dMod (eCB dInt (aCons (eVar 0) aNil)) (eC (.int 400))) (eC (.int 0)))) (dAnd (dB (eOp (dEq false) (eOp dMod (eCB dInt (aCons (eVar 0) aNil)) (eC (.int 4))) (eC (.int 0)))) (dB (eOp (dEq true) (eOp dMod (eCB dInt (aCons (eVar 0) aNil)) (eC (.int 100))) (eC (.int 0))))))) (sRet (eC (.int 29))) sNext)
  (sRet (eOp dIx (eC (.tuple [(.int 31), (.int 28), (.int 31), (.int 30), (.int 31), (.int 30), (.int 31), (.int 31), (.int 30), (.int 31), (.int 30), (.int 31)])) (eOp dSub (eVar 1) (eC (.int 1))))))
def sp_date (cl : Nat → Addr) : Spc := sp_date_of cl
def t_date (cl : Nat → Addr) : DS :=
  (sSeq (sDrop (eCall (sp_check_day cl).fs (cFz (eVar 0) cNil)))
  (sRet (eCall (sp_date_of cl).fs (cFz (eVar 0) cNil))))
def sp_day_of (cl : Nat → Addr) : Spc := ⟨fun as => ∃ y m d, as = [.fz (.int y), .fz (.int m), .fz (.int d)] ∧ -(10 ^ 12) < y ∧ y < 10 ^ 12 ∧ -(10 ^ 12) < m ∧ m < 10 ^ 12 ∧ -(10 ^ 12) < d ∧ d < 10 ^ 12,
  fun as r as' => ∀ y m d, as = [.fz (.int y), .fz (.int m), .fz (.int d)] → valid y m d ∧ as' = as ∧ r = .fz (.int (numI y m d)), fun as C as' => ∀ y m d, as = [.fz (.int y), .fz (.int m), .fz (.int d)] → ¬ valid y m d ∧ C = cl 1 ∧ as' = as⟩
def t_day_of_b1 (cl : Nat → Addr) : DS :=
  (sDrop (eCall (sp_check_day cl).fs (cFz (eVar 3) cNil)))
def t_day_of (cl : Nat → Addr) : DS :=
  (sSeq (sFor (iSeq (eTup (fCons (eVar 0) (fCons (eVar 1) (fCons (eVar 2) fNil))))) (gN 3) (t_day_of_b1 cl))
  (sSeq (sIf (dOr (dNot (dB (eChain dLe dLe (eC (.int 1)) (eVar 1) (eC (.int 12))))) (dNot (dB (eChain dLe dLe (eC (.int 1)) (eVar 2) (eCall (sp_month_length cl).fs (cFz (eVar 0) (cFz (eVar 1) cNil))))))) (sRaise (cl 1)) sNext)
  (sRet (eCall (sp_number_of_date cl).fs (cFz (eVar 0) (cFz (eVar 1) (cFz (eVar 2) cNil)))))))
def sp_weekday_of (cl : Nat → Addr) : Spc := ⟨fun as => ∃ i, as = [.fz (.int i)] ∧ -(10 ^ 12) < i ∧ i < 10 ^ 12, fun as r as' => ∀ i, as = [.fz (.int i)] → as' = as ∧ r = .fz (.int ((i - 2) % 7)), fun _ _ _ => False⟩
def t_weekday_of (cl : Nat → Addr) : DS :=
  (sRet (eOp dMod (eCB dInt (aCons (eOp dSub (eVar 0) (eC (.int 2))) aNil)) (eC (.int 7))))
def sp_weekday (cl : Nat → Addr) : Spc := sp_weekday_of cl
def t_weekday (cl : Nat → Addr) : DS :=
  (sSeq (sDrop (eCall (sp_check_day cl).fs (cFz (eVar 0) cNil)))
  (sRet (eCall (sp_weekday_of cl).fs (cFz (eVar 0) cNil))))

def sp__law_take (cl : Nat → Addr) : Spc := ⟨fun as => ∃ a b c n, as = [.ow (.l [.int a, .int b, .int c]), .fz (.int n)] ∧ 0 ≤ b ∧ b < 10 ^ 40 ∧ 0 ≤ c ∧ c < 10 ^ 12 ∧ 0 < n ∧ n < 10 ^ 40,
  fun as r as' => ∀ a b c n, as = [.ow (.l [.int a, .int b, .int c]), .fz (.int n)] → ∃ a' c' v, r = .fz (.int v) ∧ as' = [.ow (.l [.int a', .int b, .int c']), .fz (.int n)] ∧ 0 ≤ v ∧ v < n ∧ c ≤ c' ∧ c' ≤ c + 1, fun _ _ _ => False⟩
def t__law_take (cl : Nat → Addr) : DS :=
  (sSeq (sIf (dB (eOp dGt (eOp dIx (eVar 0) (eC (.int 0))) (eC (.int 0)))) (sSeq (sSet 3 (eOp dMod (eCB dInt (aCons (eOp dIx (eVar 0) (eC (.int 0))) aNil)) (eVar 1)))
  (sSeq (sSt 0 (eOp dDiv (eOp dIx (eVar 0) (eC (.int 0))) (eVar 1)) (eC (.int 0)))
  (sRet (eVar 3)))) sNext)
  (sSeq (sSt 0 (eOp dAdd (eOp dIx (eVar 0) (eC (.int 2))) (eC (.int 1))) (eC (.int 2)))
  (sSeq (sSet 2 (eOp dMod (eOp dPow (eCB dInt (aCons (eOp dAdd (eOp dIx (eVar 0) (eC (.int 1))) (eOp dMul (eC (.int 50021)) (eOp dIx (eVar 0) (eC (.int 2))))) aNil)) (eC (.int 2))) (eOp dAdd (eOp dPow (eC (.int 10)) (eC (.int 38))) (eC (.int 133)))))
  (sSeq (sSet 2 (eOp dMod (eOp dPow (eCB dInt (aCons (eOp dAdd (eVar 2) (eOp dMul (eC (.int 700001)) (eOp dIx (eVar 0) (eC (.int 2))))) aNil)) (eC (.int 3))) (eOp dAdd (eOp dPow (eC (.int 10)) (eC (.int 39))) (eC (.int 3)))))
  (sRet (eOp dMod (eOp dDiv (eVar 2) (eC (.int 262144))) (eVar 1)))))))
def sp__law_purse (cl : Nat → Addr) : Spc := ⟨fun as => ∃ ns t, as = [.sc ns, .fz (.int t)] ∧ 0 ≤ t ∧ t < 100, fun as r as' => ∀ ns t, as = [.sc ns, .fz (.int t)] → ∃ a b, as' = as ∧ r = .ow (.l [.int a, .int b, .int 0]) ∧ 0 ≤ b ∧ b < 10 ^ 40, fun _ _ _ => False⟩
def t__law_purse (cl : Nat → Addr) : DS :=
  (sSeq (sSet 2 (eIf (dB (eOp dLt (eVar 1) (eCB dLen (aCons (eVar 0) aNil)))) (eOp dIx (eVar 0) (eVar 1)) (eC (.int 0))))
  (sRet (eLst (fCons (eCB dMax (aCons (eC (.int 0)) (aCons (eOp dSub (eCB dAbs (aCons (eVar 2) aNil)) (eOp dPow (eC (.int 10)) (eC (.int 18)))) aNil))) (fCons (eOp dAdd (eOp dAdd (eOp dMul (eOp dMod (eCB dInt (aCons (eVar 2) aNil)) (eOp dAdd (eOp dPow (eC (.int 10)) (eC (.int 37))) (eC (.int 9)))) (eC (.int 73))) (eOp dMul (eC (.int 89)) (eVar 1))) (eC (.int 41))) (fCons (eC (.int 0)) fNil))))))
def sp__law_pick (cl : Nat → Addr) : Spc := ⟨fun as => ∃ a b c ds, as = [.ow (.l [.int a, .int b, .int c]), .fz (.list ds)] ∧ 0 ≤ b ∧ b < 10 ^ 40 ∧ 0 ≤ c ∧ c < 10 ^ 12 ∧ 0 < ds.length ∧ ds.length < 1000,
  fun as r as' => ∀ a b c ds, as = [.ow (.l [.int a, .int b, .int c]), .fz (.list ds)] → ∃ a' c' d, d ∈ ds ∧ r = .fz d ∧ as' = [.ow (.l [.int a', .int b, .int c']), .fz (.list ds)] ∧ c ≤ c' ∧ c' ≤ c + 1, fun _ _ _ => False⟩
def t__law_pick (cl : Nat → Addr) : DS :=
  (sRet (eOp dIx (eVar 1) (eCall (sp__law_take cl).fs (cBw (eVar 0) (cFz (eCB dLen (aCons (eVar 1) aNil)) cNil)))))
/-- ints, lists and tuples of such -/
def goodD : Nat → D → Prop
  | 0, _ => False
  | n + 1, d => match d with
    | .int _ => True
    | .list ds => ds.length ≤ 1000 ∧ ∀ e ∈ ds, goodD n e
    | .tuple ds => ds.length ≤ 1000 ∧ ∀ e ∈ ds, goodD n e
    | _ => False
def spM (n : Nat) : Spc := ⟨fun as => ∃ d, as = [.fz d, .fz d] ∧ goodD n d, fun as r as' => ∀ d, as = [.fz d, .fz d] → as' = as ∧ r = .fz (.bool true), fun _ _ _ => False⟩
abbrev sp__law_match (cl : Nat → Addr) : Spc := spM 3
def t__law_match (cl : Nat → Addr) (sr : Spc) : DS :=
  (sSeq (sIf (dOr (dB (eIs isBool (eVar 0))) (dB (eIs isBool (eVar 1)))) (sRet (eAnd (eIs isBool (eVar 0)) (eAnd (eIs isBool (eVar 1)) (eOp (dEq false) (eVar 0) (eVar 1))))) sNext)
  (sSeq (sIf (dOr (dB (eOp (dEq true) (eIs isList (eVar 0)) (eIs isList (eVar 1)))) (dB (eOp (dEq true) (eIs isTuple (eVar 0)) (eIs isTuple (eVar 1))))) (sRet (eC (.bool false))) sNext)
  (sSeq (sIf (dB (eIs (fun d => isList d || isTuple d) (eVar 1))) (sSeq (sIf (dB (eOp (dEq true) (eCB dLen (aCons (eVar 0) aNil)) (eCB dLen (aCons (eVar 1) aNil)))) (sRet (eC (.bool false))) sNext)
  (sRet (eOp (dEq false) (eLc (iRg (aCons (eCB dLen (aCons (eVar 1) aNil)) aNil)) (gN 2) (dNot (dB (eCall sr.fs (cFz (eOp dIx (eVar 0) (eVar 2)) (cFz (eOp dIx (eVar 1) (eVar 2)) cNil))))) (eVar 2) [2]) (eLst fNil)))) sNext)
  (sSeq (sIf (dOr (dB (eOp (dEq true) (eIs isStr (eVar 0)) (eIs isStr (eVar 1)))) (dB (eOp (dEq true) (eIs isInt (eVar 0)) (eIs isInt (eVar 1))))) (sRet (eC (.bool false))) sNext)
  (sRet (eOp (dEq false) (eVar 0) (eVar 1)))))))
def sp__law_long (cl : Nat → Addr) : Spc := ⟨fun as => ∃ y m, as = [.fz (.int y), .fz (.int m)], fun as r as' => ∀ y m, as = [.fz (.int y), .fz (.int m)] → as' = as ∧ r = .fz (.int (lenI y m)), fun _ _ _ => False⟩
def t__law_long (cl : Nat → Addr) : DS :=
  (sSeq (sIf (dB (eOp (dEq false) (eVar 1) (eC (.int 2)))) (sSeq (sSet 2 (eAnd (eOp (dEq false) (eOp dMod (eCB dInt (aCons (eVar 0) aNil)) (eC (.int 4))) (eC (.int 0))) (eOr (eOp (dEq true) (eOp dMod (eCB dInt (aCons (eVar 0) aNil)) (eC (.int 100))) (eC (.int 0))) (eOp (dEq false) (eOp dMod (eCB dInt (aCons (eVar 0) aNil)) (eC (.int 400))) (eC (.int 0))))))
  (sRet (eOp dAdd (eC (.int 28)) (eCB dInt (aCons (eVar 2) aNil))))) sNext)
  (sRet (eIf (dB (eOp (dInn false) (eVar 1) (eTup (fCons (eC (.int 4)) (fCons (eC (.int 6)) (fCons (eC (.int 9)) (fCons (eC (.int 11)) fNil))))))) (eC (.int 30)) (eC (.int 31)))))
def sp__law_counted (cl : Nat → Addr) : Spc := ⟨fun as => ∃ i, as = [.fz (.int i)] ∧ -(10 ^ 10) < i ∧ i < 10 ^ 10, fun as r as' => ∀ i, as = [.fz (.int i)] → -(10 ^ 10) < i → i < 10 ^ 10 → ∃ y m d, as' = as ∧ r = .fz (.tuple [.int y, .int m, .int d]) ∧ valid y m d ∧ numI y m d = i ∧ -(10 ^ 11) < y ∧ y < 10 ^ 11, fun _ _ _ => False⟩
def t__law_counted_b1 (cl : Nat → Addr) : DS :=
  (sPar [2, 4] (fCons (eOp dSub (eVar 2) (eCall (sp__law_long cl).fs (cFz (eVar 3) (cFz (eVar 4) cNil)))) (fCons (eOp dAdd (eVar 4) (eC (.int 1))) fNil)))
def t__law_counted_b2 (cl : Nat → Addr) : DS :=
  (sPar [2, 3] (fCons (eOp dSub (eOp dSub (eVar 2) (eC (.int 337))) (eCall (sp__law_long cl).fs (cFz (eVar 3) (cFz (eC (.int 2)) cNil)))) (fCons (eOp dAdd (eVar 3) (eC (.int 1))) fNil)))
def t__law_counted (cl : Nat → Addr) : DS :=
  (sSeq (sSet 1 (eOp dDiv (eVar 0) (eC (.int 146097))))
  (sSeq (sPar [2, 3, 4] (fCons (eOp dSub (eVar 0) (eOp dMul (eC (.int 146097)) (eVar 1))) (fCons (eOp dAdd (eC (.int 2000)) (eOp dMul (eC (.int 400)) (eVar 1))) (fCons (eC (.int 1)) fNil))))
  (sSeq (sWhile (dB (eOp dGe (eVar 2) (eOp dAdd (eC (.int 337)) (eCall (sp__law_long cl).fs (cFz (eVar 3) (cFz (eC (.int 2)) cNil)))))) (t__law_counted_b2 cl))
  (sSeq (sWhile (dB (eOp dGe (eVar 2) (eCall (sp__law_long cl).fs (cFz (eVar 3) (cFz (eVar 4) cNil))))) (t__law_counted_b1 cl))
  (sRet (eTup (fCons (eVar 3) (fCons (eVar 4) (fCons (eOp dAdd (eVar 2) (eC (.int 1))) fNil)))))))))
def sp__law_drawn_day (cl : Nat → Addr) : Spc := ⟨fun as => ∃ a b c, as = [.ow (.l [.int a, .int b, .int c])] ∧ 0 ≤ b ∧ b < 10 ^ 40 ∧ 0 ≤ c ∧ c < 10 ^ 11,
  fun as r as' => ∀ a b c, as = [.ow (.l [.int a, .int b, .int c])] → ∃ a' c' v, r = .fz (.int v) ∧ as' = [.ow (.l [.int a', .int b, .int c'])] ∧ -(10 ^ 8) < v ∧ v < 10 ^ 8 ∧ c ≤ c' ∧ c' ≤ c + 10, fun _ _ _ => False⟩
def t__law_drawn_day (cl : Nat → Addr) : DS :=
  (sSeq (sPar [3, 4] (fCons (eOp dSub (eCall (sp__law_take cl).fs (cBw (eVar 0) (cFz (eC (.int 4000)) cNil))) (eC (.int 2000))) (fCons (eOp dSub (eCall (sp__law_take cl).fs (cBw (eVar 0) (cFz (eOp dMul (eC (.int 2)) (eOp dPow (eC (.int 10)) (eC (.int 7)))) cNil))) (eOp dPow (eC (.int 10)) (eC (.int 7)))) fNil)))
  (sSeq (sSet 1 (eOp dMul (eC (.int 146097)) (eOp dSub (eCall (sp__law_take cl).fs (cBw (eVar 0) (cFz (eC (.int 9)) cNil))) (eC (.int 4)))))
  (sSeq (sSet 2 (eLst (fCons (eVar 3) (fCons (eVar 4) (fCons (eOp dSub (eOp dAdd (eVar 1) (eCall (sp__law_take cl).fs (cBw (eVar 0) (cFz (eC (.int 5)) cNil)))) (eC (.int 2))) (fCons (eOp dAdd (eOp dAdd (eVar 1) (eC (.int 59))) (eCall (sp__law_take cl).fs (cBw (eVar 0) (cFz (eC (.int 3)) cNil)))) fNil))))))
  (sRet (eCall (sp__law_pick cl).fs (cBw (eVar 0) (cFz (eOp dAdd (eVar 2) (eLst (fCons (eOp dSub (eOp dAdd (eOp dAdd (eVar 1) (eC (.int 36524))) (eCall (sp__law_take cl).fs (cBw (eVar 0) (cFz (eC (.int 70)) cNil)))) (eC (.int 5))) (fCons (eVar 3) (fCons (eC (.int 0)) fNil))))) cNil)))))))
def sp__law_is_no_day (cl : Nat → Addr) : Spc := ⟨fun as => ∃ y m d, as = [.fz (.int y), .fz (.int m), .fz (.int d)] ∧ -(10 ^ 12) < y ∧ y < 10 ^ 12 ∧ -(10 ^ 12) < m ∧ m < 10 ^ 12 ∧ -(10 ^ 12) < d ∧ d < 10 ^ 12,
  fun as r as' => ∀ y m d, as = [.fz (.int y), .fz (.int m), .fz (.int d)] → as' = as ∧ r = .fz (.bool (!decide (valid y m d))), fun _ _ _ => False⟩
def t__law_is_no_day (cl : Nat → Addr) : DS :=
  (sSeq (sTry (some 3) (m_DueError cl) (sDrop (eCall (sp_day_of cl).fs (cFz (eVar 0) (cFz (eVar 1) (cFz (eVar 2) cNil))))) (fun a C => (sRet (eAnd (eIsE 3 a (isx_DueError_InvalidDay cl C)) (eIsE 3 a (isx_DueError_ValueError cl C))))))
  (sRet (eC (.bool false))))
def sp_law (cl : Nat → Addr) : Spc := ⟨fun as => ∃ ns, as = [.sc ns] ∧ ns.length ≤ 63, fun as r as' => ∀ ns, as = [.sc ns] → r = .fz (.bool true), fun _ _ _ => False⟩
def t_law_b1 (cl : Nat → Addr) : DS :=
  (sSeq (sSet 7 (eCall (sp__law_counted cl).fs (cFz (eVar 4) cNil)))
  (sIf (dOr (dNot (dB (eCall (sp__law_match cl).fs (cFz (eCall (sp_date cl).fs (cFz (eVar 4) cNil)) (cFz (eVar 7) cNil))))) (dB (eOp (dEq true) (eCall (sp_day_of cl).fs (cFz (eOp dIx (eVar 7) (eC (.int 0))) (cFz (eOp dIx (eVar 7) (eC (.int 1))) (cFz (eOp dIx (eVar 7) (eC (.int 2))) cNil)))) (eVar 4)))) (sRet (eC (.bool false))) sNext))
def t_law_b2 (cl : Nat → Addr) : DS :=
  (sIf (dNot (dB (eCall (sp__law_is_no_day cl).fs (cFz (eVar 9) (cFz (eVar 6) (cFz (eC (.int 1)) cNil)))))) (sRet (eC (.bool false))) sNext)
def t_law_b3 (cl : Nat → Addr) : DS :=
  (sIf (dNot (dB (eCall (sp__law_is_no_day cl).fs (cFz (eVar 9) (cFz (eOp dIx (eVar 6) (eC (.int 0))) (cFz (eOp dIx (eVar 6) (eC (.int 1))) cNil)))))) (sRet (eC (.bool false))) sNext)
def t_law_b4 (cl : Nat → Addr) : DS :=
  (sIf (dNot (dB (eCall (sp__law_is_no_day cl).fs (cFz (eVar 9) (cFz (eVar 10) (cFz (eVar 6) cNil)))))) (sRet (eC (.bool false))) sNext)
def t_law_b5 (cl : Nat → Addr) : DS :=
  (sSeq (sSet 7 (eCall (sp__law_counted cl).fs (cFz (eVar 4) cNil)))
  (sSeq (sAsg (eVar 7) (gT (gsCons (gN 9) (gsCons (gN 10) (gsCons (gN 11) gsNil)))))
  (sSeq (sIf (dNot (dB (eCall (sp__law_match cl).fs (cFz (eLst (fCons (eCall (sp_date cl).fs (cFz (eVar 4) cNil)) (fCons (eCall (sp_date cl).fs (cPerm [0] (cFz (eVar 4) cNil))) fNil))) (cFz (eLst (fCons (eVar 7) (fCons (eVar 7) fNil))) cNil))))) (sRet (eC (.bool false))) sNext)
  (sSeq (sSet 8 (eLst (fCons (eCall (sp_day_of cl).fs (cFz (eVar 9) (cFz (eVar 10) (cFz (eVar 11) cNil)))) (fCons (eCall (sp_day_of cl).fs (cPerm [2, 1, 0] (cFz (eVar 11) (cFz (eVar 10) (cFz (eVar 9) cNil))))) fNil))))
  (sIf (dOr (dNot (dB (eCall (sp__law_match cl).fs (cFz (eVar 8) (cFz (eLst (fCons (eVar 4) (fCons (eVar 4) fNil))) cNil))))) (dNot (dB (eCall (sp__law_match cl).fs (cFz (eCall (sp_weekday cl).fs (cFz (eVar 4) cNil)) (cFz (eOp dMod (eCB dInt (aCons (eOp dAdd (eVar 4) (eC (.int 5))) aNil)) (eC (.int 7))) cNil)))))) (sRet (eC (.bool false))) sNext)))))
def t_law_b6 (cl : Nat → Addr) : DS :=
  (sSeq (sSet 5 (eCall (sp__law_drawn_day cl).fs (cBw (eVar 2) cNil)))
  (sSeq (sFor (iRg (aCons (eOp dSub (eVar 5) (eC (.int 1))) (aCons (eOp dAdd (eVar 5) (eC (.int 2))) aNil))) (gN 4) (t_law_b5 cl))
  (sSeq (sAsg (eCall (sp__law_counted cl).fs (cFz (eVar 5) cNil)) (gT (gsCons (gN 9) (gsCons (gN 10) (gsCons (gN 11) gsNil)))))
  (sSeq (sPar [12, 13] (fCons (eCall (sp__law_long cl).fs (cFz (eVar 9) (cFz (eVar 10) cNil))) (fCons (eCall (sp__law_take cl).fs (cBw (eVar 2) (cFz (eOp dPow (eC (.int 10)) (eC (.int 6))) cNil))) fNil)))
  (sSeq (sFor (iSeq (eTup (fCons (eC (.int 0)) (fCons (eOp dAdd (eVar 12) (eC (.int 1))) (fCons (eUn dNeg (eC (.int 1))) (fCons (eOp dAdd (eC (.int 32)) (eVar 13)) (fCons (eUn dNeg (eVar 13)) fNil))))))) (gN 6) (t_law_b4 cl))
  (sSeq (sFor (iSeq (eTup (fCons (eTup (fCons (eC (.int 2)) (fCons (eC (.int 30)) fNil))) (fCons (eTup (fCons (eC (.int 2)) (fCons (eC (.int 31)) fNil))) (fCons (eTup (fCons (eC (.int 4)) (fCons (eC (.int 31)) fNil))) (fCons (eTup (fCons (eC (.int 6)) (fCons (eC (.int 31)) fNil))) (fCons (eTup (fCons (eC (.int 9)) (fCons (eC (.int 31)) fNil))) (fCons (eTup (fCons (eC (.int 11)) (fCons (eC (.int 31)) fNil))) fNil)))))))) (gN 6) (t_law_b3 cl))
  (sSeq (sIf (dB (eOp (dEq true) (eCall (sp__law_is_no_day cl).fs (cFz (eVar 9) (cFz (eC (.int 2)) (cFz (eC (.int 29)) cNil)))) (eOp (dEq false) (eCall (sp__law_long cl).fs (cFz (eVar 9) (cFz (eC (.int 2)) cNil))) (eC (.int 28))))) (sRet (eC (.bool false))) sNext)
  (sFor (iSeq (eTup (fCons (eC (.int 0)) (fCons (eC (.int 13)) (fCons (eUn dNeg (eC (.int 1))) (fCons (eOp dAdd (eC (.int 13)) (eVar 13)) (fCons (eUn dNeg (eVar 13)) fNil))))))) (gN 6) (t_law_b2 cl)))))))))
def t_law_b7 (cl : Nat → Addr) : DS :=
  (sSeq (sSet 2 (eCall (sp__law_purse cl).fs (cFz (eVar 0) (cFz (eVar 1) cNil))))
  (sSeq (sFor (iRg (aCons (eC (.int 3)) aNil)) (gN 3) (t_law_b6 cl))
  (sSeq (sIf (dOr (dB (eOp (dEq true) (eCall (sp_weekday cl).fs (cPerm [0] (cFz (eC (.int 0)) cNil))) (eC (.int 5)))) (dNot (dB (eCall (sp__law_match cl).fs (cFz (eCall (sp_date cl).fs (cFz (eC (.int 0)) cNil)) (cFz (eTup (fCons (eC (.int 2000)) (fCons (eC (.int 1)) (fCons (eC (.int 1)) fNil)))) cNil)))))) (sRet (eC (.bool false))) sNext)
  (sFor (iSeq (eTup (fCons (eC (.int 99999999)) (fCons (eUn dNeg (eC (.int 99999999))) (fCons (eOp dSub (eOp dSub (eOp dPow (eC (.int 10)) (eC (.int 8))) (eC (.int 2))) (eCall (sp__law_take cl).fs (cBw (eVar 2) (cFz (eOp dPow (eC (.int 10)) (eC (.int 6))) cNil)))) fNil))))) (gN 4) (t_law_b1 cl)))))
def t_law (cl : Nat → Addr) : DS :=
  (sSeq (sFor (iRg (aCons (eCB dMax (aCons (eC (.int 1)) (aCons (eCB dMin (aCons (eC (.int 4)) (aCons (eCB dLen (aCons (eVar 0) aNil)) aNil))) aNil))) aNil)) (gN 1) (t_law_b7 cl))
  (sRet (eC (.bool true))))
end T18
set_option Elab.async false
set_option linter.all false
set_option maxRecDepth 100000
set_option maxHeartbeats 2000000
namespace T18
open PySem PySem.Spec PyProof.Rows L2 DL
theorem dv_is_integer {w : World} {K : PySem.W.Frag} {mg : Str → Option Value} {base : Heap} {cl : Nat → Addr} {j : Nat} {cdv : Value} {f : Addr} {A : Around} {outer : List Env} {s : Shared} {H : Hp} {E : XK} (T : Tx K mg cl) (hr : Room j (A.deeper (envOfC "is_integer" (defScope s_is_integer) s.heap.objs.size f cdv)))
    : PBD (cxOf (L2.CX PW w) PW w K mg base N_is_integer "is_integer" (defScope s_is_integer) f cdv A outer s H E) (fun cls d _ H => E cls d H) (defBody s_is_integer) (t_is_integer cl) := by
  have h : PBD (cxOf (L2.CX PW w) PW w K mg base N_is_integer "is_integer" (defScope s_is_integer) f cdv A outer s H E) (fun cls d _ H => E cls d H) (defBody s_is_integer) _ := (pbd_one (psd_ret (pd_and (pd_is ist_int rfl T.b_isinstance rfl T.b_int rfl (pd_var 0)) (pd_one (pd_not (pd_is ist_bool rfl T.b_isinstance rfl T.b_bool rfl (pd_var 0)))))))
  exact h
theorem dv_check_day {w : World} {K : PySem.W.Frag} {mg : Str → Option Value} {base : Heap} {cl : Nat → Addr} {j : Nat} {cdv : Value} {f : Addr} {A : Around} {outer : List Env} {s : Shared} {H : Hp} {E : XK} (T : Tx K mg cl) (hr : Room j (A.deeper (envOfC "check_day" (defScope s_check_day) s.heap.objs.size f cdv)))
    (F_is_integer : FnC PW w K mg base j "is_integer" P_is_integer s_is_integer (sp_is_integer cl))
    : PBD (cxOf (L2.CX PW w) PW w K mg base N_check_day "check_day" (defScope s_check_day) f cdv A outer s H E) (fun cls d _ H => E cls d H) (defBody s_check_day) (t_check_day cl) := by
  have h : PBD (cxOf (L2.CX PW w) PW w K mg base N_check_day "check_day" (defScope s_check_day) f cdv A outer s H E) (fun cls d _ H => E cls d H) (defBody s_check_day) _ := (pbd_one (psd_if (ptd_not (ptd_val (pd_callC (takes_of rfl rfl rfl rfl) F_is_integer hr (Nat.le_refl _) bp_is_integer rfl (pcd_fz (pd_var 0) pcd_nil)))) (pbd_one (psd_raise (takes_of rfl rfl rfl rfl) rfl (T.x_InvalidDay) rfl)) pbd_nil))
  exact h
theorem dv_date_of {w : World} {K : PySem.W.Frag} {mg : Str → Option Value} {base : Heap} {cl : Nat → Addr} {j : Nat} {cdv : Value} {f : Addr} {A : Around} {outer : List Env} {s : Shared} {H : Hp} {E : XK} (T : Tx K mg cl) (hr : Room j (A.deeper (envOfC "date_of" (defScope s_date_of) s.heap.objs.size f cdv)))
    : PBD (cxOf (L2.CX PW w) PW w K mg base N_date_of "date_of" (defScope s_date_of) f cdv A outer s H E) (fun cls d _ H => E cls d H) (defBody s_date_of) (t_date_of cl) := by
  have h : PBD (cxOf (L2.CX PW w) PW w K mg base N_date_of "date_of" (defScope s_date_of) f cdv A outer s H E) (fun cls d _ H => E cls d H) (defBody s_date_of) _ := (pbd_cons (psd_asg (pd_callB call_divmodW c_divmod rfl T.b_divmod rfl (pad_cons (pd_bin op_sub c_sub (pd_var 0) (pd_globI rfl T.g_FIRST_MARCH)) (pad_cons (pd_globI rfl T.g_CYCLE) pad_nil))) (pgd_tup rfl (pgsd_cons (pgd_name (i := 5) sc_date_of.nd rfl (by first | exact Or.inl rfl | exact Or.inr rfl)) (pgsd_cons (pgd_name (i := 2) sc_date_of.nd rfl (by first | exact Or.inl rfl | exact Or.inr rfl)) pgsd_nil)) (gs_lenS (gs_lenS gs_len0))))
  (pbd_cons (psd_set 1 sc_date_of.nd (pd_bin op_fdivW c_div (pd_bin op_sub c_sub (pd_bin op_addA c_add (pd_bin op_sub c_sub (pd_var 2) (pd_bin op_fdivW c_div (pd_var 2) pd_int)) (pd_bin op_fdivW c_div (pd_var 2) pd_int)) (pd_bin op_fdivW c_div (pd_var 2) pd_int)) pd_int))
  (pbd_cons (psd_set 2 sc_date_of.nd (pd_bin op_addA c_add (pd_bin op_sub c_sub (pd_bin op_sub c_sub (pd_var 2) (pd_bin op_mulW c_mul pd_int (pd_var 1))) (pd_bin op_fdivW c_div (pd_var 1) pd_int)) (pd_bin op_fdivW c_div (pd_var 1) pd_int)))
  (pbd_cons (psd_set 3 sc_date_of.nd (pd_bin op_fdivW c_div (pd_bin op_addA c_add (pd_bin op_mulW c_mul pd_int (pd_var 2)) pd_int) pd_int))
  (pbd_cons (psd_set 4 sc_date_of.nd (pd_ifExp (ptd_cmp op_lt c_lt (pd_var 3) pd_int (nomark _)) (pd_bin op_addA c_add (pd_var 3) pd_int) (pd_bin op_sub c_sub (pd_var 3) pd_int)))
  (pbd_one (psd_ret (pd_tup (pfd_cons (pd_bin op_addA c_add (pd_bin op_addA c_add (pd_bin op_addA c_add pd_int (pd_bin op_mulW c_mul pd_int (pd_var 5))) (pd_var 1)) (pd_ifExp (ptd_cmp op_lt c_lt (pd_var 4) pd_int (nomark _)) pd_int pd_int)) (pfd_cons (pd_var 4) (pfd_cons (pd_bin op_addA c_add (pd_bin op_sub c_sub (pd_var 2) (pd_bin op_fdivW c_div (pd_bin op_addA c_add (pd_bin op_mulW c_mul pd_int (pd_var 3)) pd_int) pd_int)) pd_int) pfd_nil)))))))))))
  exact h
theorem dv_number_of_date {w : World} {K : PySem.W.Frag} {mg : Str → Option Value} {base : Heap} {cl : Nat → Addr} {j : Nat} {cdv : Value} {f : Addr} {A : Around} {outer : List Env} {s : Shared} {H : Hp} {E : XK} (T : Tx K mg cl) (hr : Room j (A.deeper (envOfC "number_of_date" (defScope s_number_of_date) s.heap.objs.size f cdv)))
    : PBD (cxOf (L2.CX PW w) PW w K mg base N_number_of_date "number_of_date" (defScope s_number_of_date) f cdv A outer s H E) (fun cls d _ H => E cls d H) (defBody s_number_of_date) (t_number_of_date cl) := by
  have h : PBD (cxOf (L2.CX PW w) PW w K mg base N_number_of_date "number_of_date" (defScope s_number_of_date) f cdv A outer s H E) (fun cls d _ H => E cls d H) (defBody s_number_of_date) _ := (pbd_cons (psd_asg (pd_ifExp (ptd_cmp op_gt c_gt (pd_var 1) pd_int (nomark _)) (pd_tup (pfd_cons (pd_var 0) (pfd_cons (pd_bin op_sub c_sub (pd_var 1) pd_int) pfd_nil))) (pd_tup (pfd_cons (pd_bin op_sub c_sub (pd_var 0) pd_int) (pfd_cons (pd_bin op_addA c_add (pd_var 1) pd_int) pfd_nil)))) (pgd_tup rfl (pgsd_cons (pgd_name (i := 3) sc_number_of_date.nd rfl (by first | exact Or.inl rfl | exact Or.inr rfl)) (pgsd_cons (pgd_name (i := 4) sc_number_of_date.nd rfl (by first | exact Or.inl rfl | exact Or.inr rfl)) pgsd_nil)) (gs_lenS (gs_lenS gs_len0))))
  (pbd_cons (psd_asg (pd_callB call_divmodW c_divmod rfl T.b_divmod rfl (pad_cons (pd_bin op_sub c_sub (pd_var 3) pd_int) (pad_cons pd_int pad_nil))) (pgd_tup rfl (pgsd_cons (pgd_name (i := 5) sc_number_of_date.nd rfl (by first | exact Or.inl rfl | exact Or.inr rfl)) (pgsd_cons (pgd_name (i := 6) sc_number_of_date.nd rfl (by first | exact Or.inl rfl | exact Or.inr rfl)) pgsd_nil)) (gs_lenS (gs_lenS gs_len0))))
  (pbd_one (psd_ret (pd_bin op_sub c_sub (pd_bin op_addA c_add (pd_bin op_addA c_add (pd_bin op_sub c_sub (pd_bin op_addA c_add (pd_bin op_addA c_add (pd_bin op_addA c_add (pd_globI rfl T.g_FIRST_MARCH) (pd_bin op_mulW c_mul (pd_globI rfl T.g_CYCLE) (pd_var 5))) (pd_bin op_mulW c_mul pd_int (pd_var 6))) (pd_bin op_fdivW c_div (pd_var 6) pd_int)) (pd_bin op_fdivW c_div (pd_var 6) pd_int)) (pd_bin op_fdivW c_div (pd_bin op_addA c_add (pd_bin op_mulW c_mul pd_int (pd_var 4)) pd_int) pd_int)) (pd_var 2)) pd_int)))))
  exact h
theorem dv_month_length {w : World} {K : PySem.W.Frag} {mg : Str → Option Value} {base : Heap} {cl : Nat → Addr} {j : Nat} {cdv : Value} {f : Addr} {A : Around} {outer : List Env} {s : Shared} {H : Hp} {E : XK} (T : Tx K mg cl) (hr : Room j (A.deeper (envOfC "month_length" (defScope s_month_length) s.heap.objs.size f cdv)))
    : PBD (cxOf (L2.CX PW w) PW w K mg base N_month_length "month_length" (defScope s_month_length) f cdv A outer s H E) (fun cls d _ H => E cls d H) (defBody s_month_length) (t_month_length cl) := by
  have h : PBD (cxOf (L2.CX PW w) PW w K mg base N_month_length "month_length" (defScope s_month_length) f cdv A outer s H E) (fun cls d _ H => E cls d H) (defBody s_month_length) _ := (pbd_cons (psd_if (PWD.pt (pwd_and (ptd_cmp (op_eqD hr.units) c_eq (pd_var 1) pd_int (nomark _)) (pwd_and1 (PWD.pt (pwd_or (ptd_cmp (op_eqD hr.units) c_eq (pd_bin op_mod c_mod (pd_callTy call_int1 c_int rfl T.b_int rfl (pad_cons (pd_var 0) pad_nil)) pd_int) pd_int (nomark _)) (pwd_or1 (PWD.pt (pwd_and (ptd_cmp (op_eqD hr.units) c_eq (pd_bin op_mod c_mod (pd_callTy call_int1 c_int rfl T.b_int rfl (pad_cons (pd_var 0) pad_nil)) pd_int) pd_int (nomark _)) (pwd_and1 (ptd_cmp (op_neD hr.units) c_ne (pd_bin op_mod c_mod (pd_callTy call_int1 c_int rfl T.b_int rfl (pad_cons (pd_var 0) pad_nil)) pd_int) pd_int (nomark _))))))))))) (pbd_one (psd_ret pd_int)) pbd_nil)
  (pbd_one (psd_ret (pd_ix ix_seq c_ix (pd_globR rfl T.g_MONTH_DAYS) (pd_bin op_sub c_sub (pd_var 1) pd_int) (fun _ _ => rfl)))))
  exact h
theorem dv_date {w : World} {K : PySem.W.Frag} {mg : Str → Option Value} {base : Heap} {cl : Nat → Addr} {j : Nat} {cdv : Value} {f : Addr} {A : Around} {outer : List Env} {s : Shared} {H : Hp} {E : XK} (T : Tx K mg cl) (hr : Room j (A.deeper (envOfC "date" (defScope s_date) s.heap.objs.size f cdv)))
    (F_date_of : FnC PW w K mg base j "date_of" P_date_of s_date_of (sp_date_of cl))
    (F_check_day : FnC PW w K mg base j "check_day" P_check_day s_check_day (sp_check_day cl))
    : PBD (cxOf (L2.CX PW w) PW w K mg base N_date "date" (defScope s_date) f cdv A outer s H E) (fun cls d _ H => E cls d H) (defBody s_date) (t_date cl) := by
  have h : PBD (cxOf (L2.CX PW w) PW w K mg base N_date "date" (defScope s_date) f cdv A outer s H E) (fun cls d _ H => E cls d H) (defBody s_date) _ := (pbd_cons (psd_expr (pd_callC (takes_of rfl rfl rfl rfl) F_check_day hr (Nat.le_refl _) bp_check_day rfl (pcd_fz (pd_var 0) pcd_nil)))
  (pbd_one (psd_ret (pd_callC (takes_of rfl rfl rfl rfl) F_date_of hr (Nat.le_refl _) bp_date_of rfl (pcd_fz (pd_var 0) pcd_nil)))))
  exact h
theorem dv_day_of {w : World} {K : PySem.W.Frag} {mg : Str → Option Value} {base : Heap} {cl : Nat → Addr} {j : Nat} {cdv : Value} {f : Addr} {A : Around} {outer : List Env} {s : Shared} {H : Hp} {E : XK} (T : Tx K mg cl) (hr : Room j (A.deeper (envOfC "day_of" (defScope s_day_of) s.heap.objs.size f cdv)))
    (F_number_of_date : FnC PW w K mg base j "number_of_date" P_number_of_date s_number_of_date (sp_number_of_date cl))
    (F_month_length : FnC PW w K mg base j "month_length" P_month_length s_month_length (sp_month_length cl))
    (F_check_day : FnC PW w K mg base j "check_day" P_check_day s_check_day (sp_check_day cl))
    : PBD (cxOf (L2.CX PW w) PW w K mg base N_day_of "day_of" (defScope s_day_of) f cdv A outer s H E) (fun cls d _ H => E cls d H) (defBody s_day_of) (t_day_of cl) := by
  have h : PBD (cxOf (L2.CX PW w) PW w K mg base N_day_of "day_of" (defScope s_day_of) f cdv A outer s H E) (fun cls d _ H => E cls d H) (defBody s_day_of) _ := (pbd_cons (psd_for (passes_of rfl) rfl (pid_seq (pd_tup (pfd_cons (pd_var 0) (pfd_cons (pd_var 1) (pfd_cons (pd_var 2) pfd_nil))))) (pgd_name (i := 3) sc_day_of.nd rfl (by first | exact Or.inl rfl | exact Or.inr rfl)) (pbd_one (psd_expr (pd_callC (takes_of rfl rfl rfl rfl) F_check_day hr (Nat.le_refl _) bp_check_day rfl (pcd_fz (pd_var 3) pcd_nil)))))
  (pbd_cons (psd_if (PWD.pt (pwd_or (ptd_not (ptd_chain op_le c_le op_le c_le pd_int (pd_var 1) pd_int)) (pwd_or1 (ptd_not (ptd_chain op_le c_le op_le c_le pd_int (pd_var 2) (pd_callC (takes_of rfl rfl rfl rfl) F_month_length hr (Nat.le_refl _) bp_month_length rfl (pcd_fz (pd_var 0) (pcd_fz (pd_var 1) pcd_nil)))))))) (pbd_one (psd_raise (takes_of rfl rfl rfl rfl) rfl (T.x_InvalidDay) rfl)) pbd_nil)
  (pbd_one (psd_ret (pd_callC (takes_of rfl rfl rfl rfl) F_number_of_date hr (Nat.le_refl _) bp_number_of_date rfl (pcd_fz (pd_var 0) (pcd_fz (pd_var 1) (pcd_fz (pd_var 2) pcd_nil))))))))
  exact h
theorem dv_weekday_of {w : World} {K : PySem.W.Frag} {mg : Str → Option Value} {base : Heap} {cl : Nat → Addr} {j : Nat} {cdv : Value} {f : Addr} {A : Around} {outer : List Env} {s : Shared} {H : Hp} {E : XK} (T : Tx K mg cl) (hr : Room j (A.deeper (envOfC "weekday_of" (defScope s_weekday_of) s.heap.objs.size f cdv)))
    : PBD (cxOf (L2.CX PW w) PW w K mg base N_weekday_of "weekday_of" (defScope s_weekday_of) f cdv A outer s H E) (fun cls d _ H => E cls d H) (defBody s_weekday_of) (t_weekday_of cl) := by
  have h : PBD (cxOf (L2.CX PW w) PW w K mg base N_weekday_of "weekday_of" (defScope s_weekday_of) f cdv A outer s H E) (fun cls d _ H => E cls d H) (defBody s_weekday_of) _ := (pbd_one (psd_ret (pd_bin op_mod c_mod (pd_callTy call_int1 c_int rfl T.b_int rfl (pad_cons (pd_bin op_sub c_sub (pd_var 0) (pd_globI rfl T.g_FIRST_MONDAY)) pad_nil)) pd_int)))
  exact h
theorem dv_weekday {w : World} {K : PySem.W.Frag} {mg : Str → Option Value} {base : Heap} {cl : Nat → Addr} {j : Nat} {cdv : Value} {f : Addr} {A : Around} {outer : List Env} {s : Shared} {H : Hp} {E : XK} (T : Tx K mg cl) (hr : Room j (A.deeper (envOfC "weekday" (defScope s_weekday) s.heap.objs.size f cdv)))
    (F_weekday_of : FnC PW w K mg base j "weekday_of" P_weekday_of s_weekday_of (sp_weekday_of cl))
    (F_check_day : FnC PW w K mg base j "check_day" P_check_day s_check_day (sp_check_day cl))
    : PBD (cxOf (L2.CX PW w) PW w K mg base N_weekday "weekday" (defScope s_weekday) f cdv A outer s H E) (fun cls d _ H => E cls d H) (defBody s_weekday) (t_weekday cl) := by
  have h : PBD (cxOf (L2.CX PW w) PW w K mg base N_weekday "weekday" (defScope s_weekday) f cdv A outer s H E) (fun cls d _ H => E cls d H) (defBody s_weekday) _ := (pbd_cons (psd_expr (pd_callC (takes_of rfl rfl rfl rfl) F_check_day hr (Nat.le_refl _) bp_check_day rfl (pcd_fz (pd_var 0) pcd_nil)))
  (pbd_one (psd_ret (pd_callC (takes_of rfl rfl rfl rfl) F_weekday_of hr (Nat.le_refl _) bp_weekday_of rfl (pcd_fz (pd_var 0) pcd_nil)))))
  exact h
theorem dv__law_purse {w : World} {K : PySem.W.Frag} {mg : Str → Option Value} {base : Heap} {cl : Nat → Addr} {j : Nat} {cdv : Value} {f : Addr} {A : Around} {outer : List Env} {s : Shared} {H : Hp} {E : XK} (T : Tx K mg cl) (hr : Room j (A.deeper (envOfC "_law_purse" (defScope s__law_purse) s.heap.objs.size f cdv)))
    : PBD (cxOf (L2.CX PW w) PW w K mg base N__law_purse "_law_purse" (defScope s__law_purse) f cdv A outer s H E) (fun cls d _ H => E cls d H) (defBody s__law_purse) (t__law_purse cl) := by
  have h : PBD (cxOf (L2.CX PW w) PW w K mg base N__law_purse "_law_purse" (defScope s__law_purse) f cdv A outer s H E) (fun cls d _ H => E cls d H) (defBody s__law_purse) _ := (pbd_cons (psd_set 2 sc__law_purse.nd (pd_ifExp (ptd_cmp op_lt c_lt (pd_var 1) (pd_callB call_len c_len rfl T.b_len rfl (pad_cons (pd_var 0) pad_nil)) (nomark _)) (pd_ix ix_seq c_ix (pd_var 0) (pd_var 1) (fun _ _ => rfl)) pd_int))
  (pbd_one (psd_ret (pd_lst (pfd_cons (pd_callB (cr_maxA rfl) c_max rfl T.b_max rfl (pad_cons pd_int (pad_cons (pd_bin op_sub c_sub (pd_callB call_abs c_abs rfl T.b_abs rfl (pad_cons (pd_var 2) pad_nil)) (pd_bin op_powW c_pow pd_int pd_int)) pad_nil))) (pfd_cons (pd_bin op_addA c_add (pd_bin op_addA c_add (pd_bin op_mulW c_mul (pd_bin op_mod c_mod (pd_callTy call_int1 c_int rfl T.b_int rfl (pad_cons (pd_var 2) pad_nil)) (pd_bin op_addA c_add (pd_bin op_powW c_pow pd_int pd_int) pd_int)) pd_int) (pd_bin op_mulW c_mul pd_int (pd_var 1))) pd_int) (pfd_cons pd_int pfd_nil)))))))
  exact h
theorem dv__law_take {w : World} {K : PySem.W.Frag} {mg : Str → Option Value} {base : Heap} {cl : Nat → Addr} {j : Nat} {cdv : Value} {f : Addr} {A : Around} {outer : List Env} {s : Shared} {H : Hp} {E : XK} (T : Tx K mg cl) (hr : Room j (A.deeper (envOfC "_law_take" (defScope s__law_take) s.heap.objs.size f cdv)))
    : PBD (cxOf (L2.CX PW w) PW w K mg base N__law_take "_law_take" (defScope s__law_take) f cdv A outer s H E) (fun cls d _ H => E cls d H) (defBody s__law_take) (t__law_take cl) := by
  have h : PBD (cxOf (L2.CX PW w) PW w K mg base N__law_take "_law_take" (defScope s__law_take) f cdv A outer s H E) (fun cls d _ H => E cls d H) (defBody s__law_take) _ := (pbd_cons (psd_if (ptd_cmp op_gt c_gt (pd_ix ix_seq c_ix (pd_var 0) pd_int (fun _ _ => rfl)) pd_int (nomark _)) (pbd_cons (psd_set 3 sc__law_take.nd (pd_bin op_mod c_mod (pd_callTy call_int1 c_int rfl T.b_int rfl (pad_cons (pd_ix ix_seq c_ix (pd_var 0) pd_int (fun _ _ => rfl)) pad_nil)) (pd_var 1)))
  (pbd_cons (psd_st 0 (pd_bin op_fdivW c_div (pd_ix ix_seq c_ix (pd_var 0) pd_int (fun _ _ => rfl)) (pd_var 1)) pd_int)
  (pbd_one (psd_ret (pd_var 3))))) pbd_nil)
  (pbd_cons (psd_st 0 (pd_bin op_addA c_add (pd_ix ix_seq c_ix (pd_var 0) pd_int (fun _ _ => rfl)) pd_int) pd_int)
  (pbd_cons (psd_set 2 sc__law_take.nd (pd_bin op_mod c_mod (pd_bin op_powW c_pow (pd_callTy call_int1 c_int rfl T.b_int rfl (pad_cons (pd_bin op_addA c_add (pd_ix ix_seq c_ix (pd_var 0) pd_int (fun _ _ => rfl)) (pd_bin op_mulW c_mul pd_int (pd_ix ix_seq c_ix (pd_var 0) pd_int (fun _ _ => rfl)))) pad_nil)) pd_int) (pd_bin op_addA c_add (pd_bin op_powW c_pow pd_int pd_int) pd_int)))
  (pbd_cons (psd_set 2 sc__law_take.nd (pd_bin op_mod c_mod (pd_bin op_powW c_pow (pd_callTy call_int1 c_int rfl T.b_int rfl (pad_cons (pd_bin op_addA c_add (pd_var 2) (pd_bin op_mulW c_mul pd_int (pd_ix ix_seq c_ix (pd_var 0) pd_int (fun _ _ => rfl)))) pad_nil)) pd_int) (pd_bin op_addA c_add (pd_bin op_powW c_pow pd_int pd_int) pd_int)))
  (pbd_one (psd_ret (pd_bin op_mod c_mod (pd_bin op_fdivW c_div (pd_var 2) pd_int) (pd_var 1))))))))
  exact h
theorem dv__law_pick {w : World} {K : PySem.W.Frag} {mg : Str → Option Value} {base : Heap} {cl : Nat → Addr} {j : Nat} {cdv : Value} {f : Addr} {A : Around} {outer : List Env} {s : Shared} {H : Hp} {E : XK} (T : Tx K mg cl) (hr : Room j (A.deeper (envOfC "_law_pick" (defScope s__law_pick) s.heap.objs.size f cdv)))
    (F__law_take : FnC PW w K mg base j "_law_take" P__law_take s__law_take (sp__law_take cl))
    : PBD (cxOf (L2.CX PW w) PW w K mg base N__law_pick "_law_pick" (defScope s__law_pick) f cdv A outer s H E) (fun cls d _ H => E cls d H) (defBody s__law_pick) (t__law_pick cl) := by
  have h : PBD (cxOf (L2.CX PW w) PW w K mg base N__law_pick "_law_pick" (defScope s__law_pick) f cdv A outer s H E) (fun cls d _ H => E cls d H) (defBody s__law_pick) _ := (pbd_one (psd_ret (pd_ix ix_seq c_ix (pd_var 1) (pd_callC (takes_of rfl rfl rfl rfl) F__law_take hr (Nat.le_refl _) bp__law_take rfl (pcd_bw (pd_var 0) (pcd_fz (pd_callB call_len c_len rfl T.b_len rfl (pad_cons (pd_var 1) pad_nil)) pcd_nil))) (fun _ _ => rfl))))
  exact h
theorem dv__law_match {w : World} {K : PySem.W.Frag} {mg : Str → Option Value} {base : Heap} {cl : Nat → Addr} {sr : Spc} {j : Nat} {cdv : Value} {f : Addr} {A : Around} {outer : List Env} {s : Shared} {H : Hp} {E : XK} (T : Tx K mg cl) (hr : Room j (A.deeper (envOfC "_law_match" (defScope s__law_match) s.heap.objs.size f cdv)))
    (F__law_match : FnC PW w K mg base j "_law_match" P__law_match s__law_match sr)
    : PBD (cxOf (L2.CX PW w) PW w K mg base N__law_match "_law_match" (defScope s__law_match) f cdv A outer s H E) (fun cls d _ H => E cls d H) (defBody s__law_match) (t__law_match cl sr) := by
  have h : PBD (cxOf (L2.CX PW w) PW w K mg base N__law_match "_law_match" (defScope s__law_match) f cdv A outer s H E) (fun cls d _ H => E cls d H) (defBody s__law_match) _ := (pbd_cons (psd_if (PWD.pt (pwd_or (ptd_val (pd_is ist_bool rfl T.b_isinstance rfl T.b_bool rfl (pd_var 0))) (pwd_or1 (ptd_val (pd_is ist_bool rfl T.b_isinstance rfl T.b_bool rfl (pd_var 1)))))) (pbd_one (psd_ret (pd_and (pd_is ist_bool rfl T.b_isinstance rfl T.b_bool rfl (pd_var 0)) (pd_and (pd_is ist_bool rfl T.b_isinstance rfl T.b_bool rfl (pd_var 1)) (pd_one (pd_cmp (op_eqD hr.units) c_eq (pd_var 0) (pd_var 1) (nomark _))))))) pbd_nil)
  (pbd_cons (psd_if (PWD.pt (pwd_or (ptd_cmp (op_neD hr.units) c_ne (pd_is ist_list rfl T.b_isinstance rfl T.b_list rfl (pd_var 0)) (pd_is ist_list rfl T.b_isinstance rfl T.b_list rfl (pd_var 1)) (nomark _)) (pwd_or1 (ptd_cmp (op_neD hr.units) c_ne (pd_is ist_tuple rfl T.b_isinstance rfl T.b_tuple rfl (pd_var 0)) (pd_is ist_tuple rfl T.b_isinstance rfl T.b_tuple rfl (pd_var 1)) (nomark _))))) (pbd_one (psd_ret pd_bl)) pbd_nil)
  (pbd_cons (psd_if (ptd_val (pd_is2 ist_list ist_tuple rfl T.b_isinstance rfl T.b_list rfl rfl T.b_tuple rfl (pd_var 1))) (pbd_cons (psd_if (ptd_cmp (op_neD hr.units) c_ne (pd_callB call_len c_len rfl T.b_len rfl (pad_cons (pd_var 0) pad_nil)) (pd_callB call_len c_len rfl T.b_len rfl (pad_cons (pd_var 1) pad_nil)) (nomark _)) (pbd_one (psd_ret pd_bl)) pbd_nil)
  (pbd_one (psd_ret (pd_cmp (op_eqD hr.units) c_eq (pd_lc (own := [("k", 2)]) rfl sc__law_match.nd (pid_range1 rfl T.b_range (pad_cons (pd_callB call_len c_len rfl T.b_len rfl (pad_cons (pd_var 1) pad_nil)) pad_nil)) (blkOk_by (N := N__law_match) (sc := defScope s__law_match) (own := [("k", 2)]) (by decide +kernel)) (fun _ => (pgd_name (i := 2) sc__law_match.nd rfl (by first | exact Or.inl rfl | exact Or.inr rfl))) (fun _ => (ptsd_one (ptd_not (ptd_val (pd_callC takes0 F__law_match hr (Nat.le_refl _) bp__law_match rfl (pcd_fz (pd_ix ix_seq c_ix (pd_var 0) (pd_var 2) (fun _ _ => rfl)) (pcd_fz (pd_ix ix_seq c_ix (pd_var 1) (pd_var 2) (fun _ _ => rfl)) pcd_nil))))))) (fun _ => (pd_var 2))) (pd_lst pfd_nil) (nomark _))))) pbd_nil)
  (pbd_cons (psd_if (PWD.pt (pwd_or (ptd_cmp (op_neD hr.units) c_ne (pd_is ist_str rfl T.b_isinstance rfl T.b_str rfl (pd_var 0)) (pd_is ist_str rfl T.b_isinstance rfl T.b_str rfl (pd_var 1)) (nomark _)) (pwd_or1 (ptd_cmp (op_neD hr.units) c_ne (pd_is ist_int rfl T.b_isinstance rfl T.b_int rfl (pd_var 0)) (pd_is ist_int rfl T.b_isinstance rfl T.b_int rfl (pd_var 1)) (nomark _))))) (pbd_one (psd_ret pd_bl)) pbd_nil)
  (pbd_one (psd_ret (pd_cmp (op_eqD hr.units) c_eq (pd_var 0) (pd_var 1) (nomark _))))))))
  exact h
theorem dv__law_long {w : World} {K : PySem.W.Frag} {mg : Str → Option Value} {base : Heap} {cl : Nat → Addr} {j : Nat} {cdv : Value} {f : Addr} {A : Around} {outer : List Env} {s : Shared} {H : Hp} {E : XK} (T : Tx K mg cl) (hr : Room j (A.deeper (envOfC "_law_long" (defScope s__law_long) s.heap.objs.size f cdv)))
    : PBD (cxOf (L2.CX PW w) PW w K mg base N__law_long "_law_long" (defScope s__law_long) f cdv A outer s H E) (fun cls d _ H => E cls d H) (defBody s__law_long) (t__law_long cl) := by
  have h : PBD (cxOf (L2.CX PW w) PW w K mg base N__law_long "_law_long" (defScope s__law_long) f cdv A outer s H E) (fun cls d _ H => E cls d H) (defBody s__law_long) _ := (pbd_cons (psd_if (ptd_cmp (op_eqD hr.units) c_eq (pd_var 1) pd_int (nomark _)) (pbd_cons (psd_set 2 sc__law_long.nd (pd_and (pd_cmp (op_eqD hr.units) c_eq (pd_bin op_mod c_mod (pd_callTy call_int1 c_int rfl T.b_int rfl (pad_cons (pd_var 0) pad_nil)) pd_int) pd_int (nomark _)) (pd_one (pd_or (pd_cmp (op_neD hr.units) c_ne (pd_bin op_mod c_mod (pd_callTy call_int1 c_int rfl T.b_int rfl (pad_cons (pd_var 0) pad_nil)) pd_int) pd_int (nomark _)) (pd_one (pd_cmp (op_eqD hr.units) c_eq (pd_bin op_mod c_mod (pd_callTy call_int1 c_int rfl T.b_int rfl (pad_cons (pd_var 0) pad_nil)) pd_int) pd_int (nomark _)))))))
  (pbd_one (psd_ret (pd_bin op_addA c_add pd_int (pd_callTy call_int1 c_int rfl T.b_int rfl (pad_cons (pd_var 2) pad_nil)))))) pbd_nil)
  (pbd_one (psd_ret (pd_ifExp (ptd_cmp (op_inA (u65 hr)) (c_inn false) (pd_var 1) (pd_tup (pfd_cons pd_int (pfd_cons pd_int (pfd_cons pd_int (pfd_cons pd_int pfd_nil))))) (by with_unfolding_all rfl)) pd_int pd_int))))
  exact h
theorem dv__law_counted {w : World} {K : PySem.W.Frag} {mg : Str → Option Value} {base : Heap} {cl : Nat → Addr} {j : Nat} {cdv : Value} {f : Addr} {A : Around} {outer : List Env} {s : Shared} {H : Hp} {E : XK} (T : Tx K mg cl) (hr : Room j (A.deeper (envOfC "_law_counted" (defScope s__law_counted) s.heap.objs.size f cdv)))
    (F__law_long : FnC PW w K mg base j "_law_long" P__law_long s__law_long (sp__law_long cl))
    : PBD (cxOf (L2.CX PW w) PW w K mg base N__law_counted "_law_counted" (defScope s__law_counted) f cdv A outer s H E) (fun cls d _ H => E cls d H) (defBody s__law_counted) (t__law_counted cl) := by
  have h : PBD (cxOf (L2.CX PW w) PW w K mg base N__law_counted "_law_counted" (defScope s__law_counted) f cdv A outer s H E) (fun cls d _ H => E cls d H) (defBody s__law_counted) _ := (pbd_cons (psd_set 1 sc__law_counted.nd (pd_bin op_fdivW c_div (pd_var 0) pd_int))
  (pbd_cons (psd_par3 2 3 4 rfl sc__law_counted.nd (pfd_cons (pd_bin op_sub c_sub (pd_var 0) (pd_bin op_mulW c_mul pd_int (pd_var 1))) (pfd_cons (pd_bin op_addA c_add pd_int (pd_bin op_mulW c_mul pd_int (pd_var 1))) (pfd_cons pd_int pfd_nil))))
  (pbd_cons (psd_while (passes_of rfl) (ptd_cmp op_ge c_ge (pd_var 2) (pd_bin op_addA c_add pd_int (pd_callC (takes_of rfl rfl rfl rfl) F__law_long hr (Nat.le_refl _) bp__law_long rfl (pcd_fz (pd_var 3) (pcd_fz pd_int pcd_nil)))) (nomark _)) (pbd_one (psd_par 2 3 rfl sc__law_counted.nd (pfd_cons (pd_bin op_sub c_sub (pd_bin op_sub c_sub (pd_var 2) pd_int) (pd_callC (takes_of rfl rfl rfl rfl) F__law_long hr (Nat.le_refl _) bp__law_long rfl (pcd_fz (pd_var 3) (pcd_fz pd_int pcd_nil)))) (pfd_cons (pd_bin op_addA c_add (pd_var 3) pd_int) pfd_nil)))))
  (pbd_cons (psd_while (passes_of rfl) (ptd_cmp op_ge c_ge (pd_var 2) (pd_callC (takes_of rfl rfl rfl rfl) F__law_long hr (Nat.le_refl _) bp__law_long rfl (pcd_fz (pd_var 3) (pcd_fz (pd_var 4) pcd_nil))) (nomark _)) (pbd_one (psd_par 2 4 rfl sc__law_counted.nd (pfd_cons (pd_bin op_sub c_sub (pd_var 2) (pd_callC (takes_of rfl rfl rfl rfl) F__law_long hr (Nat.le_refl _) bp__law_long rfl (pcd_fz (pd_var 3) (pcd_fz (pd_var 4) pcd_nil)))) (pfd_cons (pd_bin op_addA c_add (pd_var 4) pd_int) pfd_nil)))))
  (pbd_one (psd_ret (pd_tup (pfd_cons (pd_var 3) (pfd_cons (pd_var 4) (pfd_cons (pd_bin op_addA c_add (pd_var 2) pd_int) pfd_nil))))))))))
  exact h
theorem dv__law_drawn_day {w : World} {K : PySem.W.Frag} {mg : Str → Option Value} {base : Heap} {cl : Nat → Addr} {j : Nat} {cdv : Value} {f : Addr} {A : Around} {outer : List Env} {s : Shared} {H : Hp} {E : XK} (T : Tx K mg cl) (hr : Room j (A.deeper (envOfC "_law_drawn_day" (defScope s__law_drawn_day) s.heap.objs.size f cdv)))
    (F__law_pick : FnC PW w K mg base j "_law_pick" P__law_pick s__law_pick (sp__law_pick cl))
    (F__law_take : FnC PW w K mg base j "_law_take" P__law_take s__law_take (sp__law_take cl))
    : PBD (cxOf (L2.CX PW w) PW w K mg base N__law_drawn_day "_law_drawn_day" (defScope s__law_drawn_day) f cdv A outer s H E) (fun cls d _ H => E cls d H) (defBody s__law_drawn_day) (t__law_drawn_day cl) := by
  have h : PBD (cxOf (L2.CX PW w) PW w K mg base N__law_drawn_day "_law_drawn_day" (defScope s__law_drawn_day) f cdv A outer s H E) (fun cls d _ H => E cls d H) (defBody s__law_drawn_day) _ := (pbd_cons (psd_par 3 4 rfl sc__law_drawn_day.nd (pfd_cons (pd_bin op_sub c_sub (pd_callC (takes_of rfl rfl rfl rfl) F__law_take hr (Nat.le_refl _) bp__law_take rfl (pcd_bw (pd_var 0) (pcd_fz pd_int pcd_nil))) pd_int) (pfd_cons (pd_bin op_sub c_sub (pd_callC (takes_of rfl rfl rfl rfl) F__law_take hr (Nat.le_refl _) bp__law_take rfl (pcd_bw (pd_var 0) (pcd_fz (pd_bin op_mulW c_mul pd_int (pd_bin op_powW c_pow pd_int pd_int)) pcd_nil))) (pd_bin op_powW c_pow pd_int pd_int)) pfd_nil)))
  (pbd_cons (psd_set 1 sc__law_drawn_day.nd (pd_bin op_mulW c_mul pd_int (pd_bin op_sub c_sub (pd_callC (takes_of rfl rfl rfl rfl) F__law_take hr (Nat.le_refl _) bp__law_take rfl (pcd_bw (pd_var 0) (pcd_fz pd_int pcd_nil))) pd_int)))
  (pbd_cons (psd_set 2 sc__law_drawn_day.nd (pd_lst (pfd_cons (pd_var 3) (pfd_cons (pd_var 4) (pfd_cons (pd_bin op_sub c_sub (pd_bin op_addA c_add (pd_var 1) (pd_callC (takes_of rfl rfl rfl rfl) F__law_take hr (Nat.le_refl _) bp__law_take rfl (pcd_bw (pd_var 0) (pcd_fz pd_int pcd_nil)))) pd_int) (pfd_cons (pd_bin op_addA c_add (pd_bin op_addA c_add (pd_var 1) pd_int) (pd_callC (takes_of rfl rfl rfl rfl) F__law_take hr (Nat.le_refl _) bp__law_take rfl (pcd_bw (pd_var 0) (pcd_fz pd_int pcd_nil)))) pfd_nil))))))
  (pbd_one (psd_ret (pd_callC (takes_of rfl rfl rfl rfl) F__law_pick hr (Nat.le_refl _) bp__law_pick rfl (pcd_bw (pd_var 0) (pcd_fz (pd_bin op_addA c_add (pd_var 2) (pd_lst (pfd_cons (pd_bin op_sub c_sub (pd_bin op_addA c_add (pd_bin op_addA c_add (pd_var 1) pd_int) (pd_callC (takes_of rfl rfl rfl rfl) F__law_take hr (Nat.le_refl _) bp__law_take rfl (pcd_bw (pd_var 0) (pcd_fz pd_int pcd_nil)))) pd_int) (pfd_cons (pd_var 3) (pfd_cons pd_int pfd_nil))))) pcd_nil))))))))
  exact h
theorem dv__law_is_no_day {w : World} {K : PySem.W.Frag} {mg : Str → Option Value} {base : Heap} {cl : Nat → Addr} {j : Nat} {cdv : Value} {f : Addr} {A : Around} {outer : List Env} {s : Shared} {H : Hp} {E : XK} (T : Tx K mg cl) (hr : Room j (A.deeper (envOfC "_law_is_no_day" (defScope s__law_is_no_day) s.heap.objs.size f cdv)))
    (F_day_of : FnC PW w K mg base j "day_of" P_day_of s_day_of (sp_day_of cl))
    : PBD (cxOf (L2.CX PW w) PW w K mg base N__law_is_no_day "_law_is_no_day" (defScope s__law_is_no_day) f cdv A outer s H E) (fun cls d _ H => E cls d H) (defBody s__law_is_no_day) (t__law_is_no_day cl) := by
  have h : PBD (cxOf (L2.CX PW w) PW w K mg base N__law_is_no_day "_law_is_no_day" (defScope s__law_is_no_day) f cdv A outer s H E) (fun cls d _ H => E cls d H) (defBody s__law_is_no_day) _ := (pbd_cons (psd_tryAs 3 rfl rfl sc__law_is_no_day.nd rfl rfl (by first | exact .inl ⟨rfl, (T.x_DueError).g⟩ | exact ⟨rfl, by decide, .inl (T.x_DueError).g⟩) (takes_of rfl rfl rfl rfl) (fun C b hb => T.fm_DueError C b hb) (fun W pn xe tk po => (pbd_one (psd_expr (pd_callC tk F_day_of hr (Nat.le_refl _) bp_day_of rfl (pcd_fz (pd_var 0) (pcd_fz (pd_var 1) (pcd_fz (pd_var 2) pcd_nil))))))) ⟨fun a oe C pn hC hz hf => (pbd_one (psd_ret (pd_and (pd_isE (te := .ref (cl 1)) (cv := .ref (cl 1)) 3 (T.ec_DueError C hC) hz hf rfl T.b_isinstance rfl (by first | exact Or.inl rfl | exact Or.inr (Or.inl rfl)) (by decide) (by decide) (pe_glob (v := .ref (cl 1)) rfl (T.x_InvalidDay).g rfl) (fun u h => h) (fun b hb => T.fisx_DueError_InvalidDay C b hb)) (pd_one (pd_isE (te := .ty "ValueError") (cv := .type "ValueError") 3 (T.ec_DueError C hC) hz hf rfl T.b_isinstance rfl (by first | exact Or.inl rfl | exact Or.inr (Or.inl rfl)) (by decide) (by decide) (pe_bltn (v := .ty "ValueError") rfl T.b_ValueError rfl rfl) (fun u h => h) (fun b hb => T.fisx_DueError_ValueError C b hb))))))⟩)
  (pbd_one (psd_ret pd_bl)))
  exact h
theorem dv_law {w : World} {K : PySem.W.Frag} {mg : Str → Option Value} {base : Heap} {cl : Nat → Addr} {j : Nat} {cdv : Value} {f : Addr} {A : Around} {outer : List Env} {s : Shared} {H : Hp} {E : XK} (T : Tx K mg cl) (hr : Room j (A.deeper (envOfC "law" (defScope s_law) s.heap.objs.size f cdv)))
    (F__law_take : FnC PW w K mg base j "_law_take" P__law_take s__law_take (sp__law_take cl))
    (F_day_of : FnC PW w K mg base j "day_of" P_day_of s_day_of (sp_day_of cl))
    (F__law_match : FnC PW w K mg base j "_law_match" P__law_match s__law_match (sp__law_match cl))
    (F_date : FnC PW w K mg base j "date" P_date s_date (sp_date cl))
    (F__law_counted : FnC PW w K mg base j "_law_counted" P__law_counted s__law_counted (sp__law_counted cl))
    (F_weekday : FnC PW w K mg base j "weekday" P_weekday s_weekday (sp_weekday cl))
    (F__law_is_no_day : FnC PW w K mg base j "_law_is_no_day" P__law_is_no_day s__law_is_no_day (sp__law_is_no_day cl))
    (F__law_long : FnC PW w K mg base j "_law_long" P__law_long s__law_long (sp__law_long cl))
    (F__law_drawn_day : FnC PW w K mg base j "_law_drawn_day" P__law_drawn_day s__law_drawn_day (sp__law_drawn_day cl))
    (F__law_purse : FnC PW w K mg base j "_law_purse" P__law_purse s__law_purse (sp__law_purse cl))
    : PBD (cxOf (L2.CX PW w) PW w K mg base N_law "law" (defScope s_law) f cdv A outer s H E) (fun cls d _ H => E cls d H) (defBody s_law) (t_law cl) := by
  have h : PBD (cxOf (L2.CX PW w) PW w K mg base N_law "law" (defScope s_law) f cdv A outer s H E) (fun cls d _ H => E cls d H) (defBody s_law) _ := (pbd_cons (psd_for (passes_of rfl) rfl (pid_range1 rfl T.b_range (pad_cons (pd_callB (cr_maxA rfl) c_max rfl T.b_max rfl (pad_cons pd_int (pad_cons (pd_callB (cr_minA rfl) c_min rfl T.b_min rfl (pad_cons pd_int (pad_cons (pd_callB call_len c_len rfl T.b_len rfl (pad_cons (pd_var 0) pad_nil)) pad_nil))) pad_nil))) pad_nil)) (pgd_name (i := 1) sc_law.nd rfl (by first | exact Or.inl rfl | exact Or.inr rfl)) (pbd_cons (psd_set 2 sc_law.nd (pd_callC (takes_of rfl rfl rfl rfl) F__law_purse hr (Nat.le_refl _) bp__law_purse rfl (pcd_fz (pd_var 0) (pcd_fz (pd_var 1) pcd_nil))))
  (pbd_cons (psd_for (passes_of rfl) rfl (pid_range1 rfl T.b_range (pad_cons pd_int pad_nil)) (pgd_name (i := 3) sc_law.nd rfl (by first | exact Or.inl rfl | exact Or.inr rfl)) (pbd_cons (psd_set 5 sc_law.nd (pd_callC (takes_of rfl rfl rfl rfl) F__law_drawn_day hr (Nat.le_refl _) bp__law_drawn_day rfl (pcd_bw (pd_var 2) pcd_nil)))
  (pbd_cons (psd_for (passes_of rfl) rfl (pid_range2 rfl T.b_range (pad_cons (pd_bin op_sub c_sub (pd_var 5) pd_int) (pad_cons (pd_bin op_addA c_add (pd_var 5) pd_int) pad_nil))) (pgd_name (i := 4) sc_law.nd rfl (by first | exact Or.inl rfl | exact Or.inr rfl)) (pbd_cons (psd_set 7 sc_law.nd (pd_callC (takes_of rfl rfl rfl rfl) F__law_counted hr (Nat.le_refl _) bp__law_counted rfl (pcd_fz (pd_var 4) pcd_nil)))
  (pbd_cons (psd_asg (pd_var 7) (pgd_tup rfl (pgsd_cons (pgd_name (i := 9) sc_law.nd rfl (by first | exact Or.inl rfl | exact Or.inr rfl)) (pgsd_cons (pgd_name (i := 10) sc_law.nd rfl (by first | exact Or.inl rfl | exact Or.inr rfl)) (pgsd_cons (pgd_name (i := 11) sc_law.nd rfl (by first | exact Or.inl rfl | exact Or.inr rfl)) pgsd_nil))) (gs_lenS (gs_lenS (gs_lenS gs_len0)))))
  (pbd_cons (psd_if (ptd_not (ptd_val (pd_callC (takes_of rfl rfl rfl rfl) F__law_match hr (Nat.le_refl _) bp__law_match rfl (pcd_fz (pd_lst (pfd_cons (pd_callC (takes_of rfl rfl rfl rfl) F_date hr (Nat.le_refl _) bp_date rfl (pcd_fz (pd_var 4) pcd_nil)) (pfd_cons (pd_callKw [0] (takes_of rfl rfl rfl rfl) F_date hr (Nat.le_refl _) bk_date_0 rfl (pkd_cons (pd_var 4) pkd_nil) (fun l hl => match l, hl with | [_], _ => rfl)) pfd_nil))) (pcd_fz (pd_lst (pfd_cons (pd_var 7) (pfd_cons (pd_var 7) pfd_nil))) pcd_nil))))) (pbd_one (psd_ret pd_bl)) pbd_nil)
  (pbd_cons (psd_set 8 sc_law.nd (pd_lst (pfd_cons (pd_callC (takes_of rfl rfl rfl rfl) F_day_of hr (Nat.le_refl _) bp_day_of rfl (pcd_fz (pd_var 9) (pcd_fz (pd_var 10) (pcd_fz (pd_var 11) pcd_nil)))) (pfd_cons (pd_callKw [2, 1, 0] (takes_of rfl rfl rfl rfl) F_day_of hr (Nat.le_refl _) bk_day_of_2_1_0 rfl (pkd_cons (pd_var 11) (pkd_cons (pd_var 10) (pkd_cons (pd_var 9) pkd_nil))) (fun l hl => match l, hl with | [_, _, _], _ => rfl)) pfd_nil))))
  (pbd_one (psd_if (PWD.pt (pwd_or (ptd_not (ptd_val (pd_callC (takes_of rfl rfl rfl rfl) F__law_match hr (Nat.le_refl _) bp__law_match rfl (pcd_fz (pd_var 8) (pcd_fz (pd_lst (pfd_cons (pd_var 4) (pfd_cons (pd_var 4) pfd_nil))) pcd_nil))))) (pwd_or1 (ptd_not (ptd_val (pd_callC (takes_of rfl rfl rfl rfl) F__law_match hr (Nat.le_refl _) bp__law_match rfl (pcd_fz (pd_callC (takes_of rfl rfl rfl rfl) F_weekday hr (Nat.le_refl _) bp_weekday rfl (pcd_fz (pd_var 4) pcd_nil)) (pcd_fz (pd_bin op_mod c_mod (pd_callTy call_int1 c_int rfl T.b_int rfl (pad_cons (pd_bin op_addA c_add (pd_var 4) pd_int) pad_nil)) pd_int) pcd_nil)))))))) (pbd_one (psd_ret pd_bl)) pbd_nil)))))))
  (pbd_cons (psd_asg (pd_callC (takes_of rfl rfl rfl rfl) F__law_counted hr (Nat.le_refl _) bp__law_counted rfl (pcd_fz (pd_var 5) pcd_nil)) (pgd_tup rfl (pgsd_cons (pgd_name (i := 9) sc_law.nd rfl (by first | exact Or.inl rfl | exact Or.inr rfl)) (pgsd_cons (pgd_name (i := 10) sc_law.nd rfl (by first | exact Or.inl rfl | exact Or.inr rfl)) (pgsd_cons (pgd_name (i := 11) sc_law.nd rfl (by first | exact Or.inl rfl | exact Or.inr rfl)) pgsd_nil))) (gs_lenS (gs_lenS (gs_lenS gs_len0)))))
  (pbd_cons (psd_par 12 13 rfl sc_law.nd (pfd_cons (pd_callC (takes_of rfl rfl rfl rfl) F__law_long hr (Nat.le_refl _) bp__law_long rfl (pcd_fz (pd_var 9) (pcd_fz (pd_var 10) pcd_nil))) (pfd_cons (pd_callC (takes_of rfl rfl rfl rfl) F__law_take hr (Nat.le_refl _) bp__law_take rfl (pcd_bw (pd_var 2) (pcd_fz (pd_bin op_powW c_pow pd_int pd_int) pcd_nil))) pfd_nil)))
  (pbd_cons (psd_for (passes_of rfl) rfl (pid_seq (pd_tup (pfd_cons pd_int (pfd_cons (pd_bin op_addA c_add (pd_var 12) pd_int) (pfd_cons (pd_un un_neg c_neg pd_int) (pfd_cons (pd_bin op_addA c_add pd_int (pd_var 13)) (pfd_cons (pd_un un_neg c_neg (pd_var 13)) pfd_nil))))))) (pgd_name (i := 6) sc_law.nd rfl (by first | exact Or.inl rfl | exact Or.inr rfl)) (pbd_one (psd_if (ptd_not (ptd_val (pd_callC (takes_of rfl rfl rfl rfl) F__law_is_no_day hr (Nat.le_refl _) bp__law_is_no_day rfl (pcd_fz (pd_var 9) (pcd_fz (pd_var 10) (pcd_fz (pd_var 6) pcd_nil)))))) (pbd_one (psd_ret pd_bl)) pbd_nil)))
  (pbd_cons (psd_for (passes_of rfl) rfl (pid_seq (pd_tup (pfd_cons (pd_tup (pfd_cons pd_int (pfd_cons pd_int pfd_nil))) (pfd_cons (pd_tup (pfd_cons pd_int (pfd_cons pd_int pfd_nil))) (pfd_cons (pd_tup (pfd_cons pd_int (pfd_cons pd_int pfd_nil))) (pfd_cons (pd_tup (pfd_cons pd_int (pfd_cons pd_int pfd_nil))) (pfd_cons (pd_tup (pfd_cons pd_int (pfd_cons pd_int pfd_nil))) (pfd_cons (pd_tup (pfd_cons pd_int (pfd_cons pd_int pfd_nil))) pfd_nil)))))))) (pgd_name (i := 6) sc_law.nd rfl (by first | exact Or.inl rfl | exact Or.inr rfl)) (pbd_one (psd_if (ptd_not (ptd_val (pd_callC (takes_of rfl rfl rfl rfl) F__law_is_no_day hr (Nat.le_refl _) bp__law_is_no_day rfl (pcd_fz (pd_var 9) (pcd_fz (pd_ix ix_seq c_ix (pd_var 6) pd_int (fun _ _ => rfl)) (pcd_fz (pd_ix ix_seq c_ix (pd_var 6) pd_int (fun _ _ => rfl)) pcd_nil)))))) (pbd_one (psd_ret pd_bl)) pbd_nil)))
  (pbd_cons (psd_if (ptd_cmp (op_neD hr.units) c_ne (pd_callC (takes_of rfl rfl rfl rfl) F__law_is_no_day hr (Nat.le_refl _) bp__law_is_no_day rfl (pcd_fz (pd_var 9) (pcd_fz pd_int (pcd_fz pd_int pcd_nil)))) (pd_cmp (op_eqD hr.units) c_eq (pd_callC (takes_of rfl rfl rfl rfl) F__law_long hr (Nat.le_refl _) bp__law_long rfl (pcd_fz (pd_var 9) (pcd_fz pd_int pcd_nil))) pd_int (nomark _)) (nomark _)) (pbd_one (psd_ret pd_bl)) pbd_nil)
  (pbd_one (psd_for (passes_of rfl) rfl (pid_seq (pd_tup (pfd_cons pd_int (pfd_cons pd_int (pfd_cons (pd_un un_neg c_neg pd_int) (pfd_cons (pd_bin op_addA c_add pd_int (pd_var 13)) (pfd_cons (pd_un un_neg c_neg (pd_var 13)) pfd_nil))))))) (pgd_name (i := 6) sc_law.nd rfl (by first | exact Or.inl rfl | exact Or.inr rfl)) (pbd_one (psd_if (ptd_not (ptd_val (pd_callC (takes_of rfl rfl rfl rfl) F__law_is_no_day hr (Nat.le_refl _) bp__law_is_no_day rfl (pcd_fz (pd_var 9) (pcd_fz (pd_var 6) (pcd_fz pd_int pcd_nil)))))) (pbd_one (psd_ret pd_bl)) pbd_nil))))))))))))
  (pbd_cons (psd_if (PWD.pt (pwd_or (ptd_cmp (op_neD hr.units) c_ne (pd_callKw [0] (takes_of rfl rfl rfl rfl) F_weekday hr (Nat.le_refl _) bk_weekday_0 rfl (pkd_cons pd_int pkd_nil) (fun l hl => match l, hl with | [_], _ => rfl)) pd_int (nomark _)) (pwd_or1 (ptd_not (ptd_val (pd_callC (takes_of rfl rfl rfl rfl) F__law_match hr (Nat.le_refl _) bp__law_match rfl (pcd_fz (pd_callC (takes_of rfl rfl rfl rfl) F_date hr (Nat.le_refl _) bp_date rfl (pcd_fz pd_int pcd_nil)) (pcd_fz (pd_tup (pfd_cons pd_int (pfd_cons pd_int (pfd_cons pd_int pfd_nil)))) pcd_nil)))))))) (pbd_one (psd_ret pd_bl)) pbd_nil)
  (pbd_one (psd_for (passes_of rfl) rfl (pid_seq (pd_tup (pfd_cons pd_int (pfd_cons (pd_un un_neg c_neg pd_int) (pfd_cons (pd_bin op_sub c_sub (pd_bin op_sub c_sub (pd_bin op_powW c_pow pd_int pd_int) pd_int) (pd_callC (takes_of rfl rfl rfl rfl) F__law_take hr (Nat.le_refl _) bp__law_take rfl (pcd_bw (pd_var 2) (pcd_fz (pd_bin op_powW c_pow pd_int pd_int) pcd_nil)))) pfd_nil))))) (pgd_name (i := 4) sc_law.nd rfl (by first | exact Or.inl rfl | exact Or.inr rfl)) (pbd_cons (psd_set 7 sc_law.nd (pd_callC (takes_of rfl rfl rfl rfl) F__law_counted hr (Nat.le_refl _) bp__law_counted rfl (pcd_fz (pd_var 4) pcd_nil)))
  (pbd_one (psd_if (PWD.pt (pwd_or (ptd_not (ptd_val (pd_callC (takes_of rfl rfl rfl rfl) F__law_match hr (Nat.le_refl _) bp__law_match rfl (pcd_fz (pd_callC (takes_of rfl rfl rfl rfl) F_date hr (Nat.le_refl _) bp_date rfl (pcd_fz (pd_var 4) pcd_nil)) (pcd_fz (pd_var 7) pcd_nil))))) (pwd_or1 (ptd_cmp (op_neD hr.units) c_ne (pd_callC (takes_of rfl rfl rfl rfl) F_day_of hr (Nat.le_refl _) bp_day_of rfl (pcd_fz (pd_ix ix_seq c_ix (pd_var 7) pd_int (fun _ _ => rfl)) (pcd_fz (pd_ix ix_seq c_ix (pd_var 7) pd_int (fun _ _ => rfl)) (pcd_fz (pd_ix ix_seq c_ix (pd_var 7) pd_int (fun _ _ => rfl)) pcd_nil)))) (pd_var 4) (nomark _))))) (pbd_one (psd_ret pd_bl)) pbd_nil)))))))))
  (pbd_one (psd_ret pd_bl)))
  exact h
end T18
set_option Elab.async false
set_option linter.all false
set_option maxRecDepth 100000
set_option maxHeartbeats 2000000
namespace T18
open PySem PySem.Spec PyProof.Rows L2 DL
theorem rd_is_integer (cl : Nat → Addr) (as ad) (hp : (sp_is_integer cl).pre as) : t_is_integer cl (endsOf (sp_is_integer cl) as ad) (startS as ad 0 ++ List.replicate 0 .nil) := by
  obtain ⟨i, rfl⟩ := hp
  show t_is_integer cl (endsOf _ _ _) [.fz (.int i)]
  unfold t_is_integer
  ((with_reducible conv => whnf); repeat (first | ((with_reducible refine xT ?_ ?_); (· exact rfl); (with_reducible conv => whnf)) | ((with_reducible refine xF ?_ ?_); (· exact rfl); (with_reducible conv => whnf)) | ((with_reducible apply xE); (· exact rfl); (with_reducible conv => whnf)) | ((with_reducible refine And.intro ?_ ?_); (· (first | exact rfl | exact sh_int _ | exact sh_bool _ | ((try dsimp only [Int.reduceToNat]); first | omega | (refine mulw ?_ ?_ ?_ ?_ <;> omega) | (refine divw ?_ ?_ <;> omega) | (refine poww ?_ ?_ ?_ ?_ <;> omega) | (refine divp ?_ ?_ ?_ <;> omega) | (have := szl; simp only [List.length_append, List.length_cons, List.length_nil, List.length_map, List.length_range]; omega) | decide))); (with_reducible conv => whnf))))
  intro d e; cases e; exact ⟨rfl, rfl⟩
theorem rd_check_day (cl : Nat → Addr) (as ad) (hp : (sp_check_day cl).pre as) : t_check_day cl (endsOf (sp_check_day cl) as ad) (startS as ad 0 ++ List.replicate 0 .nil) := by
  obtain ⟨i, rfl⟩ := hp
  show t_check_day cl (endsOf _ _ _) [.fz (.int i)]
  unfold t_check_day
  ((with_reducible conv => whnf); repeat (first | ((with_reducible refine xT ?_ ?_); (· exact rfl); (with_reducible conv => whnf)) | ((with_reducible refine xF ?_ ?_); (· exact rfl); (with_reducible conv => whnf)) | ((with_reducible apply xE); (· exact rfl); (with_reducible conv => whnf)) | ((with_reducible refine And.intro ?_ ?_); (· (first | exact rfl | exact sh_int _ | exact sh_bool _ | ((try dsimp only [Int.reduceToNat]); first | omega | (refine mulw ?_ ?_ ?_ ?_ <;> omega) | (refine divw ?_ ?_ <;> omega) | (refine poww ?_ ?_ ?_ ?_ <;> omega) | (refine divp ?_ ?_ ?_ <;> omega) | (have := szl; simp only [List.length_append, List.length_cons, List.length_nil, List.length_map, List.length_range]; omega) | decide))); (with_reducible conv => whnf))))
  refine ⟨⟨_, rfl⟩, fun r as' hp => ?_, fun C as' hx => False.elim hx⟩
  obtain ⟨rfl, rfl⟩ := hp _ rfl; clear hp
  ((with_reducible conv => whnf); repeat (first | ((with_reducible refine xT ?_ ?_); (· exact rfl); (with_reducible conv => whnf)) | ((with_reducible refine xF ?_ ?_); (· exact rfl); (with_reducible conv => whnf)) | ((with_reducible apply xE); (· exact rfl); (with_reducible conv => whnf)) | ((with_reducible refine And.intro ?_ ?_); (· (first | exact rfl | exact sh_int _ | exact sh_bool _ | ((try dsimp only [Int.reduceToNat]); first | omega | (refine mulw ?_ ?_ ?_ ?_ <;> omega) | (refine divw ?_ ?_ <;> omega) | (refine poww ?_ ?_ ?_ ?_ <;> omega) | (refine divp ?_ ?_ ?_ <;> omega) | (have := szl; simp only [List.length_append, List.length_cons, List.length_nil, List.length_map, List.length_range]; omega) | decide))); (with_reducible conv => whnf))))
  intro d e; cases e; exact ⟨rfl, rfl⟩
theorem rd_date_of (cl : Nat → Addr) (as ad) (hp : (sp_date_of cl).pre as) : t_date_of cl (endsOf (sp_date_of cl) as ad) (startS as ad 0 ++ List.replicate 5 .nil) := by
  obtain ⟨i, rfl, h1, h2⟩ := hp
  show t_date_of cl (endsOf _ _ _) [.fz (.int i), .nil, .nil, .nil, .nil, .nil]
  unfold t_date_of
  ((with_reducible conv => whnf); repeat (first | ((with_reducible refine xT ?_ ?_); (· exact rfl); (with_reducible conv => whnf)) | ((with_reducible refine xF ?_ ?_); (· exact rfl); (with_reducible conv => whnf)) | ((with_reducible apply xE); (· exact rfl); (with_reducible conv => whnf)) | ((with_reducible refine And.intro ?_ ?_); (· (first | exact rfl | exact sh_int _ | exact sh_bool _ | ((try dsimp only [Int.reduceToNat]); first | omega | (refine mulw ?_ ?_ ?_ ?_ <;> omega) | (refine divw ?_ ?_ <;> omega) | (refine poww ?_ ?_ ?_ ?_ <;> omega) | (refine divp ?_ ?_ ?_ <;> omega) | (have := szl; simp only [List.length_append, List.length_cons, List.length_nil, List.length_map, List.length_range]; omega) | decide))); (with_reducible conv => whnf))))
  refine xB (fun h => ?_) (fun h => ?_)
  · ((with_reducible conv => whnf); repeat (first | ((with_reducible refine xT ?_ ?_); (· exact rfl); (with_reducible conv => whnf)) | ((with_reducible refine xF ?_ ?_); (· exact rfl); (with_reducible conv => whnf)) | ((with_reducible apply xE); (· exact rfl); (with_reducible conv => whnf)) | ((with_reducible refine And.intro ?_ ?_); (· (first | exact rfl | exact sh_int _ | exact sh_bool _ | ((try dsimp only [Int.reduceToNat]); first | omega | (refine mulw ?_ ?_ ?_ ?_ <;> omega) | (refine divw ?_ ?_ <;> omega) | (refine poww ?_ ?_ ?_ ?_ <;> omega) | (refine divp ?_ ?_ ?_ <;> omega) | (have := szl; simp only [List.length_append, List.length_cons, List.length_nil, List.length_map, List.length_range]; omega) | decide))); (with_reducible conv => whnf))))
    refine xB (fun h' => ?_) (fun h' => ?_)
    · ((with_reducible conv => whnf); repeat (first | ((with_reducible refine xT ?_ ?_); (· exact rfl); (with_reducible conv => whnf)) | ((with_reducible refine xF ?_ ?_); (· exact rfl); (with_reducible conv => whnf)) | ((with_reducible apply xE); (· exact rfl); (with_reducible conv => whnf)) | ((with_reducible refine And.intro ?_ ?_); (· (first | exact rfl | exact sh_int _ | exact sh_bool _ | ((try dsimp only [Int.reduceToNat]); first | omega | (refine mulw ?_ ?_ ?_ ?_ <;> omega) | (refine divw ?_ ?_ <;> omega) | (refine poww ?_ ?_ ?_ ?_ <;> omega) | (refine divp ?_ ?_ ?_ <;> omega) | (have := szl; simp only [List.length_append, List.length_cons, List.length_nil, List.length_map, List.length_range]; omega) | decide))); (with_reducible conv => whnf))))
      intro d e; cases e
      have h := dT h; have h' := dT h'
      unfold dateI; dsimp only; rw [if_pos h, if_pos h']; exact ⟨rfl, rfl⟩
    · ((with_reducible conv => whnf); repeat (first | ((with_reducible refine xT ?_ ?_); (· exact rfl); (with_reducible conv => whnf)) | ((with_reducible refine xF ?_ ?_); (· exact rfl); (with_reducible conv => whnf)) | ((with_reducible apply xE); (· exact rfl); (with_reducible conv => whnf)) | ((with_reducible refine And.intro ?_ ?_); (· (first | exact rfl | exact sh_int _ | exact sh_bool _ | ((try dsimp only [Int.reduceToNat]); first | omega | (refine mulw ?_ ?_ ?_ ?_ <;> omega) | (refine divw ?_ ?_ <;> omega) | (refine poww ?_ ?_ ?_ ?_ <;> omega) | (refine divp ?_ ?_ ?_ <;> omega) | (have := szl; simp only [List.length_append, List.length_cons, List.length_nil, List.length_map, List.length_range]; omega) | decide))); (with_reducible conv => whnf))))
      intro d e; cases e
      have h := dT h; have h' := dF h'
      unfold dateI; dsimp only; rw [if_pos h, if_neg h']; exact ⟨rfl, rfl⟩
  · ((with_reducible conv => whnf); repeat (first | ((with_reducible refine xT ?_ ?_); (· exact rfl); (with_reducible conv => whnf)) | ((with_reducible refine xF ?_ ?_); (· exact rfl); (with_reducible conv => whnf)) | ((with_reducible apply xE); (· exact rfl); (with_reducible conv => whnf)) | ((with_reducible refine And.intro ?_ ?_); (· (first | exact rfl | exact sh_int _ | exact sh_bool _ | ((try dsimp only [Int.reduceToNat]); first | omega | (refine mulw ?_ ?_ ?_ ?_ <;> omega) | (refine divw ?_ ?_ <;> omega) | (refine poww ?_ ?_ ?_ ?_ <;> omega) | (refine divp ?_ ?_ ?_ <;> omega) | (have := szl; simp only [List.length_append, List.length_cons, List.length_nil, List.length_map, List.length_range]; omega) | decide))); (with_reducible conv => whnf))))
    refine xB (fun h' => ?_) (fun h' => ?_)
    · ((with_reducible conv => whnf); repeat (first | ((with_reducible refine xT ?_ ?_); (· exact rfl); (with_reducible conv => whnf)) | ((with_reducible refine xF ?_ ?_); (· exact rfl); (with_reducible conv => whnf)) | ((with_reducible apply xE); (· exact rfl); (with_reducible conv => whnf)) | ((with_reducible refine And.intro ?_ ?_); (· (first | exact rfl | exact sh_int _ | exact sh_bool _ | ((try dsimp only [Int.reduceToNat]); first | omega | (refine mulw ?_ ?_ ?_ ?_ <;> omega) | (refine divw ?_ ?_ <;> omega) | (refine poww ?_ ?_ ?_ ?_ <;> omega) | (refine divp ?_ ?_ ?_ <;> omega) | (have := szl; simp only [List.length_append, List.length_cons, List.length_nil, List.length_map, List.length_range]; omega) | decide))); (with_reducible conv => whnf))))
      intro d e; cases e
      have h := dF h; have h' := dT h'
      unfold dateI; dsimp only; rw [if_neg h, if_pos h']; exact ⟨rfl, rfl⟩
    · ((with_reducible conv => whnf); repeat (first | ((with_reducible refine xT ?_ ?_); (· exact rfl); (with_reducible conv => whnf)) | ((with_reducible refine xF ?_ ?_); (· exact rfl); (with_reducible conv => whnf)) | ((with_reducible apply xE); (· exact rfl); (with_reducible conv => whnf)) | ((with_reducible refine And.intro ?_ ?_); (· (first | exact rfl | exact sh_int _ | exact sh_bool _ | ((try dsimp only [Int.reduceToNat]); first | omega | (refine mulw ?_ ?_ ?_ ?_ <;> omega) | (refine divw ?_ ?_ <;> omega) | (refine poww ?_ ?_ ?_ ?_ <;> omega) | (refine divp ?_ ?_ ?_ <;> omega) | (have := szl; simp only [List.length_append, List.length_cons, List.length_nil, List.length_map, List.length_range]; omega) | decide))); (with_reducible conv => whnf))))
      intro d e; cases e
      have h := dF h; have h' := dF h'
      unfold dateI; dsimp only; rw [if_neg h, if_neg h']; exact ⟨rfl, rfl⟩
theorem rd_number_of_date (cl : Nat → Addr) (as ad) (hp : (sp_number_of_date cl).pre as) : t_number_of_date cl (endsOf (sp_number_of_date cl) as ad) (startS as ad 0 ++ List.replicate 4 .nil) := by
  obtain ⟨y, m, d, rfl, h1, h2, h3, h4, h5, h6⟩ := hp
  show t_number_of_date cl (endsOf _ _ _) [.fz (.int y), .fz (.int m), .fz (.int d), .nil, .nil, .nil, .nil]
  unfold t_number_of_date
  ((with_reducible conv => whnf); repeat (first | ((with_reducible refine xT ?_ ?_); (· exact rfl); (with_reducible conv => whnf)) | ((with_reducible refine xF ?_ ?_); (· exact rfl); (with_reducible conv => whnf)) | ((with_reducible apply xE); (· exact rfl); (with_reducible conv => whnf)) | ((with_reducible refine And.intro ?_ ?_); (· (first | exact rfl | exact sh_int _ | exact sh_bool _ | ((try dsimp only [Int.reduceToNat]); first | omega | (refine mulw ?_ ?_ ?_ ?_ <;> omega) | (refine divw ?_ ?_ <;> omega) | (refine poww ?_ ?_ ?_ ?_ <;> omega) | (refine divp ?_ ?_ ?_ <;> omega) | (have := szl; simp only [List.length_append, List.length_cons, List.length_nil, List.length_map, List.length_range]; omega) | decide))); (with_reducible conv => whnf))))
  refine xB (fun h => ?_) (fun h => ?_)
  · ((with_reducible conv => whnf); repeat (first | ((with_reducible refine xT ?_ ?_); (· exact rfl); (with_reducible conv => whnf)) | ((with_reducible refine xF ?_ ?_); (· exact rfl); (with_reducible conv => whnf)) | ((with_reducible apply xE); (· exact rfl); (with_reducible conv => whnf)) | ((with_reducible refine And.intro ?_ ?_); (· (first | exact rfl | exact sh_int _ | exact sh_bool _ | ((try dsimp only [Int.reduceToNat]); first | omega | (refine mulw ?_ ?_ ?_ ?_ <;> omega) | (refine divw ?_ ?_ <;> omega) | (refine poww ?_ ?_ ?_ ?_ <;> omega) | (refine divp ?_ ?_ ?_ <;> omega) | (have := szl; simp only [List.length_append, List.length_cons, List.length_nil, List.length_map, List.length_range]; omega) | decide))); (with_reducible conv => whnf))))
    intro y m d e; cases e
    have h := dT h
    unfold numI; dsimp only; rw [if_pos h, if_pos h]; exact ⟨rfl, rfl⟩
  · ((with_reducible conv => whnf); repeat (first | ((with_reducible refine xT ?_ ?_); (· exact rfl); (with_reducible conv => whnf)) | ((with_reducible refine xF ?_ ?_); (· exact rfl); (with_reducible conv => whnf)) | ((with_reducible apply xE); (· exact rfl); (with_reducible conv => whnf)) | ((with_reducible refine And.intro ?_ ?_); (· (first | exact rfl | exact sh_int _ | exact sh_bool _ | ((try dsimp only [Int.reduceToNat]); first | omega | (refine mulw ?_ ?_ ?_ ?_ <;> omega) | (refine divw ?_ ?_ <;> omega) | (refine poww ?_ ?_ ?_ ?_ <;> omega) | (refine divp ?_ ?_ ?_ <;> omega) | (have := szl; simp only [List.length_append, List.length_cons, List.length_nil, List.length_map, List.length_range]; omega) | decide))); (with_reducible conv => whnf))))
    intro y m d e; cases e
    have h := dF h
    unfold numI; dsimp only; rw [if_neg h, if_neg h]; exact ⟨rfl, rfl⟩
theorem rd_month_length (cl : Nat → Addr) (as ad) (hp : (sp_month_length cl).pre as) : t_month_length cl (endsOf (sp_month_length cl) as ad) (startS as ad 0 ++ List.replicate 0 .nil) := by
  obtain ⟨y, m, rfl, h1, h2⟩ := hp
  show t_month_length cl (endsOf _ _ _) [.fz (.int y), .fz (.int m)]
  unfold t_month_length
  have tab : m ≠ 2 ∨ leapI y = false → ∀ h : ∃ k : Nat, k < 12 ∧ m = k + 1, ∃ d, atI ([(.int 31), (.int 28), (.int 31), (.int 30), (.int 31), (.int 30), (.int 31), (.int 31), (.int 30), (.int 31), (.int 30), (.int 31)] : List PyData) (m - 1) = some d ∧ d = PyData.int (lenI y m) := by
    rintro hm ⟨k, hk, rfl⟩
    unfold lenI
    have : k = 0 ∨ k = 1 ∨ k = 2 ∨ k = 3 ∨ k = 4 ∨ k = 5 ∨ k = 6 ∨ k = 7 ∨ k = 8 ∨ k = 9 ∨ k = 10 ∨ k = 11 := by omega
    rcases this with rfl | rfl | rfl | rfl | rfl | rfl | rfl | rfl | rfl | rfl | rfl | rfl
    case inr.inl => 
      have hl : leapI y = false := hm.resolve_left (by simp)
      rw [hl]; exact ⟨_, rfl, rfl⟩
    all_goals exact ⟨_, rfl, rfl⟩
  ((with_reducible conv => whnf); repeat' (first | ((with_reducible refine xT ?_ ?_); (· exact rfl); (with_reducible conv => whnf)) | ((with_reducible refine xF ?_ ?_); (· exact rfl); (with_reducible conv => whnf)) | ((with_reducible apply xE); (· exact rfl); (with_reducible conv => whnf)) | ((with_reducible refine And.intro ?_ ?_); (· (first | exact rfl | exact sh_int _ | exact sh_bool _ | ((try dsimp only [Int.reduceToNat]); first | omega | (refine mulw ?_ ?_ ?_ ?_ <;> omega) | (refine divw ?_ ?_ <;> omega) | (refine poww ?_ ?_ ?_ ?_ <;> omega) | (refine divp ?_ ?_ ?_ <;> omega) | (have := szl; simp only [List.length_append, List.length_cons, List.length_nil, List.length_map, List.length_range]; omega) | decide))); (with_reducible conv => whnf)) | (refine xBeq (fun h => ?_) (fun h => ?_) <;> (with_reducible conv => whnf)) | (refine xBne (fun h => ?_) (fun h => ?_) <;> (with_reducible conv => whnf)) | (refine xBd (fun h => ?_) (fun h => ?_) <;> (with_reducible conv => whnf)) | (refine xNd (fun h => ?_) (fun h => ?_) <;> (with_reducible conv => whnf)) | (refine xNB (fun h => ?_) (fun h => ?_) <;> (with_reducible conv => whnf)) | (refine xB (fun h => ?_) (fun h => ?_) <;> (with_reducible conv => whnf))))
  all_goals first
    | (obtain ⟨d, e1, e2⟩ := tab (by first | exact .inr ((leap_not y).mpr (by omega)) | exact .inl (by omega)) ⟨(m - 1).toNat, by omega, by omega⟩
       refine ⟨d, e1, ?_⟩
       subst e2
       ((with_reducible conv => whnf); repeat' (first | ((with_reducible refine xT ?_ ?_); (· exact rfl); (with_reducible conv => whnf)) | ((with_reducible refine xF ?_ ?_); (· exact rfl); (with_reducible conv => whnf)) | ((with_reducible apply xE); (· exact rfl); (with_reducible conv => whnf)) | ((with_reducible refine And.intro ?_ ?_); (· (first | exact rfl | exact sh_int _ | exact sh_bool _ | ((try dsimp only [Int.reduceToNat]); first | omega | (refine mulw ?_ ?_ ?_ ?_ <;> omega) | (refine divw ?_ ?_ <;> omega) | (refine poww ?_ ?_ ?_ ?_ <;> omega) | (refine divp ?_ ?_ ?_ <;> omega) | (have := szl; simp only [List.length_append, List.length_cons, List.length_nil, List.length_map, List.length_range]; omega) | decide))); (with_reducible conv => whnf)) | (refine xBeq (fun h => ?_) (fun h => ?_) <;> (with_reducible conv => whnf)) | (refine xBne (fun h => ?_) (fun h => ?_) <;> (with_reducible conv => whnf)) | (refine xBd (fun h => ?_) (fun h => ?_) <;> (with_reducible conv => whnf)) | (refine xNd (fun h => ?_) (fun h => ?_) <;> (with_reducible conv => whnf)) | (refine xNB (fun h => ?_) (fun h => ?_) <;> (with_reducible conv => whnf)) | (refine xB (fun h => ?_) (fun h => ?_) <;> (with_reducible conv => whnf))))
       intro y m e; cases e; exact ⟨rfl, rfl⟩)
    | (intro y m e; cases e
       refine ⟨rfl, ?_⟩
       have hl : leapI y = true := (leap_iff y).mpr (by omega)
       unfold lenI; rw [if_pos (by omega), hl]; rfl)
theorem rd_date (cl : Nat → Addr) (as ad) (hp : (sp_date cl).pre as) : t_date cl (endsOf (sp_date cl) as ad) (startS as ad 0 ++ List.replicate 0 .nil) := by
  obtain ⟨i, rfl, h⟩ := hp
  show t_date cl (endsOf _ _ _) [.fz (.int i)]
  unfold t_date
  ((with_reducible conv => whnf); repeat (first | ((with_reducible refine xT ?_ ?_); (· exact rfl); (with_reducible conv => whnf)) | ((with_reducible refine xF ?_ ?_); (· exact rfl); (with_reducible conv => whnf)) | ((with_reducible apply xE); (· exact rfl); (with_reducible conv => whnf)) | ((with_reducible refine And.intro ?_ ?_); (· (first | exact rfl | exact sh_int _ | exact sh_bool _ | ((try dsimp only [Int.reduceToNat]); first | omega | (refine mulw ?_ ?_ ?_ ?_ <;> omega) | (refine divw ?_ ?_ <;> omega) | (refine poww ?_ ?_ ?_ ?_ <;> omega) | (refine divp ?_ ?_ ?_ <;> omega) | (have := szl; simp only [List.length_append, List.length_cons, List.length_nil, List.length_map, List.length_range]; omega) | decide))); (with_reducible conv => whnf))))
  refine ⟨⟨_, rfl⟩, fun r as' hp => ?_, fun C as' hx => False.elim hx⟩
  obtain ⟨rfl, rfl⟩ := hp _ rfl; clear hp
  ((with_reducible conv => whnf); repeat (first | ((with_reducible refine xT ?_ ?_); (· exact rfl); (with_reducible conv => whnf)) | ((with_reducible refine xF ?_ ?_); (· exact rfl); (with_reducible conv => whnf)) | ((with_reducible apply xE); (· exact rfl); (with_reducible conv => whnf)) | ((with_reducible refine And.intro ?_ ?_); (· (first | exact rfl | exact sh_int _ | exact sh_bool _ | ((try dsimp only [Int.reduceToNat]); first | omega | (refine mulw ?_ ?_ ?_ ?_ <;> omega) | (refine divw ?_ ?_ <;> omega) | (refine poww ?_ ?_ ?_ ?_ <;> omega) | (refine divp ?_ ?_ ?_ <;> omega) | (have := szl; simp only [List.length_append, List.length_cons, List.length_nil, List.length_map, List.length_range]; omega) | decide))); (with_reducible conv => whnf))))
  refine ⟨⟨_, rfl, h⟩, fun r as' hp => ?_, fun C as' hx => False.elim hx⟩
  obtain ⟨rfl, rfl⟩ := hp _ rfl; clear hp
  ((with_reducible conv => whnf); repeat (first | ((with_reducible refine xT ?_ ?_); (· exact rfl); (with_reducible conv => whnf)) | ((with_reducible refine xF ?_ ?_); (· exact rfl); (with_reducible conv => whnf)) | ((with_reducible apply xE); (· exact rfl); (with_reducible conv => whnf)) | ((with_reducible refine And.intro ?_ ?_); (· (first | exact rfl | exact sh_int _ | exact sh_bool _ | ((try dsimp only [Int.reduceToNat]); first | omega | (refine mulw ?_ ?_ ?_ ?_ <;> omega) | (refine divw ?_ ?_ <;> omega) | (refine poww ?_ ?_ ?_ ?_ <;> omega) | (refine divp ?_ ?_ ?_ <;> omega) | (have := szl; simp only [List.length_append, List.length_cons, List.length_nil, List.length_map, List.length_range]; omega) | decide))); (with_reducible conv => whnf))))
  intro d e; cases e; exact ⟨rfl, rfl⟩
theorem rd_day_of (cl : Nat → Addr) (as ad) (hp : (sp_day_of cl).pre as) : t_day_of cl (endsOf (sp_day_of cl) as ad) (startS as ad 0 ++ List.replicate 1 .nil) := by
  obtain ⟨y, m, d, rfl, h1, h2, h3, h4, h5, h6⟩ := hp
  show t_day_of cl (endsOf _ _ _) [.fz (.int y), .fz (.int m), .fz (.int d), .nil]
  unfold t_day_of
  ((with_reducible conv => whnf); repeat (first | ((with_reducible refine xT ?_ ?_); (· exact rfl); (with_reducible conv => whnf)) | ((with_reducible refine xF ?_ ?_); (· exact rfl); (with_reducible conv => whnf)) | ((with_reducible apply xE); (· exact rfl); (with_reducible conv => whnf)) | ((with_reducible refine And.intro ?_ ?_); (· (first | exact rfl | exact sh_int _ | exact sh_bool _ | ((try dsimp only [Int.reduceToNat]); first | omega | (refine mulw ?_ ?_ ?_ ?_ <;> omega) | (refine divw ?_ ?_ <;> omega) | (refine poww ?_ ?_ ?_ ?_ <;> omega) | (refine divp ?_ ?_ ?_ <;> omega) | (have := szl; simp only [List.length_append, List.length_cons, List.length_nil, List.length_map, List.length_range]; omega) | decide))); (with_reducible conv => whnf))))
  (try unfold DL.sFor); (try unfold DL.sWhile); (try unfold DL.eLc)
  ((with_reducible conv => whnf); repeat (first | ((with_reducible refine xT ?_ ?_); (· exact rfl); (with_reducible conv => whnf)) | ((with_reducible refine xF ?_ ?_); (· exact rfl); (with_reducible conv => whnf)) | ((with_reducible apply xE); (· exact rfl); (with_reducible conv => whnf)) | ((with_reducible refine And.intro ?_ ?_); (· (first | exact rfl | exact sh_int _ | exact sh_bool _ | ((try dsimp only [Int.reduceToNat]); first | omega | (refine mulw ?_ ?_ ?_ ?_ <;> omega) | (refine divw ?_ ?_ <;> omega) | (refine poww ?_ ?_ ?_ ?_ <;> omega) | (refine divp ?_ ?_ ?_ <;> omega) | (have := szl; simp only [List.length_append, List.length_cons, List.length_nil, List.length_map, List.length_range]; omega) | decide))); (with_reducible conv => whnf))))
  refine ⟨fun i ρ => ∃ s, ρ = [.fz (.int y), .fz (.int m), .fz (.int d), s], ⟨_, rfl⟩, ?_, ?_⟩
  · rintro i x ρ hi ⟨s, rfl⟩
    have : ∃ k, x = .int k := by
      match i, hi with
      | 0, hi => cases hi; exact ⟨_, rfl⟩
      | 1, hi => cases hi; exact ⟨_, rfl⟩
      | 2, hi => cases hi; exact ⟨_, rfl⟩
    obtain ⟨k, rfl⟩ := this
    ((with_reducible conv => whnf); repeat (first | ((with_reducible refine xT ?_ ?_); (· exact rfl); (with_reducible conv => whnf)) | ((with_reducible refine xF ?_ ?_); (· exact rfl); (with_reducible conv => whnf)) | ((with_reducible apply xE); (· exact rfl); (with_reducible conv => whnf)) | ((with_reducible refine And.intro ?_ ?_); (· (first | exact rfl | exact sh_int _ | exact sh_bool _ | ((try dsimp only [Int.reduceToNat]); first | omega | (refine mulw ?_ ?_ ?_ ?_ <;> omega) | (refine divw ?_ ?_ <;> omega) | (refine poww ?_ ?_ ?_ ?_ <;> omega) | (refine divp ?_ ?_ ?_ <;> omega) | (have := szl; simp only [List.length_append, List.length_cons, List.length_nil, List.length_map, List.length_range]; omega) | decide))); (with_reducible conv => whnf))))
    refine ⟨⟨_, rfl⟩, fun r as' hp => ?_, fun C as' hx => False.elim hx⟩
    obtain ⟨rfl, rfl⟩ := hp _ rfl; clear hp
    ((with_reducible conv => whnf); repeat (first | ((with_reducible refine xT ?_ ?_); (· exact rfl); (with_reducible conv => whnf)) | ((with_reducible refine xF ?_ ?_); (· exact rfl); (with_reducible conv => whnf)) | ((with_reducible apply xE); (· exact rfl); (with_reducible conv => whnf)) | ((with_reducible refine And.intro ?_ ?_); (· (first | exact rfl | exact sh_int _ | exact sh_bool _ | ((try dsimp only [Int.reduceToNat]); first | omega | (refine mulw ?_ ?_ ?_ ?_ <;> omega) | (refine divw ?_ ?_ <;> omega) | (refine poww ?_ ?_ ?_ ?_ <;> omega) | (refine divp ?_ ?_ ?_ <;> omega) | (have := szl; simp only [List.length_append, List.length_cons, List.length_nil, List.length_map, List.length_range]; omega) | decide))); (with_reducible conv => whnf))))
    exact ⟨_, rfl⟩
  · rintro ρ ⟨s, rfl⟩
    ((with_reducible conv => whnf); repeat' (first | ((with_reducible refine xT ?_ ?_); (· exact rfl); (with_reducible conv => whnf)) | ((with_reducible refine xF ?_ ?_); (· exact rfl); (with_reducible conv => whnf)) | ((with_reducible apply xE); (· exact rfl); (with_reducible conv => whnf)) | ((with_reducible refine And.intro ?_ ?_); (· (first | exact rfl | exact sh_int _ | exact sh_bool _ | ((try dsimp only [Int.reduceToNat]); first | omega | (refine mulw ?_ ?_ ?_ ?_ <;> omega) | (refine divw ?_ ?_ <;> omega) | (refine poww ?_ ?_ ?_ ?_ <;> omega) | (refine divp ?_ ?_ ?_ <;> omega) | (have := szl; simp only [List.length_append, List.length_cons, List.length_nil, List.length_map, List.length_range]; omega) | decide))); (with_reducible conv => whnf)) | (refine xBeq (fun h => ?_) (fun h => ?_) <;> (with_reducible conv => whnf)) | (refine xBne (fun h => ?_) (fun h => ?_) <;> (with_reducible conv => whnf)) | (refine xBd (fun h => ?_) (fun h => ?_) <;> (with_reducible conv => whnf)) | (refine xNd (fun h => ?_) (fun h => ?_) <;> (with_reducible conv => whnf)) | (refine xNB (fun h => ?_) (fun h => ?_) <;> (with_reducible conv => whnf)) | (refine xB (fun h => ?_) (fun h => ?_) <;> (with_reducible conv => whnf))))
    all_goals first
      | (intro y m d e; cases e; exact ⟨fun v => by unfold valid at v; omega, rfl, rfl⟩)
      | (refine ⟨⟨_, _, rfl, by omega⟩, fun r as' hp => ?_, fun C as' hx => False.elim hx⟩
         obtain ⟨rfl, rfl⟩ := hp _ _ rfl; clear hp
         ((with_reducible conv => whnf); repeat' (first | ((with_reducible refine xT ?_ ?_); (· exact rfl); (with_reducible conv => whnf)) | ((with_reducible refine xF ?_ ?_); (· exact rfl); (with_reducible conv => whnf)) | ((with_reducible apply xE); (· exact rfl); (with_reducible conv => whnf)) | ((with_reducible refine And.intro ?_ ?_); (· (first | exact rfl | exact sh_int _ | exact sh_bool _ | ((try dsimp only [Int.reduceToNat]); first | omega | (refine mulw ?_ ?_ ?_ ?_ <;> omega) | (refine divw ?_ ?_ <;> omega) | (refine poww ?_ ?_ ?_ ?_ <;> omega) | (refine divp ?_ ?_ ?_ <;> omega) | (have := szl; simp only [List.length_append, List.length_cons, List.length_nil, List.length_map, List.length_range]; omega) | decide))); (with_reducible conv => whnf)) | (refine xBeq (fun h => ?_) (fun h => ?_) <;> (with_reducible conv => whnf)) | (refine xBne (fun h => ?_) (fun h => ?_) <;> (with_reducible conv => whnf)) | (refine xBd (fun h => ?_) (fun h => ?_) <;> (with_reducible conv => whnf)) | (refine xNd (fun h => ?_) (fun h => ?_) <;> (with_reducible conv => whnf)) | (refine xNB (fun h => ?_) (fun h => ?_) <;> (with_reducible conv => whnf)) | (refine xB (fun h => ?_) (fun h => ?_) <;> (with_reducible conv => whnf))))
         all_goals first
           | (intro y m d e; cases e; exact ⟨fun v => by unfold valid at v; omega, rfl, rfl⟩)
           | (refine ⟨⟨_, _, _, rfl, by omega⟩, fun r as' hp => ?_, fun C as' hx => False.elim hx⟩
              obtain ⟨rfl, rfl⟩ := hp _ _ _ rfl; clear hp
              ((with_reducible conv => whnf); repeat (first | ((with_reducible refine xT ?_ ?_); (· exact rfl); (with_reducible conv => whnf)) | ((with_reducible refine xF ?_ ?_); (· exact rfl); (with_reducible conv => whnf)) | ((with_reducible apply xE); (· exact rfl); (with_reducible conv => whnf)) | ((with_reducible refine And.intro ?_ ?_); (· (first | exact rfl | exact sh_int _ | exact sh_bool _ | ((try dsimp only [Int.reduceToNat]); first | omega | (refine mulw ?_ ?_ ?_ ?_ <;> omega) | (refine divw ?_ ?_ <;> omega) | (refine poww ?_ ?_ ?_ ?_ <;> omega) | (refine divp ?_ ?_ ?_ <;> omega) | (have := szl; simp only [List.length_append, List.length_cons, List.length_nil, List.length_map, List.length_range]; omega) | decide))); (with_reducible conv => whnf))))
              intro y m d e; cases e; exact ⟨by unfold valid; omega, rfl, rfl⟩))
theorem rd_weekday_of (cl : Nat → Addr) (as ad) (hp : (sp_weekday_of cl).pre as) : t_weekday_of cl (endsOf (sp_weekday_of cl) as ad) (startS as ad 0 ++ List.replicate 0 .nil) := by
  obtain ⟨i, rfl, h⟩ := hp
  show t_weekday_of cl (endsOf _ _ _) [.fz (.int i)]
  unfold t_weekday_of
  ((with_reducible conv => whnf); repeat (first | ((with_reducible refine xT ?_ ?_); (· exact rfl); (with_reducible conv => whnf)) | ((with_reducible refine xF ?_ ?_); (· exact rfl); (with_reducible conv => whnf)) | ((with_reducible apply xE); (· exact rfl); (with_reducible conv => whnf)) | ((with_reducible refine And.intro ?_ ?_); (· (first | exact rfl | exact sh_int _ | exact sh_bool _ | ((try dsimp only [Int.reduceToNat]); first | omega | (refine mulw ?_ ?_ ?_ ?_ <;> omega) | (refine divw ?_ ?_ <;> omega) | (refine poww ?_ ?_ ?_ ?_ <;> omega) | (refine divp ?_ ?_ ?_ <;> omega) | (have := szl; simp only [List.length_append, List.length_cons, List.length_nil, List.length_map, List.length_range]; omega) | decide))); (with_reducible conv => whnf))))
  intro d e; cases e; exact ⟨rfl, rfl⟩
theorem rd_weekday (cl : Nat → Addr) (as ad) (hp : (sp_weekday cl).pre as) : t_weekday cl (endsOf (sp_weekday cl) as ad) (startS as ad 0 ++ List.replicate 0 .nil) := by
  obtain ⟨i, rfl, h⟩ := hp
  show t_weekday cl (endsOf _ _ _) [.fz (.int i)]
  unfold t_weekday
  ((with_reducible conv => whnf); repeat (first | ((with_reducible refine xT ?_ ?_); (· exact rfl); (with_reducible conv => whnf)) | ((with_reducible refine xF ?_ ?_); (· exact rfl); (with_reducible conv => whnf)) | ((with_reducible apply xE); (· exact rfl); (with_reducible conv => whnf)) | ((with_reducible refine And.intro ?_ ?_); (· (first | exact rfl | exact sh_int _ | exact sh_bool _ | ((try dsimp only [Int.reduceToNat]); first | omega | (refine mulw ?_ ?_ ?_ ?_ <;> omega) | (refine divw ?_ ?_ <;> omega) | (refine poww ?_ ?_ ?_ ?_ <;> omega) | (refine divp ?_ ?_ ?_ <;> omega) | (have := szl; simp only [List.length_append, List.length_cons, List.length_nil, List.length_map, List.length_range]; omega) | decide))); (with_reducible conv => whnf))))
  refine ⟨⟨_, rfl⟩, fun r as' hp => ?_, fun C as' hx => False.elim hx⟩
  obtain ⟨rfl, rfl⟩ := hp _ rfl; clear hp
  ((with_reducible conv => whnf); repeat (first | ((with_reducible refine xT ?_ ?_); (· exact rfl); (with_reducible conv => whnf)) | ((with_reducible refine xF ?_ ?_); (· exact rfl); (with_reducible conv => whnf)) | ((with_reducible apply xE); (· exact rfl); (with_reducible conv => whnf)) | ((with_reducible refine And.intro ?_ ?_); (· (first | exact rfl | exact sh_int _ | exact sh_bool _ | ((try dsimp only [Int.reduceToNat]); first | omega | (refine mulw ?_ ?_ ?_ ?_ <;> omega) | (refine divw ?_ ?_ <;> omega) | (refine poww ?_ ?_ ?_ ?_ <;> omega) | (refine divp ?_ ?_ ?_ <;> omega) | (have := szl; simp only [List.length_append, List.length_cons, List.length_nil, List.length_map, List.length_range]; omega) | decide))); (with_reducible conv => whnf))))
  refine ⟨⟨_, rfl, h⟩, fun r as' hp => ?_, fun C as' hx => False.elim hx⟩
  obtain ⟨rfl, rfl⟩ := hp _ rfl; clear hp
  ((with_reducible conv => whnf); repeat (first | ((with_reducible refine xT ?_ ?_); (· exact rfl); (with_reducible conv => whnf)) | ((with_reducible refine xF ?_ ?_); (· exact rfl); (with_reducible conv => whnf)) | ((with_reducible apply xE); (· exact rfl); (with_reducible conv => whnf)) | ((with_reducible refine And.intro ?_ ?_); (· (first | exact rfl | exact sh_int _ | exact sh_bool _ | ((try dsimp only [Int.reduceToNat]); first | omega | (refine mulw ?_ ?_ ?_ ?_ <;> omega) | (refine divw ?_ ?_ <;> omega) | (refine poww ?_ ?_ ?_ ?_ <;> omega) | (refine divp ?_ ?_ ?_ <;> omega) | (have := szl; simp only [List.length_append, List.length_cons, List.length_nil, List.length_map, List.length_range]; omega) | decide))); (with_reducible conv => whnf))))
  intro d e; cases e; exact ⟨rfl, rfl⟩
end T18
set_option Elab.async false
set_option linter.all false
set_option maxRecDepth 100000
set_option maxHeartbeats 2000000
namespace T18
open PySem PySem.Spec PyProof.Rows L2 DL
theorem rd__law_take (cl : Nat → Addr) (as ad) (hp : (sp__law_take cl).pre as) : t__law_take cl (endsOf (sp__law_take cl) as ad) (startS as ad 0 ++ List.replicate 2 .nil) := by
  obtain ⟨a, b, c, n, rfl, h1, h2, h3, h4, h5, h6⟩ := hp
  show t__law_take cl (endsOf _ _ _) [.pw (ad 0) (.l [.int a, .int b, .int c]), .fz (.int n), .nil, .nil]
  unfold t__law_take
  ((with_reducible conv => whnf); repeat' (first | ((with_reducible refine xT ?_ ?_); (· exact rfl); (with_reducible conv => whnf)) | ((with_reducible refine xF ?_ ?_); (· exact rfl); (with_reducible conv => whnf)) | ((with_reducible apply xE); (· exact rfl); (with_reducible conv => whnf)) | ((with_reducible refine And.intro ?_ ?_); (· (first | exact rfl | exact sh_int _ | exact sh_bool _ | ((try dsimp only [Int.reduceToNat]); first | omega | (refine mulw ?_ ?_ ?_ ?_ <;> omega) | (refine divw ?_ ?_ <;> omega) | (refine poww ?_ ?_ ?_ ?_ <;> omega) | (refine divp ?_ ?_ ?_ <;> omega) | (have := szl; simp only [List.length_append, List.length_cons, List.length_nil, List.length_map, List.length_range]; omega) | decide))); (with_reducible conv => whnf)) | (refine xBeq (fun h => ?_) (fun h => ?_) <;> (with_reducible conv => whnf)) | (refine xBne (fun h => ?_) (fun h => ?_) <;> (with_reducible conv => whnf)) | (refine xBd (fun h => ?_) (fun h => ?_) <;> (with_reducible conv => whnf)) | (refine xNd (fun h => ?_) (fun h => ?_) <;> (with_reducible conv => whnf)) | (refine xNB (fun h => ?_) (fun h => ?_) <;> (with_reducible conv => whnf)) | (refine xB (fun h => ?_) (fun h => ?_) <;> (with_reducible conv => whnf))))
  · intro a b c n e; cases e
    have := modpos a h5
    exact ⟨_, _, _, rfl, rfl, this.1, this.2, by omega, by omega⟩
  · intro a b c n e; cases e
    exact ⟨_, _, _, rfl, rfl, (modpos _ h5).1, (modpos _ h5).2, by omega, by omega⟩
theorem rd__law_purse (cl : Nat → Addr) (as ad) (hp : (sp__law_purse cl).pre as) : t__law_purse cl (endsOf (sp__law_purse cl) as ad) (startS as ad 0 ++ List.replicate 1 .nil) := by
  obtain ⟨ns, t, rfl, h1, h2⟩ := hp
  show t__law_purse cl (endsOf _ _ _) [.sc ns, .fz (.int t), .nil]
  unfold t__law_purse
  ((with_reducible conv => whnf); repeat (first | ((with_reducible refine xT ?_ ?_); (· exact rfl); (with_reducible conv => whnf)) | ((with_reducible refine xF ?_ ?_); (· exact rfl); (with_reducible conv => whnf)) | ((with_reducible apply xE); (· exact rfl); (with_reducible conv => whnf)) | ((with_reducible refine And.intro ?_ ?_); (· (first | exact rfl | exact sh_int _ | exact sh_bool _ | ((try dsimp only [Int.reduceToNat]); first | omega | (refine mulw ?_ ?_ ?_ ?_ <;> omega) | (refine divw ?_ ?_ <;> omega) | (refine poww ?_ ?_ ?_ ?_ <;> omega) | (refine divp ?_ ?_ ?_ <;> omega) | (have := szl; simp only [List.length_append, List.length_cons, List.length_nil, List.length_map, List.length_range]; omega) | decide))); (with_reducible conv => whnf))))
  refine xBd (fun h => ?_) (fun h => ?_)
  · (with_reducible conv => whnf)
    obtain ⟨x, hx, _⟩ := atI_ex (xs := ns) h1 (by omega)
    refine ⟨x, hx, ?_⟩
    ((with_reducible conv => whnf); repeat (first | ((with_reducible refine xT ?_ ?_); (· exact rfl); (with_reducible conv => whnf)) | ((with_reducible refine xF ?_ ?_); (· exact rfl); (with_reducible conv => whnf)) | ((with_reducible apply xE); (· exact rfl); (with_reducible conv => whnf)) | ((with_reducible refine And.intro ?_ ?_); (· (first | exact rfl | exact sh_int _ | exact sh_bool _ | ((try dsimp only [Int.reduceToNat]); first | omega | (refine mulw ?_ ?_ ?_ ?_ <;> omega) | (refine divw ?_ ?_ <;> omega) | (refine poww ?_ ?_ ?_ ?_ <;> omega) | (refine divp ?_ ?_ ?_ <;> omega) | (have := szl; simp only [List.length_append, List.length_cons, List.length_nil, List.length_map, List.length_range]; omega) | decide))); (with_reducible conv => whnf))))
    intro ns t e; cases e
    have := modpos x (b := 10 ^ Int.toNat 37 + 9) (by decide)
    have e : (10 : Int) ^ Int.toNat 37 = 10 ^ 37 := rfl
    exact ⟨_, _, rfl, rfl, by omega, by omega⟩
  · ((with_reducible conv => whnf); repeat (first | ((with_reducible refine xT ?_ ?_); (· exact rfl); (with_reducible conv => whnf)) | ((with_reducible refine xF ?_ ?_); (· exact rfl); (with_reducible conv => whnf)) | ((with_reducible apply xE); (· exact rfl); (with_reducible conv => whnf)) | ((with_reducible refine And.intro ?_ ?_); (· (first | exact rfl | exact sh_int _ | exact sh_bool _ | ((try dsimp only [Int.reduceToNat]); first | omega | (refine mulw ?_ ?_ ?_ ?_ <;> omega) | (refine divw ?_ ?_ <;> omega) | (refine poww ?_ ?_ ?_ ?_ <;> omega) | (refine divp ?_ ?_ ?_ <;> omega) | (have := szl; simp only [List.length_append, List.length_cons, List.length_nil, List.length_map, List.length_range]; omega) | decide))); (with_reducible conv => whnf))))
    intro ns t e; cases e
    have := modpos 0 (b := 10 ^ Int.toNat 37 + 9) (by decide)
    have e : (10 : Int) ^ Int.toNat 37 = 10 ^ 37 := rfl
    exact ⟨_, _, rfl, rfl, by omega, by omega⟩
theorem rd__law_pick (cl : Nat → Addr) (as ad) (hp : (sp__law_pick cl).pre as) : t__law_pick cl (endsOf (sp__law_pick cl) as ad) (startS as ad 0 ++ List.replicate 0 .nil) := by
  obtain ⟨a, b, c, ds, rfl, h1, h2, h3, h4, h5, h6⟩ := hp
  show t__law_pick cl (endsOf _ _ _) [.pw (ad 0) (.l [.int a, .int b, .int c]), .fz (.list ds)]
  unfold t__law_pick
  ((with_reducible conv => whnf); repeat (first | ((with_reducible refine xT ?_ ?_); (· exact rfl); (with_reducible conv => whnf)) | ((with_reducible refine xF ?_ ?_); (· exact rfl); (with_reducible conv => whnf)) | ((with_reducible apply xE); (· exact rfl); (with_reducible conv => whnf)) | ((with_reducible refine And.intro ?_ ?_); (· (first | exact rfl | exact sh_int _ | exact sh_bool _ | ((try dsimp only [Int.reduceToNat]); first | omega | (refine mulw ?_ ?_ ?_ ?_ <;> omega) | (refine divw ?_ ?_ <;> omega) | (refine poww ?_ ?_ ?_ ?_ <;> omega) | (refine divp ?_ ?_ ?_ <;> omega) | (have := szl; simp only [List.length_append, List.length_cons, List.length_nil, List.length_map, List.length_range]; omega) | decide))); (with_reducible conv => whnf))))
  refine ⟨⟨_, _, _, _, rfl, by omega⟩, fun r as' hp => ?_, fun C as' hx => False.elim hx⟩
  obtain ⟨a', c', v, rfl, rfl, k1, k2, k3, k4⟩ := hp _ _ _ _ rfl; clear hp
  (with_reducible conv => whnf)
  obtain ⟨x, hx, hm, _⟩ := atI_ex (xs := ds) k1 k2
  refine ⟨x, hx, ?_⟩
  ((with_reducible conv => whnf); repeat (first | ((with_reducible refine xT ?_ ?_); (· exact rfl); (with_reducible conv => whnf)) | ((with_reducible refine xF ?_ ?_); (· exact rfl); (with_reducible conv => whnf)) | ((with_reducible apply xE); (· exact rfl); (with_reducible conv => whnf)) | ((with_reducible refine And.intro ?_ ?_); (· (first | exact rfl | exact sh_int _ | exact sh_bool _ | ((try dsimp only [Int.reduceToNat]); first | omega | (refine mulw ?_ ?_ ?_ ?_ <;> omega) | (refine divw ?_ ?_ <;> omega) | (refine poww ?_ ?_ ?_ ?_ <;> omega) | (refine divp ?_ ?_ ?_ <;> omega) | (have := szl; simp only [List.length_append, List.length_cons, List.length_nil, List.length_map, List.length_range]; omega) | decide))); (with_reducible conv => whnf))))
  intro a b c ds e; cases e
  exact ⟨_, _, _, hm, rfl, rfl, k3, k4⟩
theorem eqv_refl : ∀ n d, goodD n d → PyData.eqv d d = true := by
  intro n
  induction n with
  | zero => intro d h; exact h.elim
  | succ n ih =>
    intro d h
    have all : ∀ ds : List D, (∀ e ∈ ds, goodD n e) → PyData.eqvAll ds ds = true := by
      intro ds
      induction ds with
      | nil => intro _; rfl
      | cons x xs ih2 =>
        intro hh
        show (PyData.eqv x x && PyData.eqvAll xs xs) = true
        rw [ih x (hh x (by simp)), ih2 fun e he => hh e (by simp [he])]; rfl
    cases d with
    | int i => show (i == i) = true; simp
    | list ds => exact all ds h.2
    | tuple ds => exact all ds h.2
    | _ => exact h.elim
theorem rd__law_match (n : Nat) (cl : Nat → Addr) (as ad) (hp : (spM (n + 1)).pre as) : t__law_match cl (spM n) (endsOf (spM (n + 1)) as ad) (startS as ad 0 ++ List.replicate 1 .nil) := by
  obtain ⟨d, rfl, h⟩ := hp
  show t__law_match cl (spM n) (endsOf _ _ _) [.fz d, .fz d, .nil]
  unfold t__law_match
  have seq : ∀ (ds : List D) (d : D), (d = .list ds ∨ d = .tuple ds) → ds.length ≤ 1000 → (∀ e ∈ ds, goodD n e) → t__law_match cl (spM n) (endsOf (spM (n + 1)) [.fz d, .fz d] ad) [.fz d, .fz d, .nil] := by
    intro ds d hd hl hg
    unfold t__law_match
    have k : ∀ i : Nat, ds[i]? = ds[i]? → True := fun _ _ => trivial
    rcases hd with rfl | rfl
    all_goals
      ((with_reducible conv => whnf); repeat (first | ((with_reducible refine xT ?_ ?_); (· exact rfl); (with_reducible conv => whnf)) | ((with_reducible refine xF ?_ ?_); (· exact rfl); (with_reducible conv => whnf)) | ((with_reducible apply xE); (· exact rfl); (with_reducible conv => whnf)) | ((with_reducible refine And.intro ?_ ?_); (· (first | exact rfl | exact sh_int _ | exact sh_bool _ | ((try dsimp only [Int.reduceToNat]); first | omega | (refine mulw ?_ ?_ ?_ ?_ <;> omega) | (refine divw ?_ ?_ <;> omega) | (refine poww ?_ ?_ ?_ ?_ <;> omega) | (refine divp ?_ ?_ ?_ <;> omega) | (have := szl; simp only [List.length_append, List.length_cons, List.length_nil, List.length_map, List.length_range]; omega) | decide))); (with_reducible conv => whnf))))
      refine xBne (fun hne => absurd rfl hne) (fun _ => ?_)
      ((with_reducible conv => whnf); repeat (first | ((with_reducible refine xT ?_ ?_); (· exact rfl); (with_reducible conv => whnf)) | ((with_reducible refine xF ?_ ?_); (· exact rfl); (with_reducible conv => whnf)) | ((with_reducible apply xE); (· exact rfl); (with_reducible conv => whnf)) | ((with_reducible refine And.intro ?_ ?_); (· (first | exact rfl | exact sh_int _ | exact sh_bool _ | ((try dsimp only [Int.reduceToNat]); first | omega | (refine mulw ?_ ?_ ?_ ?_ <;> omega) | (refine divw ?_ ?_ <;> omega) | (refine poww ?_ ?_ ?_ ?_ <;> omega) | (refine divp ?_ ?_ ?_ <;> omega) | (have := szl; simp only [List.length_append, List.length_cons, List.length_nil, List.length_map, List.length_range]; omega) | decide))); (with_reducible conv => whnf))))
      (try unfold DL.sFor); (try unfold DL.sWhile); (try unfold DL.eLc)
      ((with_reducible conv => whnf); repeat (first | ((with_reducible refine xT ?_ ?_); (· exact rfl); (with_reducible conv => whnf)) | ((with_reducible refine xF ?_ ?_); (· exact rfl); (with_reducible conv => whnf)) | ((with_reducible apply xE); (· exact rfl); (with_reducible conv => whnf)) | ((with_reducible refine And.intro ?_ ?_); (· (first | exact rfl | exact sh_int _ | exact sh_bool _ | ((try dsimp only [Int.reduceToNat]); first | omega | (refine mulw ?_ ?_ ?_ ?_ <;> omega) | (refine divw ?_ ?_ <;> omega) | (refine poww ?_ ?_ ?_ ?_ <;> omega) | (refine divp ?_ ?_ ?_ <;> omega) | (have := szl; simp only [List.length_append, List.length_cons, List.length_nil, List.length_map, List.length_range]; omega) | decide))); (with_reducible conv => whnf))))
      refine ⟨fun i acc ρ => acc = [] ∧ ρ = [.fz _, .fz _, .nil], ⟨rfl, rfl⟩, ?_, ?_⟩
      · rintro i x acc ρ hi ⟨rfl, rfl⟩
        have hlt : i < ds.length := by
          have := (List.getElem?_eq_some_iff.mp hi).1
          rw [rgD_len] at this; omega
        rw [rgD_get (by omega)] at hi
        cases hi
        (with_reducible conv => whnf)
        obtain ⟨e, he, hm, _⟩ := atI_ex (xs := ds) (i := 0 + (i : Nat) * 1) (by omega) (by omega)
        refine ⟨e, he, ?_⟩
        (with_reducible conv => whnf)
        refine ⟨e, he, ?_⟩
        (with_reducible conv => whnf)
        refine ⟨⟨_, rfl, hg e hm⟩, fun r as' hp => ?_, fun C as' hx => False.elim hx⟩
        obtain ⟨rfl, rfl⟩ := hp _ rfl; clear hp
        ((with_reducible conv => whnf); repeat (first | ((with_reducible refine xT ?_ ?_); (· exact rfl); (with_reducible conv => whnf)) | ((with_reducible refine xF ?_ ?_); (· exact rfl); (with_reducible conv => whnf)) | ((with_reducible apply xE); (· exact rfl); (with_reducible conv => whnf)) | ((with_reducible refine And.intro ?_ ?_); (· (first | exact rfl | exact sh_int _ | exact sh_bool _ | ((try dsimp only [Int.reduceToNat]); first | omega | (refine mulw ?_ ?_ ?_ ?_ <;> omega) | (refine divw ?_ ?_ <;> omega) | (refine poww ?_ ?_ ?_ ?_ <;> omega) | (refine divp ?_ ?_ ?_ <;> omega) | (have := szl; simp only [List.length_append, List.length_cons, List.length_nil, List.length_map, List.length_range]; omega) | decide))); (with_reducible conv => whnf))))
        first | done | trivial | exact ⟨rfl, rfl⟩ | exact rfl
      · rintro acc ρ ⟨rfl, rfl⟩
        (with_reducible conv => whnf)
        refine ⟨sh_nil, sh_nil, ?_⟩
        ((with_reducible conv => whnf); repeat (first | ((with_reducible refine xT ?_ ?_); (· exact rfl); (with_reducible conv => whnf)) | ((with_reducible refine xF ?_ ?_); (· exact rfl); (with_reducible conv => whnf)) | ((with_reducible apply xE); (· exact rfl); (with_reducible conv => whnf)) | ((with_reducible refine And.intro ?_ ?_); (· (first | exact rfl | exact sh_int _ | exact sh_bool _ | ((try dsimp only [Int.reduceToNat]); first | omega | (refine mulw ?_ ?_ ?_ ?_ <;> omega) | (refine divw ?_ ?_ <;> omega) | (refine poww ?_ ?_ ?_ ?_ <;> omega) | (refine divp ?_ ?_ ?_ <;> omega) | (have := szl; simp only [List.length_append, List.length_cons, List.length_nil, List.length_map, List.length_range]; omega) | decide))); (with_reducible conv => whnf))))
        intro d e; cases e; exact ⟨rfl, rfl⟩
  cases d with
  | int i =>
    ((with_reducible conv => whnf); repeat (first | ((with_reducible refine xT ?_ ?_); (· exact rfl); (with_reducible conv => whnf)) | ((with_reducible refine xF ?_ ?_); (· exact rfl); (with_reducible conv => whnf)) | ((with_reducible apply xE); (· exact rfl); (with_reducible conv => whnf)) | ((with_reducible refine And.intro ?_ ?_); (· (first | exact rfl | exact sh_int _ | exact sh_bool _ | ((try dsimp only [Int.reduceToNat]); first | omega | (refine mulw ?_ ?_ ?_ ?_ <;> omega) | (refine divw ?_ ?_ <;> omega) | (refine poww ?_ ?_ ?_ ?_ <;> omega) | (refine divp ?_ ?_ ?_ <;> omega) | (have := szl; simp only [List.length_append, List.length_cons, List.length_nil, List.length_map, List.length_range]; omega) | decide))); (with_reducible conv => whnf))))
    intro d e; cases e
    exact ⟨rfl, by rw [eqv_refl (n + 1) _ h]; rfl⟩
  | list ds => exact seq ds _ (.inl rfl) h.1 h.2
  | tuple ds => exact seq ds _ (.inr rfl) h.1 h.2
  | _ => exact h.elim

theorem len_leap {y m : Int} (h : m = 2) (l : leapI y = true) : lenI y m = 29 := by unfold lenI; rw [if_pos h, if_pos l]
theorem len_no {y m : Int} (h : m = 2) (l : leapI y = false) : lenI y m = 28 := by unfold lenI; rw [if_pos h, if_neg (by rw [l]; simp)]
theorem rd__law_long (cl : Nat → Addr) (as ad) (hp : (sp__law_long cl).pre as) : t__law_long cl (endsOf (sp__law_long cl) as ad) (startS as ad 0 ++ List.replicate 1 .nil) := by
  obtain ⟨y, m, rfl⟩ := hp
  show t__law_long cl (endsOf _ _ _) [.fz (.int y), .fz (.int m), .nil]
  unfold t__law_long
  ((with_reducible conv => whnf); repeat' (first | ((with_reducible refine xT ?_ ?_); (· exact rfl); (with_reducible conv => whnf)) | ((with_reducible refine xF ?_ ?_); (· exact rfl); (with_reducible conv => whnf)) | ((with_reducible apply xE); (· exact rfl); (with_reducible conv => whnf)) | ((with_reducible refine And.intro ?_ ?_); (· (first | exact rfl | exact sh_int _ | exact sh_bool _ | ((try dsimp only [Int.reduceToNat]); first | omega | (refine mulw ?_ ?_ ?_ ?_ <;> omega) | (refine divw ?_ ?_ <;> omega) | (refine poww ?_ ?_ ?_ ?_ <;> omega) | (refine divp ?_ ?_ ?_ <;> omega) | (have := szl; simp only [List.length_append, List.length_cons, List.length_nil, List.length_map, List.length_range]; omega) | decide))); (with_reducible conv => whnf)) | (refine xBeq (fun h => ?_) (fun h => ?_) <;> (with_reducible conv => whnf)) | (refine xBne (fun h => ?_) (fun h => ?_) <;> (with_reducible conv => whnf)) | (refine xBd (fun h => ?_) (fun h => ?_) <;> (with_reducible conv => whnf)) | (refine xNd (fun h => ?_) (fun h => ?_) <;> (with_reducible conv => whnf)) | (refine xNB (fun h => ?_) (fun h => ?_) <;> (with_reducible conv => whnf)) | (refine xB (fun h => ?_) (fun h => ?_) <;> (with_reducible conv => whnf))))
  · intro y m e; cases e
    rename_i h1 h2
    have h3 := h
    exact ⟨rfl, by rw [len_leap h1 ((leap_iff y).mpr (by omega))]; rfl⟩
  · intro y m e; cases e
    rename_i h1 h2
    have h3 := h
    refine ⟨rfl, ?_⟩
    show RR.fz (PyData.int (28 + if (false ^^ PyData.eqv (.int (y % 400)) (.int 0)) = true then 1 else 0)) = _
    rw [eqv_int]
    by_cases h4 : y % 400 = 0
    · rw [len_leap h1 ((leap_iff y).mpr (by omega)), decide_eq_true h4]; rfl
    · rw [len_no h1 ((leap_not y).mpr (by omega)), decide_eq_false h4]; rfl
  · intro y m e; cases e
    rename_i h1
    have h2 := h
    exact ⟨rfl, by rw [len_no h1 ((leap_not y).mpr (by omega))]; rfl⟩
  · intro y m e; cases e
    rename_i h1
    have h2 : (false ^^ (PyData.eqv (.int 4) (.int m) || (PyData.eqv (.int 6) (.int m) || (PyData.eqv (.int 9) (.int m) || (PyData.eqv (.int 11) (.int m) || false))))) = true := by first | exact h | (rw [Bool.false_xor]; exact Bool.not_eq_false _ ▸ (by simpa using h))
    rw [eqv_int, eqv_int, eqv_int, eqv_int] at h2
    simp only [Bool.false_xor, Bool.or_false, Bool.or_eq_true, decide_eq_true_eq] at h2
    exact ⟨rfl, by unfold lenI; rw [if_neg h1, if_pos (by omega)]⟩
  · intro y m e; cases e
    rename_i h1
    have h2 : (false ^^ (PyData.eqv (.int 4) (.int m) || (PyData.eqv (.int 6) (.int m) || (PyData.eqv (.int 9) (.int m) || (PyData.eqv (.int 11) (.int m) || false))))) = false := by first | exact h | (rw [Bool.false_xor]; simpa using h.symm)
    rw [eqv_int, eqv_int, eqv_int, eqv_int] at h2
    simp only [Bool.false_xor, Bool.or_false, Bool.or_eq_false_iff, decide_eq_false_iff_not] at h2
    exact ⟨rfl, by unfold lenI; rw [if_neg h1, if_neg (by omega)]⟩
end T18
set_option Elab.async false
set_option linter.all false
set_option maxRecDepth 100000
set_option maxHeartbeats 2000000
namespace T18
open PySem PySem.Spec PyProof.Rows L2 DL
theorem num_split (y m d : Int) : numI y m d = numI y m 1 + (d - 1) := by rw [← num_d]; congr 1; omega
theorem num_base (t : Int) : numI (2000 + 400 * t) 1 1 = 146097 * t := by
  unfold numI
  simp (config := { decide := true }) only [if_true, if_false]
  omega
/-- the months stand in a row -/
theorem num_mono {y m : Int} (h1 : 1 ≤ m) (h2 : m ≤ 12) : numI y 1 1 + (m - 1) * 28 ≤ numI y m 1 := by
  obtain ⟨k, rfl⟩ : ∃ k : Nat, m = k + 1 := ⟨(m - 1).toNat, by omega⟩
  induction k with
  | zero => simp
  | succ k ih =>
    have := ih (by omega) (by omega)
    have h := num_m (y := y) (m := k + 1) (by omega) (by omega)
    have l := len_le y (k + 1)
    rw [show ((k + 1 : Nat) : Int) + 1 = (k : Int) + 1 + 1 from by omega, h]
    omega
theorem rd__law_counted (cl : Nat → Addr) (as ad) (hp : (sp__law_counted cl).pre as) : t__law_counted cl (endsOf (sp__law_counted cl) as ad) (startS as ad 0 ++ List.replicate 4 .nil) := by
  obtain ⟨i, rfl, h1, h2⟩ := hp
  show t__law_counted cl (endsOf _ _ _) [.fz (.int i), .nil, .nil, .nil, .nil]
  unfold t__law_counted
  ((with_reducible conv => whnf); repeat (first | ((with_reducible refine xT ?_ ?_); (· exact rfl); (with_reducible conv => whnf)) | ((with_reducible refine xF ?_ ?_); (· exact rfl); (with_reducible conv => whnf)) | ((with_reducible apply xE); (· exact rfl); (with_reducible conv => whnf)) | ((with_reducible refine And.intro ?_ ?_); (· (first | exact rfl | exact sh_int _ | exact sh_bool _ | ((try dsimp only [Int.reduceToNat]); first | omega | (refine mulw ?_ ?_ ?_ ?_ <;> omega) | (refine divw ?_ ?_ <;> omega) | (refine poww ?_ ?_ ?_ ?_ <;> omega) | (refine divp ?_ ?_ ?_ <;> omega) | (have := szl; simp only [List.length_append, List.length_cons, List.length_nil, List.length_map, List.length_range]; omega) | decide))); (with_reducible conv => whnf))))
  (try unfold DL.sFor); (try unfold DL.sWhile); (try unfold DL.eLc)
  refine ⟨fun ρ => ∃ l y : Int, ρ = [.fz (.int i), .fz (.int (i / 146097)), .fz (.int l), .fz (.int y), .fz (.int 1)] ∧ 0 ≤ l ∧ i = numI y 1 1 + l ∧ 2000 + 400 * (i / 146097) ≤ y ∧ y < 10 ^ 11 - l, fun ρ => match ρ with | [_, _, .fz (.int l), _, _] => l.toNat | _ => 0, ⟨_, _, rfl, by omega, by rw [num_base]; omega, by omega, by omega⟩, ?_⟩
  rintro ρ ⟨l, y, rfl, k1, k2, k3, k4⟩
  have ll := len_le y 2
  ((with_reducible conv => whnf); repeat (first | ((with_reducible refine xT ?_ ?_); (· exact rfl); (with_reducible conv => whnf)) | ((with_reducible refine xF ?_ ?_); (· exact rfl); (with_reducible conv => whnf)) | ((with_reducible apply xE); (· exact rfl); (with_reducible conv => whnf)) | ((with_reducible refine And.intro ?_ ?_); (· (first | exact rfl | exact sh_int _ | exact sh_bool _ | ((try dsimp only [Int.reduceToNat]); first | omega | (refine mulw ?_ ?_ ?_ ?_ <;> omega) | (refine divw ?_ ?_ <;> omega) | (refine poww ?_ ?_ ?_ ?_ <;> omega) | (refine divp ?_ ?_ ?_ <;> omega) | (have := szl; simp only [List.length_append, List.length_cons, List.length_nil, List.length_map, List.length_range]; omega) | decide))); (with_reducible conv => whnf))))
  refine ⟨⟨_, _, rfl⟩, fun r as' hp => ?_, fun C as' hx => False.elim hx⟩
  obtain ⟨rfl, rfl⟩ := hp _ _ rfl; clear hp
  ((with_reducible conv => whnf); repeat (first | ((with_reducible refine xT ?_ ?_); (· exact rfl); (with_reducible conv => whnf)) | ((with_reducible refine xF ?_ ?_); (· exact rfl); (with_reducible conv => whnf)) | ((with_reducible apply xE); (· exact rfl); (with_reducible conv => whnf)) | ((with_reducible refine And.intro ?_ ?_); (· (first | exact rfl | exact sh_int _ | exact sh_bool _ | ((try dsimp only [Int.reduceToNat]); first | omega | (refine mulw ?_ ?_ ?_ ?_ <;> omega) | (refine divw ?_ ?_ <;> omega) | (refine poww ?_ ?_ ?_ ?_ <;> omega) | (refine divp ?_ ?_ ?_ <;> omega) | (have := szl; simp only [List.length_append, List.length_cons, List.length_nil, List.length_map, List.length_range]; omega) | decide))); (with_reducible conv => whnf))))
  refine xBd (fun h => ?_) (fun h => ?_)
  · ((with_reducible conv => whnf); repeat (first | ((with_reducible refine xT ?_ ?_); (· exact rfl); (with_reducible conv => whnf)) | ((with_reducible refine xF ?_ ?_); (· exact rfl); (with_reducible conv => whnf)) | ((with_reducible apply xE); (· exact rfl); (with_reducible conv => whnf)) | ((with_reducible refine And.intro ?_ ?_); (· (first | exact rfl | exact sh_int _ | exact sh_bool _ | ((try dsimp only [Int.reduceToNat]); first | omega | (refine mulw ?_ ?_ ?_ ?_ <;> omega) | (refine divw ?_ ?_ <;> omega) | (refine poww ?_ ?_ ?_ ?_ <;> omega) | (refine divp ?_ ?_ ?_ <;> omega) | (have := szl; simp only [List.length_append, List.length_cons, List.length_nil, List.length_map, List.length_range]; omega) | decide))); (with_reducible conv => whnf))))
    refine ⟨⟨_, _, rfl⟩, fun r as' hp => ?_, fun C as' hx => False.elim hx⟩
    obtain ⟨rfl, rfl⟩ := hp _ _ rfl; clear hp; (try (generalize hρ : DL.backA _ _ _ = ρ'; dsimp only [DL.setS, DL.getS, DL.backA, DL.toPw, DL.RR.vr, DL.RR.sl, DL.nils, DL.wrL, List.set, Int.reduceToNat] at hρ; subst hρ)); ((with_reducible conv => whnf); repeat (first | ((with_reducible refine xT ?_ ?_); (· exact rfl); (with_reducible conv => whnf)) | ((with_reducible refine xF ?_ ?_); (· exact rfl); (with_reducible conv => whnf)) | ((with_reducible apply xE); (· exact rfl); (with_reducible conv => whnf)) | ((with_reducible refine And.intro ?_ ?_); (· (first | exact rfl | exact sh_int _ | exact sh_bool _ | ((try dsimp only [Int.reduceToNat]); first | omega | (refine mulw ?_ ?_ ?_ ?_ <;> omega) | (refine divw ?_ ?_ <;> omega) | (refine poww ?_ ?_ ?_ ?_ <;> omega) | (refine divp ?_ ?_ ?_ <;> omega) | (have := szl; simp only [List.length_append, List.length_cons, List.length_nil, List.length_map, List.length_range]; omega) | decide))); (with_reducible conv => whnf))))
    refine ⟨⟨_, _, rfl, by omega, by rw [num_yy]; omega, by omega, by omega⟩, ?_⟩
    show (l - 337 - lenI y 2).toNat < l.toNat
    omega
  · ((with_reducible conv => whnf); repeat (first | ((with_reducible refine xT ?_ ?_); (· exact rfl); (with_reducible conv => whnf)) | ((with_reducible refine xF ?_ ?_); (· exact rfl); (with_reducible conv => whnf)) | ((with_reducible apply xE); (· exact rfl); (with_reducible conv => whnf)) | ((with_reducible refine And.intro ?_ ?_); (· (first | exact rfl | exact sh_int _ | exact sh_bool _ | ((try dsimp only [Int.reduceToNat]); first | omega | (refine mulw ?_ ?_ ?_ ?_ <;> omega) | (refine divw ?_ ?_ <;> omega) | (refine poww ?_ ?_ ?_ ?_ <;> omega) | (refine divp ?_ ?_ ?_ <;> omega) | (have := szl; simp only [List.length_append, List.length_cons, List.length_nil, List.length_map, List.length_range]; omega) | decide))); (with_reducible conv => whnf))))
    (try unfold DL.sFor); (try unfold DL.sWhile); (try unfold DL.eLc)
    refine ⟨fun ρ => ∃ l m : Int, ρ = [.fz (.int i), .fz (.int (i / 146097)), .fz (.int l), .fz (.int y), .fz (.int m)] ∧ 0 ≤ l ∧ i = numI y m 1 + l ∧ 1 ≤ m ∧ m ≤ 12, fun ρ => match ρ with | [_, _, .fz (.int l), _, _] => l.toNat | _ => 0, ⟨_, _, rfl, by omega, by omega, by omega, by omega⟩, ?_⟩
    rintro ρ ⟨l', m, rfl, j1, j2, j3, j4⟩
    have lm := len_le y m
    ((with_reducible conv => whnf); repeat (first | ((with_reducible refine xT ?_ ?_); (· exact rfl); (with_reducible conv => whnf)) | ((with_reducible refine xF ?_ ?_); (· exact rfl); (with_reducible conv => whnf)) | ((with_reducible apply xE); (· exact rfl); (with_reducible conv => whnf)) | ((with_reducible refine And.intro ?_ ?_); (· (first | exact rfl | exact sh_int _ | exact sh_bool _ | ((try dsimp only [Int.reduceToNat]); first | omega | (refine mulw ?_ ?_ ?_ ?_ <;> omega) | (refine divw ?_ ?_ <;> omega) | (refine poww ?_ ?_ ?_ ?_ <;> omega) | (refine divp ?_ ?_ ?_ <;> omega) | (have := szl; simp only [List.length_append, List.length_cons, List.length_nil, List.length_map, List.length_range]; omega) | decide))); (with_reducible conv => whnf))))
    refine ⟨⟨_, _, rfl⟩, fun r as' hp => ?_, fun C as' hx => False.elim hx⟩
    obtain ⟨rfl, rfl⟩ := hp _ _ rfl; clear hp; (try (generalize hρ : DL.backA _ _ _ = ρ'; dsimp only [DL.setS, DL.getS, DL.backA, DL.toPw, DL.RR.vr, DL.RR.sl, DL.nils, DL.wrL, List.set, Int.reduceToNat] at hρ; subst hρ)); ((with_reducible conv => whnf); repeat (first | ((with_reducible refine xT ?_ ?_); (· exact rfl); (with_reducible conv => whnf)) | ((with_reducible refine xF ?_ ?_); (· exact rfl); (with_reducible conv => whnf)) | ((with_reducible apply xE); (· exact rfl); (with_reducible conv => whnf)) | ((with_reducible refine And.intro ?_ ?_); (· (first | exact rfl | exact sh_int _ | exact sh_bool _ | ((try dsimp only [Int.reduceToNat]); first | omega | (refine mulw ?_ ?_ ?_ ?_ <;> omega) | (refine divw ?_ ?_ <;> omega) | (refine poww ?_ ?_ ?_ ?_ <;> omega) | (refine divp ?_ ?_ ?_ <;> omega) | (have := szl; simp only [List.length_append, List.length_cons, List.length_nil, List.length_map, List.length_range]; omega) | decide))); (with_reducible conv => whnf))))
    refine xBd (fun h' => ?_) (fun h' => ?_)
    · ((with_reducible conv => whnf); repeat (first | ((with_reducible refine xT ?_ ?_); (· exact rfl); (with_reducible conv => whnf)) | ((with_reducible refine xF ?_ ?_); (· exact rfl); (with_reducible conv => whnf)) | ((with_reducible apply xE); (· exact rfl); (with_reducible conv => whnf)) | ((with_reducible refine And.intro ?_ ?_); (· (first | exact rfl | exact sh_int _ | exact sh_bool _ | ((try dsimp only [Int.reduceToNat]); first | omega | (refine mulw ?_ ?_ ?_ ?_ <;> omega) | (refine divw ?_ ?_ <;> omega) | (refine poww ?_ ?_ ?_ ?_ <;> omega) | (refine divp ?_ ?_ ?_ <;> omega) | (have := szl; simp only [List.length_append, List.length_cons, List.length_nil, List.length_map, List.length_range]; omega) | decide))); (with_reducible conv => whnf))))
      refine ⟨⟨_, _, rfl⟩, fun r as' hp => ?_, fun C as' hx => False.elim hx⟩
      obtain ⟨rfl, rfl⟩ := hp _ _ rfl; clear hp; (try (generalize hρ : DL.backA _ _ _ = ρ'; dsimp only [DL.setS, DL.getS, DL.backA, DL.toPw, DL.RR.vr, DL.RR.sl, DL.nils, DL.wrL, List.set, Int.reduceToNat] at hρ; subst hρ)); ((with_reducible conv => whnf); repeat (first | ((with_reducible refine xT ?_ ?_); (· exact rfl); (with_reducible conv => whnf)) | ((with_reducible refine xF ?_ ?_); (· exact rfl); (with_reducible conv => whnf)) | ((with_reducible apply xE); (· exact rfl); (with_reducible conv => whnf)) | ((with_reducible refine And.intro ?_ ?_); (· (first | exact rfl | exact sh_int _ | exact sh_bool _ | ((try dsimp only [Int.reduceToNat]); first | omega | (refine mulw ?_ ?_ ?_ ?_ <;> omega) | (refine divw ?_ ?_ <;> omega) | (refine poww ?_ ?_ ?_ ?_ <;> omega) | (refine divp ?_ ?_ ?_ <;> omega) | (have := szl; simp only [List.length_append, List.length_cons, List.length_nil, List.length_map, List.length_range]; omega) | decide))); (with_reducible conv => whnf))))
      have hm : m ≤ 11 := by
        rcases Int.lt_or_le m 12 with z | z
        · omega
        · exfalso
          obtain rfl : m = 12 := by omega
          have e1 := num_yy y
          have e2 := num_y y
          have e3 : lenI y 12 = 31 := rfl
          omega
      have e := num_m (y := y) j3 hm
      refine ⟨⟨_, _, rfl, by omega, by omega, by omega, by omega⟩, ?_⟩
      show (l' - lenI y m).toNat < l'.toNat
      omega
    · ((with_reducible conv => whnf); repeat (first | ((with_reducible refine xT ?_ ?_); (· exact rfl); (with_reducible conv => whnf)) | ((with_reducible refine xF ?_ ?_); (· exact rfl); (with_reducible conv => whnf)) | ((with_reducible apply xE); (· exact rfl); (with_reducible conv => whnf)) | ((with_reducible refine And.intro ?_ ?_); (· (first | exact rfl | exact sh_int _ | exact sh_bool _ | ((try dsimp only [Int.reduceToNat]); first | omega | (refine mulw ?_ ?_ ?_ ?_ <;> omega) | (refine divw ?_ ?_ <;> omega) | (refine poww ?_ ?_ ?_ ?_ <;> omega) | (refine divp ?_ ?_ ?_ <;> omega) | (have := szl; simp only [List.length_append, List.length_cons, List.length_nil, List.length_map, List.length_range]; omega) | decide))); (with_reducible conv => whnf))))
      intro i e _ _; cases e
      exact ⟨_, _, _, rfl, rfl, ⟨j3, j4, by omega, by omega⟩, by rw [num_split]; omega, by omega, by omega⟩
theorem rd__law_drawn_day (cl : Nat → Addr) (as ad) (hp : (sp__law_drawn_day cl).pre as) : t__law_drawn_day cl (endsOf (sp__law_drawn_day cl) as ad) (startS as ad 0 ++ List.replicate 4 .nil) := by
  obtain ⟨a, b, c, rfl, h1, h2, h3, h4⟩ := hp
  show t__law_drawn_day cl (endsOf _ _ _) [.pw (ad 0) (.l [.int a, .int b, .int c]), .nil, .nil, .nil, .nil]
  unfold t__law_drawn_day
  ((with_reducible conv => whnf); repeat (first | ((with_reducible refine xT ?_ ?_); (· exact rfl); (with_reducible conv => whnf)) | ((with_reducible refine xF ?_ ?_); (· exact rfl); (with_reducible conv => whnf)) | ((with_reducible apply xE); (· exact rfl); (with_reducible conv => whnf)) | ((with_reducible refine And.intro ?_ ?_); (· (first | exact rfl | exact sh_int _ | exact sh_bool _ | ((try dsimp only [Int.reduceToNat]); first | omega | (refine mulw ?_ ?_ ?_ ?_ <;> omega) | (refine divw ?_ ?_ <;> omega) | (refine poww ?_ ?_ ?_ ?_ <;> omega) | (refine divp ?_ ?_ ?_ <;> omega) | (have := szl; simp only [List.length_append, List.length_cons, List.length_nil, List.length_map, List.length_range]; omega) | decide))); (with_reducible conv => whnf))))
  refine ⟨⟨_, _, _, _, rfl, by omega⟩, fun r as' hp => ?_, fun C as' hx => False.elim hx⟩
  obtain ⟨a1, c1, v1, rfl, rfl, k1⟩ := hp _ _ _ _ rfl; clear hp; (try (generalize hρ : DL.backA _ _ _ = ρ'; dsimp only [DL.setS, DL.getS, DL.backA, DL.toPw, DL.RR.vr, DL.RR.sl, DL.nils, DL.wrL, List.set, Int.reduceToNat] at hρ; subst hρ)); ((with_reducible conv => whnf); repeat (first | ((with_reducible refine xT ?_ ?_); (· exact rfl); (with_reducible conv => whnf)) | ((with_reducible refine xF ?_ ?_); (· exact rfl); (with_reducible conv => whnf)) | ((with_reducible apply xE); (· exact rfl); (with_reducible conv => whnf)) | ((with_reducible refine And.intro ?_ ?_); (· (first | exact rfl | exact sh_int _ | exact sh_bool _ | ((try dsimp only [Int.reduceToNat]); first | omega | (refine mulw ?_ ?_ ?_ ?_ <;> omega) | (refine divw ?_ ?_ <;> omega) | (refine poww ?_ ?_ ?_ ?_ <;> omega) | (refine divp ?_ ?_ ?_ <;> omega) | (have := szl; simp only [List.length_append, List.length_cons, List.length_nil, List.length_map, List.length_range]; omega) | decide))); (with_reducible conv => whnf))))
  refine ⟨⟨_, _, _, _, rfl, by dsimp only [Int.reduceToNat]; omega⟩, fun r as' hp => ?_, fun C as' hx => False.elim hx⟩
  obtain ⟨a2, c2, v2, rfl, rfl, k2⟩ := hp _ _ _ _ rfl; clear hp; (try (generalize hρ : DL.backA _ _ _ = ρ'; dsimp only [DL.setS, DL.getS, DL.backA, DL.toPw, DL.RR.vr, DL.RR.sl, DL.nils, DL.wrL, List.set, Int.reduceToNat] at hρ; subst hρ)); ((with_reducible conv => whnf); repeat (first | ((with_reducible refine xT ?_ ?_); (· exact rfl); (with_reducible conv => whnf)) | ((with_reducible refine xF ?_ ?_); (· exact rfl); (with_reducible conv => whnf)) | ((with_reducible apply xE); (· exact rfl); (with_reducible conv => whnf)) | ((with_reducible refine And.intro ?_ ?_); (· (first | exact rfl | exact sh_int _ | exact sh_bool _ | ((try dsimp only [Int.reduceToNat]); first | omega | (refine mulw ?_ ?_ ?_ ?_ <;> omega) | (refine divw ?_ ?_ <;> omega) | (refine poww ?_ ?_ ?_ ?_ <;> omega) | (refine divp ?_ ?_ ?_ <;> omega) | (have := szl; simp only [List.length_append, List.length_cons, List.length_nil, List.length_map, List.length_range]; omega) | decide))); (with_reducible conv => whnf))))
  refine ⟨⟨_, _, _, _, rfl, by omega⟩, fun r as' hp => ?_, fun C as' hx => False.elim hx⟩
  obtain ⟨a3, c3, v3, rfl, rfl, k3⟩ := hp _ _ _ _ rfl; clear hp; (try (generalize hρ : DL.backA _ _ _ = ρ'; dsimp only [DL.setS, DL.getS, DL.backA, DL.toPw, DL.RR.vr, DL.RR.sl, DL.nils, DL.wrL, List.set, Int.reduceToNat] at hρ; subst hρ)); ((with_reducible conv => whnf); repeat (first | ((with_reducible refine xT ?_ ?_); (· exact rfl); (with_reducible conv => whnf)) | ((with_reducible refine xF ?_ ?_); (· exact rfl); (with_reducible conv => whnf)) | ((with_reducible apply xE); (· exact rfl); (with_reducible conv => whnf)) | ((with_reducible refine And.intro ?_ ?_); (· (first | exact rfl | exact sh_int _ | exact sh_bool _ | ((try dsimp only [Int.reduceToNat]); first | omega | (refine mulw ?_ ?_ ?_ ?_ <;> omega) | (refine divw ?_ ?_ <;> omega) | (refine poww ?_ ?_ ?_ ?_ <;> omega) | (refine divp ?_ ?_ ?_ <;> omega) | (have := szl; simp only [List.length_append, List.length_cons, List.length_nil, List.length_map, List.length_range]; omega) | decide))); (with_reducible conv => whnf))))
  refine ⟨⟨_, _, _, _, rfl, by omega⟩, fun r as' hp => ?_, fun C as' hx => False.elim hx⟩
  obtain ⟨a4, c4, v4, rfl, rfl, k4⟩ := hp _ _ _ _ rfl; clear hp; (try (generalize hρ : DL.backA _ _ _ = ρ'; dsimp only [DL.setS, DL.getS, DL.backA, DL.toPw, DL.RR.vr, DL.RR.sl, DL.nils, DL.wrL, List.set, Int.reduceToNat] at hρ; subst hρ)); ((with_reducible conv => whnf); repeat (first | ((with_reducible refine xT ?_ ?_); (· exact rfl); (with_reducible conv => whnf)) | ((with_reducible refine xF ?_ ?_); (· exact rfl); (with_reducible conv => whnf)) | ((with_reducible apply xE); (· exact rfl); (with_reducible conv => whnf)) | ((with_reducible refine And.intro ?_ ?_); (· (first | exact rfl | exact sh_int _ | exact sh_bool _ | ((try dsimp only [Int.reduceToNat]); first | omega | (refine mulw ?_ ?_ ?_ ?_ <;> omega) | (refine divw ?_ ?_ <;> omega) | (refine poww ?_ ?_ ?_ ?_ <;> omega) | (refine divp ?_ ?_ ?_ <;> omega) | (have := szl; simp only [List.length_append, List.length_cons, List.length_nil, List.length_map, List.length_range]; omega) | decide))); (with_reducible conv => whnf))))
  refine ⟨⟨_, _, _, _, rfl, by omega⟩, fun r as' hp => ?_, fun C as' hx => False.elim hx⟩
  obtain ⟨a5, c5, v5, rfl, rfl, k5⟩ := hp _ _ _ _ rfl; clear hp; (try (generalize hρ : DL.backA _ _ _ = ρ'; dsimp only [DL.setS, DL.getS, DL.backA, DL.toPw, DL.RR.vr, DL.RR.sl, DL.nils, DL.wrL, List.set, Int.reduceToNat] at hρ; subst hρ)); ((with_reducible conv => whnf); repeat (first | ((with_reducible refine xT ?_ ?_); (· exact rfl); (with_reducible conv => whnf)) | ((with_reducible refine xF ?_ ?_); (· exact rfl); (with_reducible conv => whnf)) | ((with_reducible apply xE); (· exact rfl); (with_reducible conv => whnf)) | ((with_reducible refine And.intro ?_ ?_); (· (first | exact rfl | exact sh_int _ | exact sh_bool _ | ((try dsimp only [Int.reduceToNat]); first | omega | (refine mulw ?_ ?_ ?_ ?_ <;> omega) | (refine divw ?_ ?_ <;> omega) | (refine poww ?_ ?_ ?_ ?_ <;> omega) | (refine divp ?_ ?_ ?_ <;> omega) | (have := szl; simp only [List.length_append, List.length_cons, List.length_nil, List.length_map, List.length_range]; omega) | decide))); (with_reducible conv => whnf))))
  refine ⟨⟨_, _, _, _, rfl, by omega⟩, fun r as' hp => ?_, fun C as' hx => False.elim hx⟩
  obtain ⟨a6, c6, v6, rfl, rfl, k6⟩ := hp _ _ _ _ rfl; clear hp; (try (generalize hρ : DL.backA _ _ _ = ρ'; dsimp only [DL.setS, DL.getS, DL.backA, DL.toPw, DL.RR.vr, DL.RR.sl, DL.nils, DL.wrL, List.set, Int.reduceToNat] at hρ; subst hρ)); ((with_reducible conv => whnf); repeat (first | ((with_reducible refine xT ?_ ?_); (· exact rfl); (with_reducible conv => whnf)) | ((with_reducible refine xF ?_ ?_); (· exact rfl); (with_reducible conv => whnf)) | ((with_reducible apply xE); (· exact rfl); (with_reducible conv => whnf)) | ((with_reducible refine And.intro ?_ ?_); (· (first | exact rfl | exact sh_int _ | exact sh_bool _ | ((try dsimp only [Int.reduceToNat]); first | omega | (refine mulw ?_ ?_ ?_ ?_ <;> omega) | (refine divw ?_ ?_ <;> omega) | (refine poww ?_ ?_ ?_ ?_ <;> omega) | (refine divp ?_ ?_ ?_ <;> omega) | (have := szl; simp only [List.length_append, List.length_cons, List.length_nil, List.length_map, List.length_range]; omega) | decide))); (with_reducible conv => whnf))))
  refine ⟨⟨_, _, _, _, rfl, by omega, by omega, by omega, by omega, by show 0 < 7; decide, by show 7 < 1000; decide⟩, fun r as' hp => ?_, fun C as' hx => False.elim hx⟩
  obtain ⟨a7, c7, v7, hm, rfl, rfl, k7⟩ := hp _ _ _ _ rfl; clear hp
  have hb : ∃ k : Int, v7 = .int k ∧ -(10 ^ 8) < k ∧ k < 10 ^ 8 := by
    have e : (10 : Int) ^ Int.toNat 7 = 10 ^ 7 := rfl
    rw [e] at k2
    have hm : v7 ∈ [PyData.int (v1 - 2000), .int (v2 - 10 ^ Int.toNat 7), .int (146097 * (v3 - 4) + v4 - 2), .int (146097 * (v3 - 4) + 59 + v5), .int (146097 * (v3 - 4) + 36524 + v6 - 5), .int (v1 - 2000), .int 0] := hm
    rw [e] at hm
    simp only [List.mem_cons, List.mem_nil_iff, or_false] at hm
    rcases hm with rfl | rfl | rfl | rfl | rfl | rfl | rfl <;> exact ⟨_, rfl, by omega, by omega⟩
  obtain ⟨k, rfl, b1, b2⟩ := hb
  ((with_reducible conv => whnf); repeat (first | ((with_reducible refine xT ?_ ?_); (· exact rfl); (with_reducible conv => whnf)) | ((with_reducible refine xF ?_ ?_); (· exact rfl); (with_reducible conv => whnf)) | ((with_reducible apply xE); (· exact rfl); (with_reducible conv => whnf)) | ((with_reducible refine And.intro ?_ ?_); (· (first | exact rfl | exact sh_int _ | exact sh_bool _ | ((try dsimp only [Int.reduceToNat]); first | omega | (refine mulw ?_ ?_ ?_ ?_ <;> omega) | (refine divw ?_ ?_ <;> omega) | (refine poww ?_ ?_ ?_ ?_ <;> omega) | (refine divp ?_ ?_ ?_ <;> omega) | (have := szl; simp only [List.length_append, List.length_cons, List.length_nil, List.length_map, List.length_range]; omega) | decide))); (with_reducible conv => whnf))))
  intro a b c e; cases e
  exact ⟨_, _, _, rfl, rfl, b1, b2, by omega, by omega⟩
theorem rd__law_is_no_day (cl : Nat → Addr) (hne : cl 1 ≠ cl 0) (as ad) (hp : (sp__law_is_no_day cl).pre as) : t__law_is_no_day cl (endsOf (sp__law_is_no_day cl) as ad) (startS as ad 0 ++ List.replicate 1 .nil) := by
  obtain ⟨y, m, d, rfl, h⟩ := hp
  show t__law_is_no_day cl (endsOf _ _ _) [.fz (.int y), .fz (.int m), .fz (.int d), .nil]
  unfold t__law_is_no_day
  ((with_reducible conv => whnf); repeat (first | ((with_reducible refine xT ?_ ?_); (· exact rfl); (with_reducible conv => whnf)) | ((with_reducible refine xF ?_ ?_); (· exact rfl); (with_reducible conv => whnf)) | ((with_reducible apply xE); (· exact rfl); (with_reducible conv => whnf)) | ((with_reducible refine And.intro ?_ ?_); (· (first | exact rfl | exact sh_int _ | exact sh_bool _ | ((try dsimp only [Int.reduceToNat]); first | omega | (refine mulw ?_ ?_ ?_ ?_ <;> omega) | (refine divw ?_ ?_ <;> omega) | (refine poww ?_ ?_ ?_ ?_ <;> omega) | (refine divp ?_ ?_ ?_ <;> omega) | (have := szl; simp only [List.length_append, List.length_cons, List.length_nil, List.length_map, List.length_range]; omega) | decide))); (with_reducible conv => whnf))))
  refine ⟨⟨_, _, _, rfl, h⟩, fun r as' hp => ?_, fun C as' hx => ?_⟩
  · obtain ⟨v, rfl, rfl⟩ := hp _ _ _ rfl
    ((with_reducible conv => whnf); repeat (first | ((with_reducible refine xT ?_ ?_); (· exact rfl); (with_reducible conv => whnf)) | ((with_reducible refine xF ?_ ?_); (· exact rfl); (with_reducible conv => whnf)) | ((with_reducible apply xE); (· exact rfl); (with_reducible conv => whnf)) | ((with_reducible refine And.intro ?_ ?_); (· (first | exact rfl | exact sh_int _ | exact sh_bool _ | ((try dsimp only [Int.reduceToNat]); first | omega | (refine mulw ?_ ?_ ?_ ?_ <;> omega) | (refine divw ?_ ?_ <;> omega) | (refine poww ?_ ?_ ?_ ?_ <;> omega) | (refine divp ?_ ?_ ?_ <;> omega) | (have := szl; simp only [List.length_append, List.length_cons, List.length_nil, List.length_map, List.length_range]; omega) | decide))); (with_reducible conv => whnf))))
    intro y m d e; cases e
    exact ⟨rfl, by rw [decide_eq_true v]; rfl⟩
  · obtain ⟨v, rfl, rfl⟩ := hx _ _ _ rfl
    have e1 : m_DueError cl (cl 1) = some true := by unfold m_DueError; rw [if_neg hne, if_pos rfl]
    have e2 : isx_DueError_InvalidDay cl (cl 1) = some true := by unfold isx_DueError_InvalidDay; rw [if_neg hne, if_pos rfl]
    have e3 : isx_DueError_ValueError cl (cl 1) = some true := by unfold isx_DueError_ValueError; rw [if_neg hne, if_pos rfl]
    (with_reducible conv => whnf)
    rw [e1]
    intro a
    ((with_reducible conv => whnf); repeat (first | ((with_reducible refine xT ?_ ?_); (· exact rfl); (with_reducible conv => whnf)) | ((with_reducible refine xF ?_ ?_); (· exact rfl); (with_reducible conv => whnf)) | ((with_reducible apply xE); (· exact rfl); (with_reducible conv => whnf)) | ((with_reducible refine And.intro ?_ ?_); (· (first | exact rfl | exact sh_int _ | exact sh_bool _ | ((try dsimp only [Int.reduceToNat]); first | omega | (refine mulw ?_ ?_ ?_ ?_ <;> omega) | (refine divw ?_ ?_ <;> omega) | (refine poww ?_ ?_ ?_ ?_ <;> omega) | (refine divp ?_ ?_ ?_ <;> omega) | (have := szl; simp only [List.length_append, List.length_cons, List.length_nil, List.length_map, List.length_range]; omega) | decide))); (with_reducible conv => whnf))))
    rw [e2]
    ((with_reducible conv => whnf); repeat (first | ((with_reducible refine xT ?_ ?_); (· exact rfl); (with_reducible conv => whnf)) | ((with_reducible refine xF ?_ ?_); (· exact rfl); (with_reducible conv => whnf)) | ((with_reducible apply xE); (· exact rfl); (with_reducible conv => whnf)) | ((with_reducible refine And.intro ?_ ?_); (· (first | exact rfl | exact sh_int _ | exact sh_bool _ | ((try dsimp only [Int.reduceToNat]); first | omega | (refine mulw ?_ ?_ ?_ ?_ <;> omega) | (refine divw ?_ ?_ <;> omega) | (refine poww ?_ ?_ ?_ ?_ <;> omega) | (refine divp ?_ ?_ ?_ <;> omega) | (have := szl; simp only [List.length_append, List.length_cons, List.length_nil, List.length_map, List.length_range]; omega) | decide))); (with_reducible conv => whnf))))
    rw [e3]
    ((with_reducible conv => whnf); repeat (first | ((with_reducible refine xT ?_ ?_); (· exact rfl); (with_reducible conv => whnf)) | ((with_reducible refine xF ?_ ?_); (· exact rfl); (with_reducible conv => whnf)) | ((with_reducible apply xE); (· exact rfl); (with_reducible conv => whnf)) | ((with_reducible refine And.intro ?_ ?_); (· (first | exact rfl | exact sh_int _ | exact sh_bool _ | ((try dsimp only [Int.reduceToNat]); first | omega | (refine mulw ?_ ?_ ?_ ?_ <;> omega) | (refine divw ?_ ?_ <;> omega) | (refine poww ?_ ?_ ?_ ?_ <;> omega) | (refine divp ?_ ?_ ?_ <;> omega) | (have := szl; simp only [List.length_append, List.length_cons, List.length_nil, List.length_map, List.length_range]; omega) | decide))); (with_reducible conv => whnf))))
    intro y m d e; cases e
    exact ⟨rfl, by rw [decide_eq_false v]; rfl⟩
end T18
set_option Elab.async false
set_option linter.all false
set_option maxRecDepth 100000
set_option maxHeartbeats 4000000
namespace T18
open PySem PySem.Spec PyProof.Rows L2 DL
theorem date0 : dateI 0 = (2000, 1, 1) := by decide +kernel
theorem num_uniq {y m d i : Int} (v : valid y m d) (e : numI y m d = i) : dateI i = (y, m, d) := by rw [← e]; exact date_num v
theorem good_i (i : Int) : goodD 3 (.int i) := trivial
theorem good_t (a b c : Int) : goodD 3 (.tuple [.int a, .int b, .int c]) := ⟨by show 3 ≤ 1000; decide, by
  intro e he
  simp only [List.mem_cons, List.mem_nil_iff, or_false] at he
  rcases he with rfl | rfl | rfl <;> trivial⟩
theorem good_l2 (a b c : Int) : goodD 3 (.list [.tuple [.int a, .int b, .int c], .tuple [.int a, .int b, .int c]]) := ⟨by show 2 ≤ 1000; decide, by
  intro e he
  simp only [List.mem_cons, List.mem_nil_iff, or_false, or_self] at he
  subst he
  refine ⟨by show 3 ≤ 1000; decide, fun e he => ?_⟩
  simp only [List.mem_cons, List.mem_nil_iff, or_false] at he
  rcases he with rfl | rfl | rfl <;> trivial⟩
theorem good_l (a b : Int) : goodD 3 (.list [.int a, .int b]) := ⟨by show 2 ≤ 1000; decide, by
  intro e he
  simp only [List.mem_cons, List.mem_nil_iff, or_false] at he
  rcases he with rfl | rfl <;> trivial⟩
variable {cl : Nat → Addr} {s0 s1 s2 s3 s4 s5 s6 s7 s8 s9 s10 s11 s12 s13 : Sl}
theorem rb2 {y w : Int} (D : DEnds) (v : ¬ valid y w 1) (h : -(10 ^ 12) < y ∧ y < 10 ^ 12 ∧ -(10 ^ 12) < w ∧ w < 10 ^ 12) (k : D.nx [s0, s1, s2, s3, s4, s5, .fz (.int w), s7, s8, .fz (.int y), s10, s11, s12, s13]) :
    t_law_b2 cl D [s0, s1, s2, s3, s4, s5, .fz (.int w), s7, s8, .fz (.int y), s10, s11, s12, s13] := by
  unfold t_law_b2
  ((with_reducible conv => whnf); repeat (first | ((with_reducible refine xT ?_ ?_); (· exact rfl); (with_reducible conv => whnf)) | ((with_reducible refine xF ?_ ?_); (· exact rfl); (with_reducible conv => whnf)) | ((with_reducible apply xE); (· exact rfl); (with_reducible conv => whnf)) | ((with_reducible refine And.intro ?_ ?_); (· (first | exact rfl | exact sh_int _ | exact sh_bool _ | ((try dsimp only [Int.reduceToNat]); first | omega | (refine mulw ?_ ?_ ?_ ?_ <;> omega) | (refine divw ?_ ?_ <;> omega) | (refine poww ?_ ?_ ?_ ?_ <;> omega) | (refine divp ?_ ?_ ?_ <;> omega) | (have := szl; simp only [List.length_append, List.length_cons, List.length_nil, List.length_map, List.length_range]; omega) | decide))); (with_reducible conv => whnf))))
  refine ⟨⟨_, _, _, rfl, by omega⟩, fun r as' hp => ?_, fun C as' hx => False.elim hx⟩
  obtain ⟨rfl, rfl⟩ := hp _ _ _ rfl
  rw [decide_eq_false v]; clear hp; (try (generalize hρ : DL.backA _ _ _ = ρ'; dsimp only [DL.setS, DL.getS, DL.backA, DL.toPw, DL.RR.vr, DL.RR.sl, DL.nils, DL.wrL, List.set, Int.reduceToNat] at hρ; subst hρ)); ((with_reducible conv => whnf); repeat (first | ((with_reducible refine xT ?_ ?_); (· exact rfl); (with_reducible conv => whnf)) | ((with_reducible refine xF ?_ ?_); (· exact rfl); (with_reducible conv => whnf)) | ((with_reducible apply xE); (· exact rfl); (with_reducible conv => whnf)) | ((with_reducible refine And.intro ?_ ?_); (· (first | exact rfl | exact sh_int _ | exact sh_bool _ | ((try dsimp only [Int.reduceToNat]); first | omega | (refine mulw ?_ ?_ ?_ ?_ <;> omega) | (refine divw ?_ ?_ <;> omega) | (refine poww ?_ ?_ ?_ ?_ <;> omega) | (refine divp ?_ ?_ ?_ <;> omega) | (have := szl; simp only [List.length_append, List.length_cons, List.length_nil, List.length_map, List.length_range]; omega) | decide))); (with_reducible conv => whnf))))
  exact k
theorem rb3 {y w d : Int} (D : DEnds) (v : ¬ valid y w d) (h : -(10 ^ 12) < y ∧ y < 10 ^ 12 ∧ -(10 ^ 12) < w ∧ w < 10 ^ 12 ∧ -(10 ^ 12) < d ∧ d < 10 ^ 12) (k : D.nx [s0, s1, s2, s3, s4, s5, .fz (.tuple [.int w, .int d]), s7, s8, .fz (.int y), s10, s11, s12, s13]) :
    t_law_b3 cl D [s0, s1, s2, s3, s4, s5, .fz (.tuple [.int w, .int d]), s7, s8, .fz (.int y), s10, s11, s12, s13] := by
  unfold t_law_b3
  ((with_reducible conv => whnf); repeat (first | ((with_reducible refine xT ?_ ?_); (· exact rfl); (with_reducible conv => whnf)) | ((with_reducible refine xF ?_ ?_); (· exact rfl); (with_reducible conv => whnf)) | ((with_reducible apply xE); (· exact rfl); (with_reducible conv => whnf)) | ((with_reducible refine And.intro ?_ ?_); (· (first | exact rfl | exact sh_int _ | exact sh_bool _ | ((try dsimp only [Int.reduceToNat]); first | omega | (refine mulw ?_ ?_ ?_ ?_ <;> omega) | (refine divw ?_ ?_ <;> omega) | (refine poww ?_ ?_ ?_ ?_ <;> omega) | (refine divp ?_ ?_ ?_ <;> omega) | (have := szl; simp only [List.length_append, List.length_cons, List.length_nil, List.length_map, List.length_range]; omega) | decide))); (with_reducible conv => whnf))))
  refine ⟨⟨_, _, _, rfl, by omega⟩, fun r as' hp => ?_, fun C as' hx => False.elim hx⟩
  obtain ⟨rfl, rfl⟩ := hp _ _ _ rfl
  rw [decide_eq_false v]; clear hp; (try (generalize hρ : DL.backA _ _ _ = ρ'; dsimp only [DL.setS, DL.getS, DL.backA, DL.toPw, DL.RR.vr, DL.RR.sl, DL.nils, DL.wrL, List.set, Int.reduceToNat] at hρ; subst hρ)); ((with_reducible conv => whnf); repeat (first | ((with_reducible refine xT ?_ ?_); (· exact rfl); (with_reducible conv => whnf)) | ((with_reducible refine xF ?_ ?_); (· exact rfl); (with_reducible conv => whnf)) | ((with_reducible apply xE); (· exact rfl); (with_reducible conv => whnf)) | ((with_reducible refine And.intro ?_ ?_); (· (first | exact rfl | exact sh_int _ | exact sh_bool _ | ((try dsimp only [Int.reduceToNat]); first | omega | (refine mulw ?_ ?_ ?_ ?_ <;> omega) | (refine divw ?_ ?_ <;> omega) | (refine poww ?_ ?_ ?_ ?_ <;> omega) | (refine divp ?_ ?_ ?_ <;> omega) | (have := szl; simp only [List.length_append, List.length_cons, List.length_nil, List.length_map, List.length_range]; omega) | decide))); (with_reducible conv => whnf))))
  exact k
theorem rb4 {y m w : Int} (D : DEnds) (v : ¬ valid y m w) (h : -(10 ^ 12) < y ∧ y < 10 ^ 12 ∧ -(10 ^ 12) < m ∧ m < 10 ^ 12 ∧ -(10 ^ 12) < w ∧ w < 10 ^ 12) (k : D.nx [s0, s1, s2, s3, s4, s5, .fz (.int w), s7, s8, .fz (.int y), .fz (.int m), s11, s12, s13]) :
    t_law_b4 cl D [s0, s1, s2, s3, s4, s5, .fz (.int w), s7, s8, .fz (.int y), .fz (.int m), s11, s12, s13] := by
  unfold t_law_b4
  ((with_reducible conv => whnf); repeat (first | ((with_reducible refine xT ?_ ?_); (· exact rfl); (with_reducible conv => whnf)) | ((with_reducible refine xF ?_ ?_); (· exact rfl); (with_reducible conv => whnf)) | ((with_reducible apply xE); (· exact rfl); (with_reducible conv => whnf)) | ((with_reducible refine And.intro ?_ ?_); (· (first | exact rfl | exact sh_int _ | exact sh_bool _ | ((try dsimp only [Int.reduceToNat]); first | omega | (refine mulw ?_ ?_ ?_ ?_ <;> omega) | (refine divw ?_ ?_ <;> omega) | (refine poww ?_ ?_ ?_ ?_ <;> omega) | (refine divp ?_ ?_ ?_ <;> omega) | (have := szl; simp only [List.length_append, List.length_cons, List.length_nil, List.length_map, List.length_range]; omega) | decide))); (with_reducible conv => whnf))))
  refine ⟨⟨_, _, _, rfl, by omega⟩, fun r as' hp => ?_, fun C as' hx => False.elim hx⟩
  obtain ⟨rfl, rfl⟩ := hp _ _ _ rfl
  rw [decide_eq_false v]; clear hp; (try (generalize hρ : DL.backA _ _ _ = ρ'; dsimp only [DL.setS, DL.getS, DL.backA, DL.toPw, DL.RR.vr, DL.RR.sl, DL.nils, DL.wrL, List.set, Int.reduceToNat] at hρ; subst hρ)); ((with_reducible conv => whnf); repeat (first | ((with_reducible refine xT ?_ ?_); (· exact rfl); (with_reducible conv => whnf)) | ((with_reducible refine xF ?_ ?_); (· exact rfl); (with_reducible conv => whnf)) | ((with_reducible apply xE); (· exact rfl); (with_reducible conv => whnf)) | ((with_reducible refine And.intro ?_ ?_); (· (first | exact rfl | exact sh_int _ | exact sh_bool _ | ((try dsimp only [Int.reduceToNat]); first | omega | (refine mulw ?_ ?_ ?_ ?_ <;> omega) | (refine divw ?_ ?_ <;> omega) | (refine poww ?_ ?_ ?_ ?_ <;> omega) | (refine divp ?_ ?_ ?_ <;> omega) | (have := szl; simp only [List.length_append, List.length_cons, List.length_nil, List.length_map, List.length_range]; omega) | decide))); (with_reducible conv => whnf))))
  exact k
theorem rb1 {i : Int} (D : DEnds) (h1 : -(10 ^ 9) < i) (h2 : i < 10 ^ 9) (k : ∀ s7, D.nx [s0, s1, s2, s3, .fz (.int i), s5, s6, s7, s8, s9, s10, s11, s12, s13]) :
    t_law_b1 cl D [s0, s1, s2, s3, .fz (.int i), s5, s6, s7, s8, s9, s10, s11, s12, s13] := by
  unfold t_law_b1
  ((with_reducible conv => whnf); repeat (first | ((with_reducible refine xT ?_ ?_); (· exact rfl); (with_reducible conv => whnf)) | ((with_reducible refine xF ?_ ?_); (· exact rfl); (with_reducible conv => whnf)) | ((with_reducible apply xE); (· exact rfl); (with_reducible conv => whnf)) | ((with_reducible refine And.intro ?_ ?_); (· (first | exact rfl | exact sh_int _ | exact sh_bool _ | ((try dsimp only [Int.reduceToNat]); first | omega | (refine mulw ?_ ?_ ?_ ?_ <;> omega) | (refine divw ?_ ?_ <;> omega) | (refine poww ?_ ?_ ?_ ?_ <;> omega) | (refine divp ?_ ?_ ?_ <;> omega) | (have := szl; simp only [List.length_append, List.length_cons, List.length_nil, List.length_map, List.length_range]; omega) | decide))); (with_reducible conv => whnf))))
  refine ⟨⟨_, rfl, by omega⟩, fun r as' hp => ?_, fun C as' hx => False.elim hx⟩
  obtain ⟨y, m, d, rfl, rfl, v, e, y1, y2⟩ := hp _ rfl (by omega) (by omega)
  have v' := v
  obtain ⟨v1, v2, v3, v4⟩ := v'
  have lm := len_le y m
  clear hp; (try (generalize hρ : DL.backA _ _ _ = ρ'; dsimp only [DL.setS, DL.getS, DL.backA, DL.toPw, DL.RR.vr, DL.RR.sl, DL.nils, DL.wrL, List.set, Int.reduceToNat] at hρ; subst hρ)); ((with_reducible conv => whnf); repeat (first | ((with_reducible refine xT ?_ ?_); (· exact rfl); (with_reducible conv => whnf)) | ((with_reducible refine xF ?_ ?_); (· exact rfl); (with_reducible conv => whnf)) | ((with_reducible apply xE); (· exact rfl); (with_reducible conv => whnf)) | ((with_reducible refine And.intro ?_ ?_); (· (first | exact rfl | exact sh_int _ | exact sh_bool _ | ((try dsimp only [Int.reduceToNat]); first | omega | (refine mulw ?_ ?_ ?_ ?_ <;> omega) | (refine divw ?_ ?_ <;> omega) | (refine poww ?_ ?_ ?_ ?_ <;> omega) | (refine divp ?_ ?_ ?_ <;> omega) | (have := szl; simp only [List.length_append, List.length_cons, List.length_nil, List.length_map, List.length_range]; omega) | decide))); (with_reducible conv => whnf))))
  refine ⟨⟨_, rfl, by omega⟩, fun r as' hp => ?_, fun C as' hx => False.elim hx⟩
  have hp := hp _ rfl
  rw [num_uniq v e] at hp
  obtain ⟨rfl, rfl⟩ := hp
  clear hp; (try (generalize hρ : DL.backA _ _ _ = ρ'; dsimp only [DL.setS, DL.getS, DL.backA, DL.toPw, DL.RR.vr, DL.RR.sl, DL.nils, DL.wrL, List.set, Int.reduceToNat] at hρ; subst hρ)); ((with_reducible conv => whnf); repeat (first | ((with_reducible refine xT ?_ ?_); (· exact rfl); (with_reducible conv => whnf)) | ((with_reducible refine xF ?_ ?_); (· exact rfl); (with_reducible conv => whnf)) | ((with_reducible apply xE); (· exact rfl); (with_reducible conv => whnf)) | ((with_reducible refine And.intro ?_ ?_); (· (first | exact rfl | exact sh_int _ | exact sh_bool _ | ((try dsimp only [Int.reduceToNat]); first | omega | (refine mulw ?_ ?_ ?_ ?_ <;> omega) | (refine divw ?_ ?_ <;> omega) | (refine poww ?_ ?_ ?_ ?_ <;> omega) | (refine divp ?_ ?_ ?_ <;> omega) | (have := szl; simp only [List.length_append, List.length_cons, List.length_nil, List.length_map, List.length_range]; omega) | decide))); (with_reducible conv => whnf))))
  refine ⟨⟨_, rfl, good_t _ _ _⟩, fun r as' hp => ?_, fun C as' hx => False.elim hx⟩
  obtain ⟨rfl, rfl⟩ := hp _ rfl
  clear hp; (try (generalize hρ : DL.backA _ _ _ = ρ'; dsimp only [DL.setS, DL.getS, DL.backA, DL.toPw, DL.RR.vr, DL.RR.sl, DL.nils, DL.wrL, List.set, Int.reduceToNat] at hρ; subst hρ)); ((with_reducible conv => whnf); repeat (first | ((with_reducible refine xT ?_ ?_); (· exact rfl); (with_reducible conv => whnf)) | ((with_reducible refine xF ?_ ?_); (· exact rfl); (with_reducible conv => whnf)) | ((with_reducible apply xE); (· exact rfl); (with_reducible conv => whnf)) | ((with_reducible refine And.intro ?_ ?_); (· (first | exact rfl | exact sh_int _ | exact sh_bool _ | ((try dsimp only [Int.reduceToNat]); first | omega | (refine mulw ?_ ?_ ?_ ?_ <;> omega) | (refine divw ?_ ?_ <;> omega) | (refine poww ?_ ?_ ?_ ?_ <;> omega) | (refine divp ?_ ?_ ?_ <;> omega) | (have := szl; simp only [List.length_append, List.length_cons, List.length_nil, List.length_map, List.length_range]; omega) | decide))); (with_reducible conv => whnf))))
  refine ⟨⟨_, _, _, rfl, by omega⟩, fun r as' hp => ?_, fun C as' hx => absurd v (hx _ _ _ rfl).1⟩
  obtain ⟨_, rfl, rfl⟩ := hp _ _ _ rfl
  rw [e]
  clear hp; (try (generalize hρ : DL.backA _ _ _ = ρ'; dsimp only [DL.setS, DL.getS, DL.backA, DL.toPw, DL.RR.vr, DL.RR.sl, DL.nils, DL.wrL, List.set, Int.reduceToNat] at hρ; subst hρ)); ((with_reducible conv => whnf); repeat (first | ((with_reducible refine xT ?_ ?_); (· exact rfl); (with_reducible conv => whnf)) | ((with_reducible refine xF ?_ ?_); (· exact rfl); (with_reducible conv => whnf)) | ((with_reducible apply xE); (· exact rfl); (with_reducible conv => whnf)) | ((with_reducible refine And.intro ?_ ?_); (· (first | exact rfl | exact sh_int _ | exact sh_bool _ | ((try dsimp only [Int.reduceToNat]); first | omega | (refine mulw ?_ ?_ ?_ ?_ <;> omega) | (refine divw ?_ ?_ <;> omega) | (refine poww ?_ ?_ ?_ ?_ <;> omega) | (refine divp ?_ ?_ ?_ <;> omega) | (have := szl; simp only [List.length_append, List.length_cons, List.length_nil, List.length_map, List.length_range]; omega) | decide))); (with_reducible conv => whnf))))
  refine xBne (fun h => absurd rfl h) (fun _ => ?_)
  ((with_reducible conv => whnf); repeat (first | ((with_reducible refine xT ?_ ?_); (· exact rfl); (with_reducible conv => whnf)) | ((with_reducible refine xF ?_ ?_); (· exact rfl); (with_reducible conv => whnf)) | ((with_reducible apply xE); (· exact rfl); (with_reducible conv => whnf)) | ((with_reducible refine And.intro ?_ ?_); (· (first | exact rfl | exact sh_int _ | exact sh_bool _ | ((try dsimp only [Int.reduceToNat]); first | omega | (refine mulw ?_ ?_ ?_ ?_ <;> omega) | (refine divw ?_ ?_ <;> omega) | (refine poww ?_ ?_ ?_ ?_ <;> omega) | (refine divp ?_ ?_ ?_ <;> omega) | (have := szl; simp only [List.length_append, List.length_cons, List.length_nil, List.length_map, List.length_range]; omega) | decide))); (with_reducible conv => whnf))))
  exact k _
theorem rb5 {i : Int} (D : DEnds) (h1 : -(10 ^ 9) < i) (h2 : i < 10 ^ 9) (k : ∀ s7 s8 s9 s10 s11, D.nx [s0, s1, s2, s3, .fz (.int i), s5, s6, s7, s8, s9, s10, s11, s12, s13]) :
    t_law_b5 cl D [s0, s1, s2, s3, .fz (.int i), s5, s6, s7, s8, s9, s10, s11, s12, s13] := by
  unfold t_law_b5
  ((with_reducible conv => whnf); repeat (first | ((with_reducible refine xT ?_ ?_); (· exact rfl); (with_reducible conv => whnf)) | ((with_reducible refine xF ?_ ?_); (· exact rfl); (with_reducible conv => whnf)) | ((with_reducible apply xE); (· exact rfl); (with_reducible conv => whnf)) | ((with_reducible refine And.intro ?_ ?_); (· (first | exact rfl | exact sh_int _ | exact sh_bool _ | ((try dsimp only [Int.reduceToNat]); first | omega | (refine mulw ?_ ?_ ?_ ?_ <;> omega) | (refine divw ?_ ?_ <;> omega) | (refine poww ?_ ?_ ?_ ?_ <;> omega) | (refine divp ?_ ?_ ?_ <;> omega) | (have := szl; simp only [List.length_append, List.length_cons, List.length_nil, List.length_map, List.length_range]; omega) | decide))); (with_reducible conv => whnf))))
  refine ⟨⟨_, rfl, by omega⟩, fun r as' hp => ?_, fun C as' hx => False.elim hx⟩
  obtain ⟨y, m, d, rfl, rfl, v, e, y1, y2⟩ := hp _ rfl (by omega) (by omega)
  have v' := v
  obtain ⟨v1, v2, v3, v4⟩ := v'
  have lm := len_le y m
  clear hp; (try (generalize hρ : DL.backA _ _ _ = ρ'; dsimp only [DL.setS, DL.getS, DL.backA, DL.toPw, DL.RR.vr, DL.RR.sl, DL.nils, DL.wrL, List.set, Int.reduceToNat] at hρ; subst hρ)); ((with_reducible conv => whnf); repeat (first | ((with_reducible refine xT ?_ ?_); (· exact rfl); (with_reducible conv => whnf)) | ((with_reducible refine xF ?_ ?_); (· exact rfl); (with_reducible conv => whnf)) | ((with_reducible apply xE); (· exact rfl); (with_reducible conv => whnf)) | ((with_reducible refine And.intro ?_ ?_); (· (first | exact rfl | exact sh_int _ | exact sh_bool _ | ((try dsimp only [Int.reduceToNat]); first | omega | (refine mulw ?_ ?_ ?_ ?_ <;> omega) | (refine divw ?_ ?_ <;> omega) | (refine poww ?_ ?_ ?_ ?_ <;> omega) | (refine divp ?_ ?_ ?_ <;> omega) | (have := szl; simp only [List.length_append, List.length_cons, List.length_nil, List.length_map, List.length_range]; omega) | decide))); (with_reducible conv => whnf))))
  refine ⟨⟨_, rfl, by omega⟩, fun r as' hp => ?_, fun C as' hx => False.elim hx⟩
  have hp := hp _ rfl
  rw [num_uniq v e] at hp
  obtain ⟨rfl, rfl⟩ := hp
  clear hp; (try (generalize hρ : DL.backA _ _ _ = ρ'; dsimp only [DL.setS, DL.getS, DL.backA, DL.toPw, DL.RR.vr, DL.RR.sl, DL.nils, DL.wrL, List.set, Int.reduceToNat] at hρ; subst hρ)); ((with_reducible conv => whnf); repeat (first | ((with_reducible refine xT ?_ ?_); (· exact rfl); (with_reducible conv => whnf)) | ((with_reducible refine xF ?_ ?_); (· exact rfl); (with_reducible conv => whnf)) | ((with_reducible apply xE); (· exact rfl); (with_reducible conv => whnf)) | ((with_reducible refine And.intro ?_ ?_); (· (first | exact rfl | exact sh_int _ | exact sh_bool _ | ((try dsimp only [Int.reduceToNat]); first | omega | (refine mulw ?_ ?_ ?_ ?_ <;> omega) | (refine divw ?_ ?_ <;> omega) | (refine poww ?_ ?_ ?_ ?_ <;> omega) | (refine divp ?_ ?_ ?_ <;> omega) | (have := szl; simp only [List.length_append, List.length_cons, List.length_nil, List.length_map, List.length_range]; omega) | decide))); (with_reducible conv => whnf))))
  refine ⟨⟨_, rfl, by omega⟩, fun r as' hp => ?_, fun C as' hx => False.elim hx⟩
  have hp := hp _ rfl
  rw [num_uniq v e] at hp
  obtain ⟨rfl, rfl⟩ := hp
  clear hp; (try (generalize hρ : DL.backA _ _ _ = ρ'; dsimp only [DL.setS, DL.getS, DL.backA, DL.toPw, DL.RR.vr, DL.RR.sl, DL.nils, DL.wrL, List.set, Int.reduceToNat] at hρ; subst hρ)); ((with_reducible conv => whnf); repeat (first | ((with_reducible refine xT ?_ ?_); (· exact rfl); (with_reducible conv => whnf)) | ((with_reducible refine xF ?_ ?_); (· exact rfl); (with_reducible conv => whnf)) | ((with_reducible apply xE); (· exact rfl); (with_reducible conv => whnf)) | ((with_reducible refine And.intro ?_ ?_); (· (first | exact rfl | exact sh_int _ | exact sh_bool _ | ((try dsimp only [Int.reduceToNat]); first | omega | (refine mulw ?_ ?_ ?_ ?_ <;> omega) | (refine divw ?_ ?_ <;> omega) | (refine poww ?_ ?_ ?_ ?_ <;> omega) | (refine divp ?_ ?_ ?_ <;> omega) | (have := szl; simp only [List.length_append, List.length_cons, List.length_nil, List.length_map, List.length_range]; omega) | decide))); (with_reducible conv => whnf))))
  refine ⟨⟨_, rfl, good_l2 _ _ _⟩, fun r as' hp => ?_, fun C as' hx => False.elim hx⟩
  obtain ⟨rfl, rfl⟩ := hp _ rfl
  clear hp; (try (generalize hρ : DL.backA _ _ _ = ρ'; dsimp only [DL.setS, DL.getS, DL.backA, DL.toPw, DL.RR.vr, DL.RR.sl, DL.nils, DL.wrL, List.set, Int.reduceToNat] at hρ; subst hρ)); ((with_reducible conv => whnf); repeat (first | ((with_reducible refine xT ?_ ?_); (· exact rfl); (with_reducible conv => whnf)) | ((with_reducible refine xF ?_ ?_); (· exact rfl); (with_reducible conv => whnf)) | ((with_reducible apply xE); (· exact rfl); (with_reducible conv => whnf)) | ((with_reducible refine And.intro ?_ ?_); (· (first | exact rfl | exact sh_int _ | exact sh_bool _ | ((try dsimp only [Int.reduceToNat]); first | omega | (refine mulw ?_ ?_ ?_ ?_ <;> omega) | (refine divw ?_ ?_ <;> omega) | (refine poww ?_ ?_ ?_ ?_ <;> omega) | (refine divp ?_ ?_ ?_ <;> omega) | (have := szl; simp only [List.length_append, List.length_cons, List.length_nil, List.length_map, List.length_range]; omega) | decide))); (with_reducible conv => whnf))))
  refine ⟨⟨_, _, _, rfl, by omega⟩, fun r as' hp => ?_, fun C as' hx => absurd v (hx _ _ _ rfl).1⟩
  obtain ⟨_, rfl, rfl⟩ := hp _ _ _ rfl
  rw [e]
  clear hp; (try (generalize hρ : DL.backA _ _ _ = ρ'; dsimp only [DL.setS, DL.getS, DL.backA, DL.toPw, DL.RR.vr, DL.RR.sl, DL.nils, DL.wrL, List.set, Int.reduceToNat] at hρ; subst hρ)); ((with_reducible conv => whnf); repeat (first | ((with_reducible refine xT ?_ ?_); (· exact rfl); (with_reducible conv => whnf)) | ((with_reducible refine xF ?_ ?_); (· exact rfl); (with_reducible conv => whnf)) | ((with_reducible apply xE); (· exact rfl); (with_reducible conv => whnf)) | ((with_reducible refine And.intro ?_ ?_); (· (first | exact rfl | exact sh_int _ | exact sh_bool _ | ((try dsimp only [Int.reduceToNat]); first | omega | (refine mulw ?_ ?_ ?_ ?_ <;> omega) | (refine divw ?_ ?_ <;> omega) | (refine poww ?_ ?_ ?_ ?_ <;> omega) | (refine divp ?_ ?_ ?_ <;> omega) | (have := szl; simp only [List.length_append, List.length_cons, List.length_nil, List.length_map, List.length_range]; omega) | decide))); (with_reducible conv => whnf))))
  refine ⟨⟨_, _, _, rfl, by omega⟩, fun r as' hp => ?_, fun C as' hx => absurd v (hx _ _ _ rfl).1⟩
  obtain ⟨_, rfl, rfl⟩ := hp _ _ _ rfl
  rw [e]
  clear hp; (try (generalize hρ : DL.backA _ _ _ = ρ'; dsimp only [DL.setS, DL.getS, DL.backA, DL.toPw, DL.RR.vr, DL.RR.sl, DL.nils, DL.wrL, List.set, Int.reduceToNat] at hρ; subst hρ)); ((with_reducible conv => whnf); repeat (first | ((with_reducible refine xT ?_ ?_); (· exact rfl); (with_reducible conv => whnf)) | ((with_reducible refine xF ?_ ?_); (· exact rfl); (with_reducible conv => whnf)) | ((with_reducible apply xE); (· exact rfl); (with_reducible conv => whnf)) | ((with_reducible refine And.intro ?_ ?_); (· (first | exact rfl | exact sh_int _ | exact sh_bool _ | ((try dsimp only [Int.reduceToNat]); first | omega | (refine mulw ?_ ?_ ?_ ?_ <;> omega) | (refine divw ?_ ?_ <;> omega) | (refine poww ?_ ?_ ?_ ?_ <;> omega) | (refine divp ?_ ?_ ?_ <;> omega) | (have := szl; simp only [List.length_append, List.length_cons, List.length_nil, List.length_map, List.length_range]; omega) | decide))); (with_reducible conv => whnf))))
  refine ⟨⟨_, rfl, good_l _ _⟩, fun r as' hp => ?_, fun C as' hx => False.elim hx⟩
  obtain ⟨rfl, rfl⟩ := hp _ rfl
  clear hp; (try (generalize hρ : DL.backA _ _ _ = ρ'; dsimp only [DL.setS, DL.getS, DL.backA, DL.toPw, DL.RR.vr, DL.RR.sl, DL.nils, DL.wrL, List.set, Int.reduceToNat] at hρ; subst hρ)); ((with_reducible conv => whnf); repeat (first | ((with_reducible refine xT ?_ ?_); (· exact rfl); (with_reducible conv => whnf)) | ((with_reducible refine xF ?_ ?_); (· exact rfl); (with_reducible conv => whnf)) | ((with_reducible apply xE); (· exact rfl); (with_reducible conv => whnf)) | ((with_reducible refine And.intro ?_ ?_); (· (first | exact rfl | exact sh_int _ | exact sh_bool _ | ((try dsimp only [Int.reduceToNat]); first | omega | (refine mulw ?_ ?_ ?_ ?_ <;> omega) | (refine divw ?_ ?_ <;> omega) | (refine poww ?_ ?_ ?_ ?_ <;> omega) | (refine divp ?_ ?_ ?_ <;> omega) | (have := szl; simp only [List.length_append, List.length_cons, List.length_nil, List.length_map, List.length_range]; omega) | decide))); (with_reducible conv => whnf))))
  refine ⟨⟨_, rfl, by omega⟩, fun r as' hp => ?_, fun C as' hx => False.elim hx⟩
  have hp := hp _ rfl
  rw [show (i - 2) % 7 = (i + 5) % 7 from by omega] at hp
  obtain ⟨rfl, rfl⟩ := hp
  clear hp; (try (generalize hρ : DL.backA _ _ _ = ρ'; dsimp only [DL.setS, DL.getS, DL.backA, DL.toPw, DL.RR.vr, DL.RR.sl, DL.nils, DL.wrL, List.set, Int.reduceToNat] at hρ; subst hρ)); ((with_reducible conv => whnf); repeat (first | ((with_reducible refine xT ?_ ?_); (· exact rfl); (with_reducible conv => whnf)) | ((with_reducible refine xF ?_ ?_); (· exact rfl); (with_reducible conv => whnf)) | ((with_reducible apply xE); (· exact rfl); (with_reducible conv => whnf)) | ((with_reducible refine And.intro ?_ ?_); (· (first | exact rfl | exact sh_int _ | exact sh_bool _ | ((try dsimp only [Int.reduceToNat]); first | omega | (refine mulw ?_ ?_ ?_ ?_ <;> omega) | (refine divw ?_ ?_ <;> omega) | (refine poww ?_ ?_ ?_ ?_ <;> omega) | (refine divp ?_ ?_ ?_ <;> omega) | (have := szl; simp only [List.length_append, List.length_cons, List.length_nil, List.length_map, List.length_range]; omega) | decide))); (with_reducible conv => whnf))))
  refine ⟨⟨_, rfl, good_i _⟩, fun r as' hp => ?_, fun C as' hx => False.elim hx⟩
  obtain ⟨rfl, rfl⟩ := hp _ rfl
  clear hp; (try (generalize hρ : DL.backA _ _ _ = ρ'; dsimp only [DL.setS, DL.getS, DL.backA, DL.toPw, DL.RR.vr, DL.RR.sl, DL.nils, DL.wrL, List.set, Int.reduceToNat] at hρ; subst hρ)); ((with_reducible conv => whnf); repeat (first | ((with_reducible refine xT ?_ ?_); (· exact rfl); (with_reducible conv => whnf)) | ((with_reducible refine xF ?_ ?_); (· exact rfl); (with_reducible conv => whnf)) | ((with_reducible apply xE); (· exact rfl); (with_reducible conv => whnf)) | ((with_reducible refine And.intro ?_ ?_); (· (first | exact rfl | exact sh_int _ | exact sh_bool _ | ((try dsimp only [Int.reduceToNat]); first | omega | (refine mulw ?_ ?_ ?_ ?_ <;> omega) | (refine divw ?_ ?_ <;> omega) | (refine poww ?_ ?_ ?_ ?_ <;> omega) | (refine divp ?_ ?_ ?_ <;> omega) | (have := szl; simp only [List.length_append, List.length_cons, List.length_nil, List.length_map, List.length_range]; omega) | decide))); (with_reducible conv => whnf))))
  exact k _ _ _ _ _
theorem nv0 {y m d : Int} (h : d < 1 ∨ lenI y m < d ∨ m < 1 ∨ 12 < m) : ¬ valid y m d := by
  rintro ⟨h1, h2, h3, h4⟩; omega
theorem rb6 {a b c : Int} (D : DEnds) (h : 0 ≤ b ∧ b < 10 ^ 40 ∧ 0 ≤ c ∧ c < 10 ^ 10) (k : ∀ a' c' s4 s5 s6 s7 s8 s9 s10 s11 s12 s13, c ≤ c' → c' ≤ c + 20 → D.nx [s0, s1, .ow (.l [.int a', .int b, .int c']), s3, s4, s5, s6, s7, s8, s9, s10, s11, s12, s13]) :
    t_law_b6 cl D [s0, s1, .ow (.l [.int a, .int b, .int c]), s3, s4, s5, s6, s7, s8, s9, s10, s11, s12, s13] := by
  unfold t_law_b6
  ((with_reducible conv => whnf); repeat (first | ((with_reducible refine xT ?_ ?_); (· exact rfl); (with_reducible conv => whnf)) | ((with_reducible refine xF ?_ ?_); (· exact rfl); (with_reducible conv => whnf)) | ((with_reducible apply xE); (· exact rfl); (with_reducible conv => whnf)) | ((with_reducible refine And.intro ?_ ?_); (· (first | exact rfl | exact sh_int _ | exact sh_bool _ | ((try dsimp only [Int.reduceToNat]); first | omega | (refine mulw ?_ ?_ ?_ ?_ <;> omega) | (refine divw ?_ ?_ <;> omega) | (refine poww ?_ ?_ ?_ ?_ <;> omega) | (refine divp ?_ ?_ ?_ <;> omega) | (have := szl; simp only [List.length_append, List.length_cons, List.length_nil, List.length_map, List.length_range]; omega) | decide))); (with_reducible conv => whnf))))
  refine ⟨⟨_, _, _, rfl, by omega⟩, fun r as' hp => ?_, fun C as' hx => False.elim hx⟩
  obtain ⟨a1, c1, g, rfl, rfl, k1⟩ := hp _ _ _ rfl; clear hp; (try (generalize hρ : DL.backA _ _ _ = ρ'; dsimp only [DL.setS, DL.getS, DL.backA, DL.toPw, DL.RR.vr, DL.RR.sl, DL.nils, DL.wrL, List.set, Int.reduceToNat] at hρ; subst hρ)); ((with_reducible conv => whnf); repeat (first | ((with_reducible refine xT ?_ ?_); (· exact rfl); (with_reducible conv => whnf)) | ((with_reducible refine xF ?_ ?_); (· exact rfl); (with_reducible conv => whnf)) | ((with_reducible apply xE); (· exact rfl); (with_reducible conv => whnf)) | ((with_reducible refine And.intro ?_ ?_); (· (first | exact rfl | exact sh_int _ | exact sh_bool _ | ((try dsimp only [Int.reduceToNat]); first | omega | (refine mulw ?_ ?_ ?_ ?_ <;> omega) | (refine divw ?_ ?_ <;> omega) | (refine poww ?_ ?_ ?_ ?_ <;> omega) | (refine divp ?_ ?_ ?_ <;> omega) | (have := szl; simp only [List.length_append, List.length_cons, List.length_nil, List.length_map, List.length_range]; omega) | decide))); (with_reducible conv => whnf))))
  (try unfold DL.sFor); (try unfold DL.sWhile); (try unfold DL.eLc)
  ((with_reducible conv => whnf); repeat (first | ((with_reducible refine xT ?_ ?_); (· exact rfl); (with_reducible conv => whnf)) | ((with_reducible refine xF ?_ ?_); (· exact rfl); (with_reducible conv => whnf)) | ((with_reducible apply xE); (· exact rfl); (with_reducible conv => whnf)) | ((with_reducible refine And.intro ?_ ?_); (· (first | exact rfl | exact sh_int _ | exact sh_bool _ | ((try dsimp only [Int.reduceToNat]); first | omega | (refine mulw ?_ ?_ ?_ ?_ <;> omega) | (refine divw ?_ ?_ <;> omega) | (refine poww ?_ ?_ ?_ ?_ <;> omega) | (refine divp ?_ ?_ ?_ <;> omega) | (have := szl; simp only [List.length_append, List.length_cons, List.length_nil, List.length_map, List.length_range]; omega) | decide))); (with_reducible conv => whnf))))
  refine ⟨fun i ρ => ∃ s4 s6 s7 s8 s9 s10 s11 s12 s13, ρ = [s0, s1, .ow (.l [.int a1, .int b, .int c1]), s3, s4, .fz (.int g), s6, s7, s8, s9, s10, s11, s12, s13], ⟨_, _, _, _, _, _, _, _, _, rfl⟩, ?_, ?_⟩
  · rintro i x ρ hi ⟨s4, s6, s7, s8, s9, s10, s11, s12, s13, rfl⟩
    have hlt := (List.getElem?_eq_some_iff.mp hi).1
    rw [rgD_len] at hlt
    rw [rgD_get hlt] at hi
    cases hi
    (with_reducible conv => whnf)
    exact rb5 _ (by omega) (by omega) fun s7 s8 s9 s10 s11 => ⟨_, _, _, _, _, _, _, _, _, rfl⟩
  rintro ρ ⟨s4, s6, s7, s8, s9, s10, s11, s12, s13, rfl⟩
  ((with_reducible conv => whnf); repeat (first | ((with_reducible refine xT ?_ ?_); (· exact rfl); (with_reducible conv => whnf)) | ((with_reducible refine xF ?_ ?_); (· exact rfl); (with_reducible conv => whnf)) | ((with_reducible apply xE); (· exact rfl); (with_reducible conv => whnf)) | ((with_reducible refine And.intro ?_ ?_); (· (first | exact rfl | exact sh_int _ | exact sh_bool _ | ((try dsimp only [Int.reduceToNat]); first | omega | (refine mulw ?_ ?_ ?_ ?_ <;> omega) | (refine divw ?_ ?_ <;> omega) | (refine poww ?_ ?_ ?_ ?_ <;> omega) | (refine divp ?_ ?_ ?_ <;> omega) | (have := szl; simp only [List.length_append, List.length_cons, List.length_nil, List.length_map, List.length_range]; omega) | decide))); (with_reducible conv => whnf))))
  refine ⟨⟨_, rfl, by omega⟩, fun r as' hp => ?_, fun C as' hx => False.elim hx⟩
  obtain ⟨y, m, d, rfl, rfl, v, e, y1, y2⟩ := hp _ rfl (by omega) (by omega)
  obtain ⟨v1, v2, v3, v4⟩ := v
  have lm := len_le y m
  clear hp; (try (generalize hρ : DL.backA _ _ _ = ρ'; dsimp only [DL.setS, DL.getS, DL.backA, DL.toPw, DL.RR.vr, DL.RR.sl, DL.nils, DL.wrL, List.set, Int.reduceToNat] at hρ; subst hρ)); ((with_reducible conv => whnf); repeat (first | ((with_reducible refine xT ?_ ?_); (· exact rfl); (with_reducible conv => whnf)) | ((with_reducible refine xF ?_ ?_); (· exact rfl); (with_reducible conv => whnf)) | ((with_reducible apply xE); (· exact rfl); (with_reducible conv => whnf)) | ((with_reducible refine And.intro ?_ ?_); (· (first | exact rfl | exact sh_int _ | exact sh_bool _ | ((try dsimp only [Int.reduceToNat]); first | omega | (refine mulw ?_ ?_ ?_ ?_ <;> omega) | (refine divw ?_ ?_ <;> omega) | (refine poww ?_ ?_ ?_ ?_ <;> omega) | (refine divp ?_ ?_ ?_ <;> omega) | (have := szl; simp only [List.length_append, List.length_cons, List.length_nil, List.length_map, List.length_range]; omega) | decide))); (with_reducible conv => whnf))))
  refine ⟨⟨_, _, rfl⟩, fun r as' hp => ?_, fun C as' hx => False.elim hx⟩
  obtain ⟨rfl, rfl⟩ := hp _ _ rfl; clear hp; (try (generalize hρ : DL.backA _ _ _ = ρ'; dsimp only [DL.setS, DL.getS, DL.backA, DL.toPw, DL.RR.vr, DL.RR.sl, DL.nils, DL.wrL, List.set, Int.reduceToNat] at hρ; subst hρ)); ((with_reducible conv => whnf); repeat (first | ((with_reducible refine xT ?_ ?_); (· exact rfl); (with_reducible conv => whnf)) | ((with_reducible refine xF ?_ ?_); (· exact rfl); (with_reducible conv => whnf)) | ((with_reducible apply xE); (· exact rfl); (with_reducible conv => whnf)) | ((with_reducible refine And.intro ?_ ?_); (· (first | exact rfl | exact sh_int _ | exact sh_bool _ | ((try dsimp only [Int.reduceToNat]); first | omega | (refine mulw ?_ ?_ ?_ ?_ <;> omega) | (refine divw ?_ ?_ <;> omega) | (refine poww ?_ ?_ ?_ ?_ <;> omega) | (refine divp ?_ ?_ ?_ <;> omega) | (have := szl; simp only [List.length_append, List.length_cons, List.length_nil, List.length_map, List.length_range]; omega) | decide))); (with_reducible conv => whnf))))
  refine ⟨⟨_, _, _, _, rfl, by dsimp only [Int.reduceToNat]; omega⟩, fun r as' hp => ?_, fun C as' hx => False.elim hx⟩
  obtain ⟨a2, c2, far, rfl, rfl, k2⟩ := hp _ _ _ _ rfl
  have k2 : 0 ≤ far ∧ far < 10 ^ 6 ∧ c1 ≤ c2 ∧ c2 ≤ c1 + 1 := k2
  clear hp; (try (generalize hρ : DL.backA _ _ _ = ρ'; dsimp only [DL.setS, DL.getS, DL.backA, DL.toPw, DL.RR.vr, DL.RR.sl, DL.nils, DL.wrL, List.set, Int.reduceToNat] at hρ; subst hρ)); ((with_reducible conv => whnf); repeat (first | ((with_reducible refine xT ?_ ?_); (· exact rfl); (with_reducible conv => whnf)) | ((with_reducible refine xF ?_ ?_); (· exact rfl); (with_reducible conv => whnf)) | ((with_reducible apply xE); (· exact rfl); (with_reducible conv => whnf)) | ((with_reducible refine And.intro ?_ ?_); (· (first | exact rfl | exact sh_int _ | exact sh_bool _ | ((try dsimp only [Int.reduceToNat]); first | omega | (refine mulw ?_ ?_ ?_ ?_ <;> omega) | (refine divw ?_ ?_ <;> omega) | (refine poww ?_ ?_ ?_ ?_ <;> omega) | (refine divp ?_ ?_ ?_ <;> omega) | (have := szl; simp only [List.length_append, List.length_cons, List.length_nil, List.length_map, List.length_range]; omega) | decide))); (with_reducible conv => whnf))))
  (try unfold DL.sFor); (try unfold DL.sWhile); (try unfold DL.eLc)
  ((with_reducible conv => whnf); repeat (first | ((with_reducible refine xT ?_ ?_); (· exact rfl); (with_reducible conv => whnf)) | ((with_reducible refine xF ?_ ?_); (· exact rfl); (with_reducible conv => whnf)) | ((with_reducible apply xE); (· exact rfl); (with_reducible conv => whnf)) | ((with_reducible refine And.intro ?_ ?_); (· (first | exact rfl | exact sh_int _ | exact sh_bool _ | ((try dsimp only [Int.reduceToNat]); first | omega | (refine mulw ?_ ?_ ?_ ?_ <;> omega) | (refine divw ?_ ?_ <;> omega) | (refine poww ?_ ?_ ?_ ?_ <;> omega) | (refine divp ?_ ?_ ?_ <;> omega) | (have := szl; simp only [List.length_append, List.length_cons, List.length_nil, List.length_map, List.length_range]; omega) | decide))); (with_reducible conv => whnf))))
  refine ⟨fun i ρ => ∃ s6, ρ = [s0, s1, .ow (.l [.int a2, .int b, .int c2]), s3, s4, .fz (.int g), s6, s7, s8, .fz (.int y), .fz (.int m), .fz (.int d), .fz (.int (lenI y m)), .fz (.int far)], ⟨_, rfl⟩, ?_, ?_⟩
  · rintro i x ρ hi ⟨s6, rfl⟩
    have hx : ∃ w, x = .int w ∧ ¬ valid y m w ∧ -(10 ^ 12) < w ∧ w < 10 ^ 12 := by
      match i, hi with
      | 0, hi => cases hi; exact ⟨_, rfl, nv0 (by omega), by omega, by omega⟩
      | 1, hi => cases hi; exact ⟨_, rfl, nv0 (by omega), by omega, by omega⟩
      | 2, hi => cases hi; exact ⟨_, rfl, nv0 (by omega), by omega, by omega⟩
      | 3, hi => cases hi; exact ⟨_, rfl, nv0 (by omega), by omega, by omega⟩
      | 4, hi => cases hi; exact ⟨_, rfl, nv0 (by omega), by omega, by omega⟩
    obtain ⟨w, rfl, nv, w1, w2⟩ := hx
    (with_reducible conv => whnf)
    exact rb4 _ nv (by omega) ⟨_, rfl⟩
  rintro ρ ⟨s6, rfl⟩
  ((with_reducible conv => whnf); repeat (first | ((with_reducible refine xT ?_ ?_); (· exact rfl); (with_reducible conv => whnf)) | ((with_reducible refine xF ?_ ?_); (· exact rfl); (with_reducible conv => whnf)) | ((with_reducible apply xE); (· exact rfl); (with_reducible conv => whnf)) | ((with_reducible refine And.intro ?_ ?_); (· (first | exact rfl | exact sh_int _ | exact sh_bool _ | ((try dsimp only [Int.reduceToNat]); first | omega | (refine mulw ?_ ?_ ?_ ?_ <;> omega) | (refine divw ?_ ?_ <;> omega) | (refine poww ?_ ?_ ?_ ?_ <;> omega) | (refine divp ?_ ?_ ?_ <;> omega) | (have := szl; simp only [List.length_append, List.length_cons, List.length_nil, List.length_map, List.length_range]; omega) | decide))); (with_reducible conv => whnf))))
  (try unfold DL.sFor); (try unfold DL.sWhile); (try unfold DL.eLc)
  ((with_reducible conv => whnf); repeat (first | ((with_reducible refine xT ?_ ?_); (· exact rfl); (with_reducible conv => whnf)) | ((with_reducible refine xF ?_ ?_); (· exact rfl); (with_reducible conv => whnf)) | ((with_reducible apply xE); (· exact rfl); (with_reducible conv => whnf)) | ((with_reducible refine And.intro ?_ ?_); (· (first | exact rfl | exact sh_int _ | exact sh_bool _ | ((try dsimp only [Int.reduceToNat]); first | omega | (refine mulw ?_ ?_ ?_ ?_ <;> omega) | (refine divw ?_ ?_ <;> omega) | (refine poww ?_ ?_ ?_ ?_ <;> omega) | (refine divp ?_ ?_ ?_ <;> omega) | (have := szl; simp only [List.length_append, List.length_cons, List.length_nil, List.length_map, List.length_range]; omega) | decide))); (with_reducible conv => whnf))))
  refine ⟨fun i ρ => ∃ s6, ρ = [s0, s1, .ow (.l [.int a2, .int b, .int c2]), s3, s4, .fz (.int g), s6, s7, s8, .fz (.int y), .fz (.int m), .fz (.int d), .fz (.int (lenI y m)), .fz (.int far)], ⟨_, rfl⟩, ?_, ?_⟩
  · rintro i x ρ hi ⟨s6, rfl⟩
    have hx : ∃ u w, x = .tuple [.int u, .int w] ∧ ¬ valid y u w ∧ -(10 ^ 12) < u ∧ u < 10 ^ 12 ∧ -(10 ^ 12) < w ∧ w < 10 ^ 12 := by
      have l2 : lenI y 2 ≤ 29 := by unfold lenI; rw [if_pos rfl]; split <;> omega
      have l4 : lenI y 4 = 30 := rfl
      have l6 : lenI y 6 = 30 := rfl
      have l9 : lenI y 9 = 30 := rfl
      have l11 : lenI y 11 = 30 := rfl
      match i, hi with
      | 0, hi => cases hi; exact ⟨_, _, rfl, nv0 (by omega), by omega, by omega, by omega, by omega⟩
      | 1, hi => cases hi; exact ⟨_, _, rfl, nv0 (by omega), by omega, by omega, by omega, by omega⟩
      | 2, hi => cases hi; exact ⟨_, _, rfl, nv0 (by omega), by omega, by omega, by omega, by omega⟩
      | 3, hi => cases hi; exact ⟨_, _, rfl, nv0 (by omega), by omega, by omega, by omega, by omega⟩
      | 4, hi => cases hi; exact ⟨_, _, rfl, nv0 (by omega), by omega, by omega, by omega, by omega⟩
      | 5, hi => cases hi; exact ⟨_, _, rfl, nv0 (by omega), by omega, by omega, by omega, by omega⟩
    obtain ⟨u, w, rfl, nv, w1, w2⟩ := hx
    (with_reducible conv => whnf)
    exact rb3 _ nv (by omega) ⟨_, rfl⟩
  rintro ρ ⟨s6, rfl⟩
  ((with_reducible conv => whnf); repeat (first | ((with_reducible refine xT ?_ ?_); (· exact rfl); (with_reducible conv => whnf)) | ((with_reducible refine xF ?_ ?_); (· exact rfl); (with_reducible conv => whnf)) | ((with_reducible apply xE); (· exact rfl); (with_reducible conv => whnf)) | ((with_reducible refine And.intro ?_ ?_); (· (first | exact rfl | exact sh_int _ | exact sh_bool _ | ((try dsimp only [Int.reduceToNat]); first | omega | (refine mulw ?_ ?_ ?_ ?_ <;> omega) | (refine divw ?_ ?_ <;> omega) | (refine poww ?_ ?_ ?_ ?_ <;> omega) | (refine divp ?_ ?_ ?_ <;> omega) | (have := szl; simp only [List.length_append, List.length_cons, List.length_nil, List.length_map, List.length_range]; omega) | decide))); (with_reducible conv => whnf))))
  refine ⟨⟨_, _, _, rfl, by omega⟩, fun r as' hp => ?_, fun C as' hx => False.elim hx⟩
  obtain ⟨rfl, rfl⟩ := hp _ _ _ rfl; clear hp; (try (generalize hρ : DL.backA _ _ _ = ρ'; dsimp only [DL.setS, DL.getS, DL.backA, DL.toPw, DL.RR.vr, DL.RR.sl, DL.nils, DL.wrL, List.set, Int.reduceToNat] at hρ; subst hρ)); ((with_reducible conv => whnf); repeat (first | ((with_reducible refine xT ?_ ?_); (· exact rfl); (with_reducible conv => whnf)) | ((with_reducible refine xF ?_ ?_); (· exact rfl); (with_reducible conv => whnf)) | ((with_reducible apply xE); (· exact rfl); (with_reducible conv => whnf)) | ((with_reducible refine And.intro ?_ ?_); (· (first | exact rfl | exact sh_int _ | exact sh_bool _ | ((try dsimp only [Int.reduceToNat]); first | omega | (refine mulw ?_ ?_ ?_ ?_ <;> omega) | (refine divw ?_ ?_ <;> omega) | (refine poww ?_ ?_ ?_ ?_ <;> omega) | (refine divp ?_ ?_ ?_ <;> omega) | (have := szl; simp only [List.length_append, List.length_cons, List.length_nil, List.length_map, List.length_range]; omega) | decide))); (with_reducible conv => whnf))))
  refine ⟨⟨_, _, rfl⟩, fun r as' hp => ?_, fun C as' hx => False.elim hx⟩
  obtain ⟨rfl, rfl⟩ := hp _ _ rfl; clear hp; (try (generalize hρ : DL.backA _ _ _ = ρ'; dsimp only [DL.setS, DL.getS, DL.backA, DL.toPw, DL.RR.vr, DL.RR.sl, DL.nils, DL.wrL, List.set, Int.reduceToNat] at hρ; subst hρ)); ((with_reducible conv => whnf); repeat (first | ((with_reducible refine xT ?_ ?_); (· exact rfl); (with_reducible conv => whnf)) | ((with_reducible refine xF ?_ ?_); (· exact rfl); (with_reducible conv => whnf)) | ((with_reducible apply xE); (· exact rfl); (with_reducible conv => whnf)) | ((with_reducible refine And.intro ?_ ?_); (· (first | exact rfl | exact sh_int _ | exact sh_bool _ | ((try dsimp only [Int.reduceToNat]); first | omega | (refine mulw ?_ ?_ ?_ ?_ <;> omega) | (refine divw ?_ ?_ <;> omega) | (refine poww ?_ ?_ ?_ ?_ <;> omega) | (refine divp ?_ ?_ ?_ <;> omega) | (have := szl; simp only [List.length_append, List.length_cons, List.length_nil, List.length_map, List.length_range]; omega) | decide))); (with_reducible conv => whnf))))
  refine xF ?_ ?_
  · rw [eqv_int]
    by_cases hl : leapI y = true
    · have e1 : valid y 2 29 := ⟨by omega, by omega, by omega, by unfold lenI; rw [if_pos rfl, if_pos hl]; omega⟩
      have e2 : ¬ lenI y 2 = 28 := by unfold lenI; rw [if_pos rfl, if_pos hl]; omega
      rw [decide_eq_true e1, decide_eq_false e2]; rfl
    · have e2 : lenI y 2 = 28 := by unfold lenI; rw [if_pos rfl, if_neg hl]
      have e1 : ¬ valid y 2 29 := nv0 (by omega)
      rw [decide_eq_false e1, decide_eq_true e2]; rfl
  ((with_reducible conv => whnf); repeat (first | ((with_reducible refine xT ?_ ?_); (· exact rfl); (with_reducible conv => whnf)) | ((with_reducible refine xF ?_ ?_); (· exact rfl); (with_reducible conv => whnf)) | ((with_reducible apply xE); (· exact rfl); (with_reducible conv => whnf)) | ((with_reducible refine And.intro ?_ ?_); (· (first | exact rfl | exact sh_int _ | exact sh_bool _ | ((try dsimp only [Int.reduceToNat]); first | omega | (refine mulw ?_ ?_ ?_ ?_ <;> omega) | (refine divw ?_ ?_ <;> omega) | (refine poww ?_ ?_ ?_ ?_ <;> omega) | (refine divp ?_ ?_ ?_ <;> omega) | (have := szl; simp only [List.length_append, List.length_cons, List.length_nil, List.length_map, List.length_range]; omega) | decide))); (with_reducible conv => whnf))))
  (try unfold DL.sFor); (try unfold DL.sWhile); (try unfold DL.eLc)
  ((with_reducible conv => whnf); repeat (first | ((with_reducible refine xT ?_ ?_); (· exact rfl); (with_reducible conv => whnf)) | ((with_reducible refine xF ?_ ?_); (· exact rfl); (with_reducible conv => whnf)) | ((with_reducible apply xE); (· exact rfl); (with_reducible conv => whnf)) | ((with_reducible refine And.intro ?_ ?_); (· (first | exact rfl | exact sh_int _ | exact sh_bool _ | ((try dsimp only [Int.reduceToNat]); first | omega | (refine mulw ?_ ?_ ?_ ?_ <;> omega) | (refine divw ?_ ?_ <;> omega) | (refine poww ?_ ?_ ?_ ?_ <;> omega) | (refine divp ?_ ?_ ?_ <;> omega) | (have := szl; simp only [List.length_append, List.length_cons, List.length_nil, List.length_map, List.length_range]; omega) | decide))); (with_reducible conv => whnf))))
  refine ⟨fun i ρ => ∃ s6, ρ = [s0, s1, .ow (.l [.int a2, .int b, .int c2]), s3, s4, .fz (.int g), s6, s7, s8, .fz (.int y), .fz (.int m), .fz (.int d), .fz (.int (lenI y m)), .fz (.int far)], ⟨_, rfl⟩, ?_, ?_⟩
  · rintro i x ρ hi ⟨s6, rfl⟩
    have hx : ∃ w, x = .int w ∧ ¬ valid y w 1 ∧ -(10 ^ 12) < w ∧ w < 10 ^ 12 := by
      match i, hi with
      | 0, hi => cases hi; exact ⟨_, rfl, nv0 (by omega), by omega, by omega⟩
      | 1, hi => cases hi; exact ⟨_, rfl, nv0 (by omega), by omega, by omega⟩
      | 2, hi => cases hi; exact ⟨_, rfl, nv0 (by omega), by omega, by omega⟩
      | 3, hi => cases hi; exact ⟨_, rfl, nv0 (by omega), by omega, by omega⟩
      | 4, hi => cases hi; exact ⟨_, rfl, nv0 (by omega), by omega, by omega⟩
    obtain ⟨w, rfl, nv, w1, w2⟩ := hx
    (with_reducible conv => whnf)
    exact rb2 _ nv (by omega) ⟨_, rfl⟩
  rintro ρ ⟨s6, rfl⟩
  exact k _ _ _ _ _ _ _ _ _ _ _ _ (by omega) (by omega)
theorem rb7 {ns : List Int} {at' : Int} (D : DEnds) (h : 0 ≤ at' ∧ at' < 100) (k : ∀ s2 s3 s4 s5 s6 s7 s8 s9 s10 s11 s12 s13, D.nx [.sc ns, .fz (.int at'), s2, s3, s4, s5, s6, s7, s8, s9, s10, s11, s12, s13]) :
    t_law_b7 cl D [.sc ns, .fz (.int at'), s2, s3, s4, s5, s6, s7, s8, s9, s10, s11, s12, s13] := by
  unfold t_law_b7
  ((with_reducible conv => whnf); repeat (first | ((with_reducible refine xT ?_ ?_); (· exact rfl); (with_reducible conv => whnf)) | ((with_reducible refine xF ?_ ?_); (· exact rfl); (with_reducible conv => whnf)) | ((with_reducible apply xE); (· exact rfl); (with_reducible conv => whnf)) | ((with_reducible refine And.intro ?_ ?_); (· (first | exact rfl | exact sh_int _ | exact sh_bool _ | ((try dsimp only [Int.reduceToNat]); first | omega | (refine mulw ?_ ?_ ?_ ?_ <;> omega) | (refine divw ?_ ?_ <;> omega) | (refine poww ?_ ?_ ?_ ?_ <;> omega) | (refine divp ?_ ?_ ?_ <;> omega) | (have := szl; simp only [List.length_append, List.length_cons, List.length_nil, List.length_map, List.length_range]; omega) | decide))); (with_reducible conv => whnf))))
  refine ⟨⟨_, _, rfl, by omega, by omega⟩, fun r as' hp => ?_, fun C as' hx => False.elim hx⟩
  obtain ⟨a, b, rfl, rfl, hb0, hb1⟩ := hp _ _ rfl; clear hp; (try (generalize hρ : DL.backA _ _ _ = ρ'; dsimp only [DL.setS, DL.getS, DL.backA, DL.toPw, DL.RR.vr, DL.RR.sl, DL.nils, DL.wrL, List.set, Int.reduceToNat] at hρ; subst hρ)); ((with_reducible conv => whnf); repeat (first | ((with_reducible refine xT ?_ ?_); (· exact rfl); (with_reducible conv => whnf)) | ((with_reducible refine xF ?_ ?_); (· exact rfl); (with_reducible conv => whnf)) | ((with_reducible apply xE); (· exact rfl); (with_reducible conv => whnf)) | ((with_reducible refine And.intro ?_ ?_); (· (first | exact rfl | exact sh_int _ | exact sh_bool _ | ((try dsimp only [Int.reduceToNat]); first | omega | (refine mulw ?_ ?_ ?_ ?_ <;> omega) | (refine divw ?_ ?_ <;> omega) | (refine poww ?_ ?_ ?_ ?_ <;> omega) | (refine divp ?_ ?_ ?_ <;> omega) | (have := szl; simp only [List.length_append, List.length_cons, List.length_nil, List.length_map, List.length_range]; omega) | decide))); (with_reducible conv => whnf))))
  (try unfold DL.sFor); (try unfold DL.sWhile); (try unfold DL.eLc)
  ((with_reducible conv => whnf); repeat (first | ((with_reducible refine xT ?_ ?_); (· exact rfl); (with_reducible conv => whnf)) | ((with_reducible refine xF ?_ ?_); (· exact rfl); (with_reducible conv => whnf)) | ((with_reducible apply xE); (· exact rfl); (with_reducible conv => whnf)) | ((with_reducible refine And.intro ?_ ?_); (· (first | exact rfl | exact sh_int _ | exact sh_bool _ | ((try dsimp only [Int.reduceToNat]); first | omega | (refine mulw ?_ ?_ ?_ ?_ <;> omega) | (refine divw ?_ ?_ <;> omega) | (refine poww ?_ ?_ ?_ ?_ <;> omega) | (refine divp ?_ ?_ ?_ <;> omega) | (have := szl; simp only [List.length_append, List.length_cons, List.length_nil, List.length_map, List.length_range]; omega) | decide))); (with_reducible conv => whnf))))
  refine ⟨fun i ρ => ∃ a c s3 s4 s5 s6 s7 s8 s9 s10 s11 s12 s13, ρ = [.sc ns, .fz (.int at'), .ow (.l [.int a, .int b, .int c]), s3, s4, s5, s6, s7, s8, s9, s10, s11, s12, s13] ∧ 0 ≤ c ∧ c ≤ 20 * (i : Int), ⟨_, _, _, _, _, _, _, _, _, _, _, _, _, rfl, by omega, by omega⟩, ?_, ?_⟩
  · rintro i x ρ hi ⟨a, c, s3, s4, s5, s6, s7, s8, s9, s10, s11, s12, s13, rfl, hc0, hc1⟩
    have hlt := (List.getElem?_eq_some_iff.mp hi).1
    rw [rgD_len] at hlt
    rw [rgD_get hlt] at hi
    cases hi
    (with_reducible conv => whnf)
    have hlt : i < 3 := hlt
    exact rb6 _ (by omega) fun a' c' s4 s5 s6 s7 s8 s9 s10 s11 s12 s13 e1 e2 => ⟨_, _, _, _, _, _, _, _, _, _, _, _, _, rfl, by omega, by omega⟩
  rintro ρ ⟨a, c, s3, s4, s5, s6, s7, s8, s9, s10, s11, s12, s13, rfl, hc0, hc1⟩
  have hc1 : c ≤ 20 * 3 := hc1
  ((with_reducible conv => whnf); repeat (first | ((with_reducible refine xT ?_ ?_); (· exact rfl); (with_reducible conv => whnf)) | ((with_reducible refine xF ?_ ?_); (· exact rfl); (with_reducible conv => whnf)) | ((with_reducible apply xE); (· exact rfl); (with_reducible conv => whnf)) | ((with_reducible refine And.intro ?_ ?_); (· (first | exact rfl | exact sh_int _ | exact sh_bool _ | ((try dsimp only [Int.reduceToNat]); first | omega | (refine mulw ?_ ?_ ?_ ?_ <;> omega) | (refine divw ?_ ?_ <;> omega) | (refine poww ?_ ?_ ?_ ?_ <;> omega) | (refine divp ?_ ?_ ?_ <;> omega) | (have := szl; simp only [List.length_append, List.length_cons, List.length_nil, List.length_map, List.length_range]; omega) | decide))); (with_reducible conv => whnf))))
  refine ⟨⟨_, rfl, by omega⟩, fun r as' hp => ?_, fun C as' hx => False.elim hx⟩
  obtain ⟨rfl, rfl⟩ := hp _ rfl; clear hp; (try (generalize hρ : DL.backA _ _ _ = ρ'; dsimp only [DL.setS, DL.getS, DL.backA, DL.toPw, DL.RR.vr, DL.RR.sl, DL.nils, DL.wrL, List.set, Int.reduceToNat] at hρ; subst hρ)); ((with_reducible conv => whnf); repeat (first | ((with_reducible refine xT ?_ ?_); (· exact rfl); (with_reducible conv => whnf)) | ((with_reducible refine xF ?_ ?_); (· exact rfl); (with_reducible conv => whnf)) | ((with_reducible apply xE); (· exact rfl); (with_reducible conv => whnf)) | ((with_reducible refine And.intro ?_ ?_); (· (first | exact rfl | exact sh_int _ | exact sh_bool _ | ((try dsimp only [Int.reduceToNat]); first | omega | (refine mulw ?_ ?_ ?_ ?_ <;> omega) | (refine divw ?_ ?_ <;> omega) | (refine poww ?_ ?_ ?_ ?_ <;> omega) | (refine divp ?_ ?_ ?_ <;> omega) | (have := szl; simp only [List.length_append, List.length_cons, List.length_nil, List.length_map, List.length_range]; omega) | decide))); (with_reducible conv => whnf))))
  refine ⟨⟨_, rfl, by omega⟩, fun r as' hp => ?_, fun C as' hx => False.elim hx⟩
  have hp := hp _ rfl
  rw [date0] at hp
  obtain ⟨rfl, rfl⟩ := hp
  clear hp; (try (generalize hρ : DL.backA _ _ _ = ρ'; dsimp only [DL.setS, DL.getS, DL.backA, DL.toPw, DL.RR.vr, DL.RR.sl, DL.nils, DL.wrL, List.set, Int.reduceToNat] at hρ; subst hρ)); ((with_reducible conv => whnf); repeat (first | ((with_reducible refine xT ?_ ?_); (· exact rfl); (with_reducible conv => whnf)) | ((with_reducible refine xF ?_ ?_); (· exact rfl); (with_reducible conv => whnf)) | ((with_reducible apply xE); (· exact rfl); (with_reducible conv => whnf)) | ((with_reducible refine And.intro ?_ ?_); (· (first | exact rfl | exact sh_int _ | exact sh_bool _ | ((try dsimp only [Int.reduceToNat]); first | omega | (refine mulw ?_ ?_ ?_ ?_ <;> omega) | (refine divw ?_ ?_ <;> omega) | (refine poww ?_ ?_ ?_ ?_ <;> omega) | (refine divp ?_ ?_ ?_ <;> omega) | (have := szl; simp only [List.length_append, List.length_cons, List.length_nil, List.length_map, List.length_range]; omega) | decide))); (with_reducible conv => whnf))))
  refine ⟨⟨_, rfl, good_t _ _ _⟩, fun r as' hp => ?_, fun C as' hx => False.elim hx⟩
  obtain ⟨rfl, rfl⟩ := hp _ rfl; clear hp; (try (generalize hρ : DL.backA _ _ _ = ρ'; dsimp only [DL.setS, DL.getS, DL.backA, DL.toPw, DL.RR.vr, DL.RR.sl, DL.nils, DL.wrL, List.set, Int.reduceToNat] at hρ; subst hρ)); ((with_reducible conv => whnf); repeat (first | ((with_reducible refine xT ?_ ?_); (· exact rfl); (with_reducible conv => whnf)) | ((with_reducible refine xF ?_ ?_); (· exact rfl); (with_reducible conv => whnf)) | ((with_reducible apply xE); (· exact rfl); (with_reducible conv => whnf)) | ((with_reducible refine And.intro ?_ ?_); (· (first | exact rfl | exact sh_int _ | exact sh_bool _ | ((try dsimp only [Int.reduceToNat]); first | omega | (refine mulw ?_ ?_ ?_ ?_ <;> omega) | (refine divw ?_ ?_ <;> omega) | (refine poww ?_ ?_ ?_ ?_ <;> omega) | (refine divp ?_ ?_ ?_ <;> omega) | (have := szl; simp only [List.length_append, List.length_cons, List.length_nil, List.length_map, List.length_range]; omega) | decide))); (with_reducible conv => whnf))))
  (try unfold DL.sFor); (try unfold DL.sWhile); (try unfold DL.eLc)
  ((with_reducible conv => whnf); repeat (first | ((with_reducible refine xT ?_ ?_); (· exact rfl); (with_reducible conv => whnf)) | ((with_reducible refine xF ?_ ?_); (· exact rfl); (with_reducible conv => whnf)) | ((with_reducible apply xE); (· exact rfl); (with_reducible conv => whnf)) | ((with_reducible refine And.intro ?_ ?_); (· (first | exact rfl | exact sh_int _ | exact sh_bool _ | ((try dsimp only [Int.reduceToNat]); first | omega | (refine mulw ?_ ?_ ?_ ?_ <;> omega) | (refine divw ?_ ?_ <;> omega) | (refine poww ?_ ?_ ?_ ?_ <;> omega) | (refine divp ?_ ?_ ?_ <;> omega) | (have := szl; simp only [List.length_append, List.length_cons, List.length_nil, List.length_map, List.length_range]; omega) | decide))); (with_reducible conv => whnf))))
  refine ⟨⟨_, _, _, _, rfl, by dsimp only [Int.reduceToNat]; omega⟩, fun r as' hp => ?_, fun C as' hx => False.elim hx⟩
  obtain ⟨a2, c2, far, rfl, rfl, k2⟩ := hp _ _ _ _ rfl
  have k2 : 0 ≤ far ∧ far < 10 ^ 6 ∧ c ≤ c2 ∧ c2 ≤ c + 1 := k2
  clear hp; (try (generalize hρ : DL.backA _ _ _ = ρ'; dsimp only [DL.setS, DL.getS, DL.backA, DL.toPw, DL.RR.vr, DL.RR.sl, DL.nils, DL.wrL, List.set, Int.reduceToNat] at hρ; subst hρ)); ((with_reducible conv => whnf); repeat (first | ((with_reducible refine xT ?_ ?_); (· exact rfl); (with_reducible conv => whnf)) | ((with_reducible refine xF ?_ ?_); (· exact rfl); (with_reducible conv => whnf)) | ((with_reducible apply xE); (· exact rfl); (with_reducible conv => whnf)) | ((with_reducible refine And.intro ?_ ?_); (· (first | exact rfl | exact sh_int _ | exact sh_bool _ | ((try dsimp only [Int.reduceToNat]); first | omega | (refine mulw ?_ ?_ ?_ ?_ <;> omega) | (refine divw ?_ ?_ <;> omega) | (refine poww ?_ ?_ ?_ ?_ <;> omega) | (refine divp ?_ ?_ ?_ <;> omega) | (have := szl; simp only [List.length_append, List.length_cons, List.length_nil, List.length_map, List.length_range]; omega) | decide))); (with_reducible conv => whnf))))
  refine ⟨fun i ρ => ∃ s4 s7, ρ = [.sc ns, .fz (.int at'), .ow (.l [.int a2, .int b, .int c2]), s3, s4, s5, s6, s7, s8, s9, s10, s11, s12, s13], ⟨_, _, rfl⟩, ?_, ?_⟩
  · rintro i x ρ hi ⟨s4, s7, rfl⟩
    have hx : ∃ w, x = .int w ∧ -(10 ^ 9) < w ∧ w < 10 ^ 9 := by
      match i, hi with
      | 0, hi => cases hi; exact ⟨_, rfl, by omega, by omega⟩
      | 1, hi => cases hi; exact ⟨_, rfl, by omega, by omega⟩
      | 2, hi => cases hi; exact ⟨_, rfl, by dsimp only [Int.reduceToNat]; omega, by dsimp only [Int.reduceToNat]; omega⟩
    obtain ⟨w, rfl, w1, w2⟩ := hx
    (with_reducible conv => whnf)
    exact rb1 _ (by omega) (by omega) fun s7 => ⟨_, _, rfl⟩
  rintro ρ ⟨s4, s7, rfl⟩
  exact k _ _ _ _ _ _ _ _ _ _ _ _
theorem rd_law (cl : Nat → Addr) (as ad) (hp : (sp_law cl).pre as) : t_law cl (endsOf (sp_law cl) as ad) (startS as ad 0 ++ List.replicate 13 .nil) := by
  obtain ⟨ns, rfl, hns⟩ := hp
  show t_law cl (endsOf _ _ _) [.sc ns, .nil, .nil, .nil, .nil, .nil, .nil, .nil, .nil, .nil, .nil, .nil, .nil, .nil]
  unfold t_law
  ((with_reducible conv => whnf); repeat (first | ((with_reducible refine xT ?_ ?_); (· exact rfl); (with_reducible conv => whnf)) | ((with_reducible refine xF ?_ ?_); (· exact rfl); (with_reducible conv => whnf)) | ((with_reducible apply xE); (· exact rfl); (with_reducible conv => whnf)) | ((with_reducible refine And.intro ?_ ?_); (· (first | exact rfl | exact sh_int _ | exact sh_bool _ | ((try dsimp only [Int.reduceToNat]); first | omega | (refine mulw ?_ ?_ ?_ ?_ <;> omega) | (refine divw ?_ ?_ <;> omega) | (refine poww ?_ ?_ ?_ ?_ <;> omega) | (refine divp ?_ ?_ ?_ <;> omega) | (have := szl; simp only [List.length_append, List.length_cons, List.length_nil, List.length_map, List.length_range]; omega) | decide))); (with_reducible conv => whnf))))
  (try unfold DL.sFor); (try unfold DL.sWhile); (try unfold DL.eLc)
  ((with_reducible conv => whnf); repeat (first | ((with_reducible refine xT ?_ ?_); (· exact rfl); (with_reducible conv => whnf)) | ((with_reducible refine xF ?_ ?_); (· exact rfl); (with_reducible conv => whnf)) | ((with_reducible apply xE); (· exact rfl); (with_reducible conv => whnf)) | ((with_reducible refine And.intro ?_ ?_); (· (first | exact rfl | exact sh_int _ | exact sh_bool _ | ((try dsimp only [Int.reduceToNat]); first | omega | (refine mulw ?_ ?_ ?_ ?_ <;> omega) | (refine divw ?_ ?_ <;> omega) | (refine poww ?_ ?_ ?_ ?_ <;> omega) | (refine divp ?_ ?_ ?_ <;> omega) | (have := szl; simp only [List.length_append, List.length_cons, List.length_nil, List.length_map, List.length_range]; omega) | decide))); (with_reducible conv => whnf))))
  refine ⟨fun i ρ => ∃ s1 s2 s3 s4 s5 s6 s7 s8 s9 s10 s11 s12 s13, ρ = [.sc ns, s1, s2, s3, s4, s5, s6, s7, s8, s9, s10, s11, s12, s13], ⟨_, _, _, _, _, _, _, _, _, _, _, _, _, rfl⟩, ?_, ?_⟩
  · rintro i x ρ hi ⟨s1, s2, s3, s4, s5, s6, s7, s8, s9, s10, s11, s12, s13, rfl⟩
    have hlt := (List.getElem?_eq_some_iff.mp hi).1
    rw [rgD_len] at hlt
    rw [rgD_get hlt] at hi
    cases hi
    (with_reducible conv => whnf)
    exact rb7 _ (by omega) fun s2 s3 s4 s5 s6 s7 s8 s9 s10 s11 s12 s13 => ⟨_, _, _, _, _, _, _, _, _, _, _, _, _, rfl⟩
  · rintro ρ ⟨s1, s2, s3, s4, s5, s6, s7, s8, s9, s10, s11, s12, s13, rfl⟩
    ((with_reducible conv => whnf); repeat (first | ((with_reducible refine xT ?_ ?_); (· exact rfl); (with_reducible conv => whnf)) | ((with_reducible refine xF ?_ ?_); (· exact rfl); (with_reducible conv => whnf)) | ((with_reducible apply xE); (· exact rfl); (with_reducible conv => whnf)) | ((with_reducible refine And.intro ?_ ?_); (· (first | exact rfl | exact sh_int _ | exact sh_bool _ | ((try dsimp only [Int.reduceToNat]); first | omega | (refine mulw ?_ ?_ ?_ ?_ <;> omega) | (refine divw ?_ ?_ <;> omega) | (refine poww ?_ ?_ ?_ ?_ <;> omega) | (refine divp ?_ ?_ ?_ <;> omega) | (have := szl; simp only [List.length_append, List.length_cons, List.length_nil, List.length_map, List.length_range]; omega) | decide))); (with_reducible conv => whnf))))
    intro ns e
    rfl
end T18
set_option Elab.async false
set_option linter.all false
set_option maxRecDepth 100000
set_option maxHeartbeats 4000000
namespace T18
open PySem PySem.Spec PyProof.Rows L2 DL
/-- the defs of the text -/
structure Hs (K : PySem.W.Frag) (mg : Str → Option Value) : Prop where
  h_is_integer : Has K mg "is_integer" s_is_integer
  h_check_day : Has K mg "check_day" s_check_day
  h_date_of : Has K mg "date_of" s_date_of
  h_number_of_date : Has K mg "number_of_date" s_number_of_date
  h_month_length : Has K mg "month_length" s_month_length
  h_date : Has K mg "date" s_date
  h_day_of : Has K mg "day_of" s_day_of
  h_weekday_of : Has K mg "weekday_of" s_weekday_of
  h_weekday : Has K mg "weekday" s_weekday
  h__law_purse : Has K mg "_law_purse" s__law_purse
  h__law_take : Has K mg "_law_take" s__law_take
  h__law_pick : Has K mg "_law_pick" s__law_pick
  h__law_match : Has K mg "_law_match" s__law_match
  h__law_long : Has K mg "_law_long" s__law_long
  h__law_counted : Has K mg "_law_counted" s__law_counted
  h__law_drawn_day : Has K mg "_law_drawn_day" s__law_drawn_day
  h__law_is_no_day : Has K mg "_law_is_no_day" s__law_is_no_day
  h_law : Has K mg "law" s_law
theorem ok_is_integer {w : World} {K : PySem.W.Frag} {mg : Str → Option Value} {base : Heap} {cl : Nat → Addr} (T : Tx K mg cl) (Hh : Hs K mg) : FnC PW w K mg base 1 "is_integer" P_is_integer s_is_integer (sp_is_integer cl) :=
  defC Hh.h_is_integer sc_is_integer (sp_is_integer cl) fun cdv f A outer s H E hr => ⟨_, dv_is_integer T hr, fun as ad hp hl => rd_is_integer cl as ad hp⟩
theorem ok_check_day {w : World} {K : PySem.W.Frag} {mg : Str → Option Value} {base : Heap} {cl : Nat → Addr} (T : Tx K mg cl) (Hh : Hs K mg) : FnC PW w K mg base 2 "check_day" P_check_day s_check_day (sp_check_day cl) :=
  defC Hh.h_check_day sc_check_day (sp_check_day cl) fun cdv f A outer s H E hr => ⟨_, dv_check_day T hr ((ok_is_integer T Hh).mono (by decide)), fun as ad hp hl => rd_check_day cl as ad hp⟩
theorem ok_date_of {w : World} {K : PySem.W.Frag} {mg : Str → Option Value} {base : Heap} {cl : Nat → Addr} (T : Tx K mg cl) (Hh : Hs K mg) : FnC PW w K mg base 1 "date_of" P_date_of s_date_of (sp_date_of cl) :=
  defC Hh.h_date_of sc_date_of (sp_date_of cl) fun cdv f A outer s H E hr => ⟨_, dv_date_of T hr, fun as ad hp hl => rd_date_of cl as ad hp⟩
theorem ok_number_of_date {w : World} {K : PySem.W.Frag} {mg : Str → Option Value} {base : Heap} {cl : Nat → Addr} (T : Tx K mg cl) (Hh : Hs K mg) : FnC PW w K mg base 1 "number_of_date" P_number_of_date s_number_of_date (sp_number_of_date cl) :=
  defC Hh.h_number_of_date sc_number_of_date (sp_number_of_date cl) fun cdv f A outer s H E hr => ⟨_, dv_number_of_date T hr, fun as ad hp hl => rd_number_of_date cl as ad hp⟩
theorem ok_month_length {w : World} {K : PySem.W.Frag} {mg : Str → Option Value} {base : Heap} {cl : Nat → Addr} (T : Tx K mg cl) (Hh : Hs K mg) : FnC PW w K mg base 1 "month_length" P_month_length s_month_length (sp_month_length cl) :=
  defC Hh.h_month_length sc_month_length (sp_month_length cl) fun cdv f A outer s H E hr => ⟨_, dv_month_length T hr, fun as ad hp hl => rd_month_length cl as ad hp⟩
theorem ok_date {w : World} {K : PySem.W.Frag} {mg : Str → Option Value} {base : Heap} {cl : Nat → Addr} (T : Tx K mg cl) (Hh : Hs K mg) : FnC PW w K mg base 3 "date" P_date s_date (sp_date cl) :=
  defC Hh.h_date sc_date (sp_date cl) fun cdv f A outer s H E hr => ⟨_, dv_date T hr ((ok_date_of T Hh).mono (by decide)) ((ok_check_day T Hh).mono (by decide)), fun as ad hp hl => rd_date cl as ad hp⟩
theorem ok_day_of {w : World} {K : PySem.W.Frag} {mg : Str → Option Value} {base : Heap} {cl : Nat → Addr} (T : Tx K mg cl) (Hh : Hs K mg) : FnC PW w K mg base 3 "day_of" P_day_of s_day_of (sp_day_of cl) :=
  defC Hh.h_day_of sc_day_of (sp_day_of cl) fun cdv f A outer s H E hr => ⟨_, dv_day_of T hr ((ok_number_of_date T Hh).mono (by decide)) ((ok_month_length T Hh).mono (by decide)) ((ok_check_day T Hh).mono (by decide)), fun as ad hp hl => rd_day_of cl as ad hp⟩
theorem ok_weekday_of {w : World} {K : PySem.W.Frag} {mg : Str → Option Value} {base : Heap} {cl : Nat → Addr} (T : Tx K mg cl) (Hh : Hs K mg) : FnC PW w K mg base 1 "weekday_of" P_weekday_of s_weekday_of (sp_weekday_of cl) :=
  defC Hh.h_weekday_of sc_weekday_of (sp_weekday_of cl) fun cdv f A outer s H E hr => ⟨_, dv_weekday_of T hr, fun as ad hp hl => rd_weekday_of cl as ad hp⟩
theorem ok_weekday {w : World} {K : PySem.W.Frag} {mg : Str → Option Value} {base : Heap} {cl : Nat → Addr} (T : Tx K mg cl) (Hh : Hs K mg) : FnC PW w K mg base 3 "weekday" P_weekday s_weekday (sp_weekday cl) :=
  defC Hh.h_weekday sc_weekday (sp_weekday cl) fun cdv f A outer s H E hr => ⟨_, dv_weekday T hr ((ok_weekday_of T Hh).mono (by decide)) ((ok_check_day T Hh).mono (by decide)), fun as ad hp hl => rd_weekday cl as ad hp⟩
theorem ok__law_purse {w : World} {K : PySem.W.Frag} {mg : Str → Option Value} {base : Heap} {cl : Nat → Addr} (T : Tx K mg cl) (Hh : Hs K mg) : FnC PW w K mg base 1 "_law_purse" P__law_purse s__law_purse (sp__law_purse cl) :=
  defC Hh.h__law_purse sc__law_purse (sp__law_purse cl) fun cdv f A outer s H E hr => ⟨_, dv__law_purse T hr, fun as ad hp hl => rd__law_purse cl as ad hp⟩
theorem ok__law_take {w : World} {K : PySem.W.Frag} {mg : Str → Option Value} {base : Heap} {cl : Nat → Addr} (T : Tx K mg cl) (Hh : Hs K mg) : FnC PW w K mg base 1 "_law_take" P__law_take s__law_take (sp__law_take cl) :=
  defC Hh.h__law_take sc__law_take (sp__law_take cl) fun cdv f A outer s H E hr => ⟨_, dv__law_take T hr, fun as ad hp hl => rd__law_take cl as ad hp⟩
theorem ok__law_pick {w : World} {K : PySem.W.Frag} {mg : Str → Option Value} {base : Heap} {cl : Nat → Addr} (T : Tx K mg cl) (Hh : Hs K mg) : FnC PW w K mg base 2 "_law_pick" P__law_pick s__law_pick (sp__law_pick cl) :=
  defC Hh.h__law_pick sc__law_pick (sp__law_pick cl) fun cdv f A outer s H E hr => ⟨_, dv__law_pick T hr ((ok__law_take T Hh).mono (by decide)), fun as ad hp hl => rd__law_pick cl as ad hp⟩
theorem okn__law_match {w : World} {K : PySem.W.Frag} {mg : Str → Option Value} {base : Heap} {cl : Nat → Addr} (T : Tx K mg cl) (Hh : Hs K mg) : ∀ n : Nat, FnC PW w K mg base (n + 1) "_law_match" P__law_match s__law_match (spM n)
  | 0 => defC Hh.h__law_match sc__law_match (spM 0) fun cdv f A outer s H E hr => ⟨_, pbd_false, fun as ad hp hl => hp.choose_spec.2.elim⟩
  | n + 1 => defC Hh.h__law_match sc__law_match (spM (n + 1)) fun cdv f A outer s H E hr => ⟨_, dv__law_match T hr (okn__law_match T Hh n), fun as ad hp hl => rd__law_match n cl as ad hp⟩
theorem ok__law_match {w : World} {K : PySem.W.Frag} {mg : Str → Option Value} {base : Heap} {cl : Nat → Addr} (T : Tx K mg cl) (Hh : Hs K mg) : FnC PW w K mg base 4 "_law_match" P__law_match s__law_match (sp__law_match cl) := okn__law_match T Hh 3
theorem ok__law_long {w : World} {K : PySem.W.Frag} {mg : Str → Option Value} {base : Heap} {cl : Nat → Addr} (T : Tx K mg cl) (Hh : Hs K mg) : FnC PW w K mg base 1 "_law_long" P__law_long s__law_long (sp__law_long cl) :=
  defC Hh.h__law_long sc__law_long (sp__law_long cl) fun cdv f A outer s H E hr => ⟨_, dv__law_long T hr, fun as ad hp hl => rd__law_long cl as ad hp⟩
theorem ok__law_counted {w : World} {K : PySem.W.Frag} {mg : Str → Option Value} {base : Heap} {cl : Nat → Addr} (T : Tx K mg cl) (Hh : Hs K mg) : FnC PW w K mg base 2 "_law_counted" P__law_counted s__law_counted (sp__law_counted cl) :=
  defC Hh.h__law_counted sc__law_counted (sp__law_counted cl) fun cdv f A outer s H E hr => ⟨_, dv__law_counted T hr ((ok__law_long T Hh).mono (by decide)), fun as ad hp hl => rd__law_counted cl as ad hp⟩
theorem ok__law_drawn_day {w : World} {K : PySem.W.Frag} {mg : Str → Option Value} {base : Heap} {cl : Nat → Addr} (T : Tx K mg cl) (Hh : Hs K mg) : FnC PW w K mg base 3 "_law_drawn_day" P__law_drawn_day s__law_drawn_day (sp__law_drawn_day cl) :=
  defC Hh.h__law_drawn_day sc__law_drawn_day (sp__law_drawn_day cl) fun cdv f A outer s H E hr => ⟨_, dv__law_drawn_day T hr ((ok__law_pick T Hh).mono (by decide)) ((ok__law_take T Hh).mono (by decide)), fun as ad hp hl => rd__law_drawn_day cl as ad hp⟩
theorem ok__law_is_no_day {w : World} {K : PySem.W.Frag} {mg : Str → Option Value} {base : Heap} {cl : Nat → Addr} (T : Tx K mg cl) (Hh : Hs K mg) : FnC PW w K mg base 4 "_law_is_no_day" P__law_is_no_day s__law_is_no_day (sp__law_is_no_day cl) :=
  defC Hh.h__law_is_no_day sc__law_is_no_day (sp__law_is_no_day cl) fun cdv f A outer s H E hr => ⟨_, dv__law_is_no_day T hr ((ok_day_of T Hh).mono (by decide)), fun as ad hp hl => rd__law_is_no_day cl T.ne_1_0 as ad hp⟩
theorem ok_law {w : World} {K : PySem.W.Frag} {mg : Str → Option Value} {base : Heap} {cl : Nat → Addr} (T : Tx K mg cl) (Hh : Hs K mg) : FnC PW w K mg base 5 "law" P_law s_law (sp_law cl) :=
  defC Hh.h_law sc_law (sp_law cl) fun cdv f A outer s H E hr => ⟨_, dv_law T hr ((ok__law_take T Hh).mono (by decide)) ((ok_day_of T Hh).mono (by decide)) ((ok__law_match T Hh).mono (by decide)) ((ok_date T Hh).mono (by decide)) ((ok__law_counted T Hh).mono (by decide)) ((ok_weekday T Hh).mono (by decide)) ((ok__law_is_no_day T Hh).mono (by decide)) ((ok__law_long T Hh).mono (by decide)) ((ok__law_drawn_day T Hh).mono (by decide)) ((ok__law_purse T Hh).mono (by decide)), fun as ad hp hl => rd_law cl as ad hp⟩

theorem all_mk {w : World} {K : PySem.W.Frag} {h : Heap} {mg : Str → Option Value} (X : K.In h) (G : h.Ns mainGlobals mg) {C0 : Addr} {C1 : Addr}
    {tk_CYCLE : Tok} {tk_FIRST_MARCH : Tok} {tk_FIRST_MONDAY : Tok} {ad_MONTH_DAYS : Addr} {dc_MONTH_DAYS : Option Addr} {n_MONTH_DAYS : Nat} {sl_MONTH_DAYS : Array (Option Value)} {tk_MONTH_DAYS_0 : Tok} {tk_MONTH_DAYS_1 : Tok} {tk_MONTH_DAYS_2 : Tok} {tk_MONTH_DAYS_3 : Tok} {tk_MONTH_DAYS_4 : Tok} {tk_MONTH_DAYS_5 : Tok} {tk_MONTH_DAYS_6 : Tok} {tk_MONTH_DAYS_7 : Tok} {tk_MONTH_DAYS_8 : Tok} {tk_MONTH_DAYS_9 : Tok} {tk_MONTH_DAYS_10 : Tok} {tk_MONTH_DAYS_11 : Tok} {f_is_integer : Addr} {oc_is_integer : Value} {od_is_integer an_is_integer : Option Addr} {sl_is_integer : Array (Option Value)} {kV_is_integer dc_is_integer pm_is_integer cd_is_integer ct_is_integer : Value} {f_check_day : Addr} {oc_check_day : Value} {od_check_day an_check_day : Option Addr} {sl_check_day : Array (Option Value)} {kV_check_day dc_check_day pm_check_day cd_check_day ct_check_day : Value} {f_date_of : Addr} {oc_date_of : Value} {od_date_of an_date_of : Option Addr} {sl_date_of : Array (Option Value)} {kV_date_of dc_date_of pm_date_of cd_date_of ct_date_of : Value} {f_number_of_date : Addr} {oc_number_of_date : Value} {od_number_of_date an_number_of_date : Option Addr} {sl_number_of_date : Array (Option Value)} {kV_number_of_date dc_number_of_date pm_number_of_date cd_number_of_date ct_number_of_date : Value} {f_month_length : Addr} {oc_month_length : Value} {od_month_length an_month_length : Option Addr} {sl_month_length : Array (Option Value)} {kV_month_length dc_month_length pm_month_length cd_month_length ct_month_length : Value} {f_date : Addr} {oc_date : Value} {od_date an_date : Option Addr} {sl_date : Array (Option Value)} {kV_date dc_date pm_date cd_date ct_date : Value} {f_day_of : Addr} {oc_day_of : Value} {od_day_of an_day_of : Option Addr} {sl_day_of : Array (Option Value)} {kV_day_of dc_day_of pm_day_of cd_day_of ct_day_of : Value} {f_weekday_of : Addr} {oc_weekday_of : Value} {od_weekday_of an_weekday_of : Option Addr} {sl_weekday_of : Array (Option Value)} {kV_weekday_of dc_weekday_of pm_weekday_of cd_weekday_of ct_weekday_of : Value} {f_weekday : Addr} {oc_weekday : Value} {od_weekday an_weekday : Option Addr} {sl_weekday : Array (Option Value)} {kV_weekday dc_weekday pm_weekday cd_weekday ct_weekday : Value} {f__law_purse : Addr} {oc__law_purse : Value} {od__law_purse an__law_purse : Option Addr} {sl__law_purse : Array (Option Value)} {kV__law_purse dc__law_purse pm__law_purse cd__law_purse ct__law_purse : Value} {f__law_take : Addr} {oc__law_take : Value} {od__law_take an__law_take : Option Addr} {sl__law_take : Array (Option Value)} {kV__law_take dc__law_take pm__law_take cd__law_take ct__law_take : Value} {f__law_pick : Addr} {oc__law_pick : Value} {od__law_pick an__law_pick : Option Addr} {sl__law_pick : Array (Option Value)} {kV__law_pick dc__law_pick pm__law_pick cd__law_pick ct__law_pick : Value} {f__law_match : Addr} {oc__law_match : Value} {od__law_match an__law_match : Option Addr} {sl__law_match : Array (Option Value)} {kV__law_match dc__law_match pm__law_match cd__law_match ct__law_match : Value} {f__law_long : Addr} {oc__law_long : Value} {od__law_long an__law_long : Option Addr} {sl__law_long : Array (Option Value)} {kV__law_long dc__law_long pm__law_long cd__law_long ct__law_long : Value} {f__law_counted : Addr} {oc__law_counted : Value} {od__law_counted an__law_counted : Option Addr} {sl__law_counted : Array (Option Value)} {kV__law_counted dc__law_counted pm__law_counted cd__law_counted ct__law_counted : Value} {f__law_drawn_day : Addr} {oc__law_drawn_day : Value} {od__law_drawn_day an__law_drawn_day : Option Addr} {sl__law_drawn_day : Array (Option Value)} {kV__law_drawn_day dc__law_drawn_day pm__law_drawn_day cd__law_drawn_day ct__law_drawn_day : Value} {f__law_is_no_day : Addr} {oc__law_is_no_day : Value} {od__law_is_no_day an__law_is_no_day : Option Addr} {sl__law_is_no_day : Array (Option Value)} {kV__law_is_no_day dc__law_is_no_day pm__law_is_no_day cd__law_is_no_day ct__law_is_no_day : Value} {f_law : Addr} {oc_law : Value} {od_law an_law : Option Addr} {sl_law : Array (Option Value)} {kV_law dc_law pm_law cd_law ct_law : Value}
    (a0 : PySem.W.nsIn K mainGlobals "DueError" = some (some (.ref C0)))
    (x0 : PySem.W.excIn K C0 [.type "ValueError", .type "Exception", .type "BaseException", .type "object"] "ValueError.__new__" = true)
    (k0 : PySem.W.keepIn K (.ref C0) = true)
    (b0 : PySem.W.subIn K (.ref C0) (.type "BaseException") = some true)
    (t0 : PySem.W.typeIn K (.ref C0) = some (.type "type"))
    (a1 : PySem.W.nsIn K mainGlobals "InvalidDay" = some (some (.ref C1)))
    (x1 : PySem.W.excIn K C1 [.type "ValueError", .type "Exception", .type "BaseException", .type "object"] "ValueError.__new__" = true)
    (k1 : PySem.W.keepIn K (.ref C1) = true)
    (b1 : PySem.W.subIn K (.ref C1) (.type "BaseException") = some true)
    (t1 : PySem.W.typeIn K (.ref C1) = some (.type "type"))
    (z_ValueError : PySem.W.nsIn K mainGlobals "ValueError" = some none)
    (z_abs : PySem.W.nsIn K mainGlobals "abs" = some none)
    (z_bool : PySem.W.nsIn K mainGlobals "bool" = some none)
    (z_divmod : PySem.W.nsIn K mainGlobals "divmod" = some none)
    (z_int : PySem.W.nsIn K mainGlobals "int" = some none)
    (z_isinstance : PySem.W.nsIn K mainGlobals "isinstance" = some none)
    (z_len : PySem.W.nsIn K mainGlobals "len" = some none)
    (z_list : PySem.W.nsIn K mainGlobals "list" = some none)
    (z_max : PySem.W.nsIn K mainGlobals "max" = some none)
    (z_min : PySem.W.nsIn K mainGlobals "min" = some none)
    (z_range : PySem.W.nsIn K mainGlobals "range" = some none)
    (z_str : PySem.W.nsIn K mainGlobals "str" = some none)
    (z_tuple : PySem.W.nsIn K mainGlobals "tuple" = some none)
    (g_CYCLE : PySem.W.nsIn K mainGlobals "CYCLE" = some (some (.int 146097 tk_CYCLE)))
    (g_FIRST_MARCH : PySem.W.nsIn K mainGlobals "FIRST_MARCH" = some (some (.int 60 tk_FIRST_MARCH)))
    (g_FIRST_MONDAY : PySem.W.nsIn K mainGlobals "FIRST_MONDAY" = some (some (.int 2 tk_FIRST_MONDAY)))
    (g_MONTH_DAYS : PySem.W.nsIn K mainGlobals "MONTH_DAYS" = some (some (.ref ad_MONTH_DAYS)))
    (l_MONTH_DAYS : K.lookup ad_MONTH_DAYS = some ⟨.type "tuple", dc_MONTH_DAYS, .seq #[.int 31 tk_MONTH_DAYS_0, .int 28 tk_MONTH_DAYS_1, .int 31 tk_MONTH_DAYS_2, .int 30 tk_MONTH_DAYS_3, .int 31 tk_MONTH_DAYS_4, .int 30 tk_MONTH_DAYS_5, .int 31 tk_MONTH_DAYS_6, .int 31 tk_MONTH_DAYS_7, .int 30 tk_MONTH_DAYS_8, .int 31 tk_MONTH_DAYS_9, .int 30 tk_MONTH_DAYS_10, .int 31 tk_MONTH_DAYS_11] n_MONTH_DAYS, sl_MONTH_DAYS⟩)
    (d0 : PySem.W.hasDictIn K C0 = true)
    (s0_0 : PySem.W.subIn K (.ref C0) (.ref C0) = some true)
    (s1_0 : PySem.W.subIn K (.ref C1) (.ref C0) = some true)
    (hg0 : PySem.W.findIn K (.ref C0) "__getattribute__" = some (some (.builtin "BaseException.__getattribute__")))
    (hk0 : PySem.W.findIn K (.ref C0) "__getattr__" = some none)
    (hd0 : PySem.W.hasDictIn K C0 = true)
    (ha0 : PySem.W.findIn K (.ref C0) "__class__" = some (some (.builtin "object.__class__")))
    (hm0 : PySem.W.mroIn K C0 (.type "object") = some true)
    (hg1 : PySem.W.findIn K (.ref C1) "__getattribute__" = some (some (.builtin "BaseException.__getattribute__")))
    (hk1 : PySem.W.findIn K (.ref C1) "__getattr__" = some none)
    (hd1 : PySem.W.hasDictIn K C1 = true)
    (ha1 : PySem.W.findIn K (.ref C1) "__class__" = some (some (.builtin "object.__class__")))
    (hm1 : PySem.W.mroIn K C1 (.type "object") = some true)
    (hn : PySem.W.specialIn K (.builtin "object.__class__") "__get__" = some (some (.builtin "getset_descriptor.__get__")))
    (ht : PySem.W.takesIn K (.builtin "object.__class__") = some true)
    (q_isx_DueError_ValueError_0 : PySem.W.kitOne K (.ref C0) (.type "ValueError") = some true)
    (q_isx_DueError_ValueError_1 : PySem.W.kitOne K (.ref C1) (.type "ValueError") = some true)
    (q_isx_DueError_InvalidDay_0 : PySem.W.kitOne K (.ref C0) (.ref C1) = some false)
    (q_isx_DueError_InvalidDay_1 : PySem.W.kitOne K (.ref C1) (.ref C1) = some true)
    (ne_1_0 : C1 ≠ C0)
    (fa_is_integer : PySem.W.nsIn K mainGlobals "is_integer" = some (some (.ref f_is_integer)))
    (fl_is_integer : K.lookup f_is_integer = some ⟨oc_is_integer, od_is_integer, .func (PySem.W.fnOf "is_integer" "is_integer" (defArgs s_is_integer) (defBody s_is_integer) (defScope s_is_integer) .none kV_is_integer dc_is_integer pm_is_integer an_is_integer cd_is_integer ct_is_integer), sl_is_integer⟩)
    (fc_is_integer : PySem.W.codeIn K cd_is_integer "is_integer" = true)
    (fk_is_integer : PySem.W.keepIn K (.ref f_is_integer) = true)
    (fa_check_day : PySem.W.nsIn K mainGlobals "check_day" = some (some (.ref f_check_day)))
    (fl_check_day : K.lookup f_check_day = some ⟨oc_check_day, od_check_day, .func (PySem.W.fnOf "check_day" "check_day" (defArgs s_check_day) (defBody s_check_day) (defScope s_check_day) .none kV_check_day dc_check_day pm_check_day an_check_day cd_check_day ct_check_day), sl_check_day⟩)
    (fc_check_day : PySem.W.codeIn K cd_check_day "check_day" = true)
    (fk_check_day : PySem.W.keepIn K (.ref f_check_day) = true)
    (fa_date_of : PySem.W.nsIn K mainGlobals "date_of" = some (some (.ref f_date_of)))
    (fl_date_of : K.lookup f_date_of = some ⟨oc_date_of, od_date_of, .func (PySem.W.fnOf "date_of" "date_of" (defArgs s_date_of) (defBody s_date_of) (defScope s_date_of) .none kV_date_of dc_date_of pm_date_of an_date_of cd_date_of ct_date_of), sl_date_of⟩)
    (fc_date_of : PySem.W.codeIn K cd_date_of "date_of" = true)
    (fk_date_of : PySem.W.keepIn K (.ref f_date_of) = true)
    (fa_number_of_date : PySem.W.nsIn K mainGlobals "number_of_date" = some (some (.ref f_number_of_date)))
    (fl_number_of_date : K.lookup f_number_of_date = some ⟨oc_number_of_date, od_number_of_date, .func (PySem.W.fnOf "number_of_date" "number_of_date" (defArgs s_number_of_date) (defBody s_number_of_date) (defScope s_number_of_date) .none kV_number_of_date dc_number_of_date pm_number_of_date an_number_of_date cd_number_of_date ct_number_of_date), sl_number_of_date⟩)
    (fc_number_of_date : PySem.W.codeIn K cd_number_of_date "number_of_date" = true)
    (fk_number_of_date : PySem.W.keepIn K (.ref f_number_of_date) = true)
    (fa_month_length : PySem.W.nsIn K mainGlobals "month_length" = some (some (.ref f_month_length)))
    (fl_month_length : K.lookup f_month_length = some ⟨oc_month_length, od_month_length, .func (PySem.W.fnOf "month_length" "month_length" (defArgs s_month_length) (defBody s_month_length) (defScope s_month_length) .none kV_month_length dc_month_length pm_month_length an_month_length cd_month_length ct_month_length), sl_month_length⟩)
    (fc_month_length : PySem.W.codeIn K cd_month_length "month_length" = true)
    (fk_month_length : PySem.W.keepIn K (.ref f_month_length) = true)
    (fa_date : PySem.W.nsIn K mainGlobals "date" = some (some (.ref f_date)))
    (fl_date : K.lookup f_date = some ⟨oc_date, od_date, .func (PySem.W.fnOf "date" "date" (defArgs s_date) (defBody s_date) (defScope s_date) .none kV_date dc_date pm_date an_date cd_date ct_date), sl_date⟩)
    (fc_date : PySem.W.codeIn K cd_date "date" = true)
    (fk_date : PySem.W.keepIn K (.ref f_date) = true)
    (fa_day_of : PySem.W.nsIn K mainGlobals "day_of" = some (some (.ref f_day_of)))
    (fl_day_of : K.lookup f_day_of = some ⟨oc_day_of, od_day_of, .func (PySem.W.fnOf "day_of" "day_of" (defArgs s_day_of) (defBody s_day_of) (defScope s_day_of) .none kV_day_of dc_day_of pm_day_of an_day_of cd_day_of ct_day_of), sl_day_of⟩)
    (fc_day_of : PySem.W.codeIn K cd_day_of "day_of" = true)
    (fk_day_of : PySem.W.keepIn K (.ref f_day_of) = true)
    (fa_weekday_of : PySem.W.nsIn K mainGlobals "weekday_of" = some (some (.ref f_weekday_of)))
    (fl_weekday_of : K.lookup f_weekday_of = some ⟨oc_weekday_of, od_weekday_of, .func (PySem.W.fnOf "weekday_of" "weekday_of" (defArgs s_weekday_of) (defBody s_weekday_of) (defScope s_weekday_of) .none kV_weekday_of dc_weekday_of pm_weekday_of an_weekday_of cd_weekday_of ct_weekday_of), sl_weekday_of⟩)
    (fc_weekday_of : PySem.W.codeIn K cd_weekday_of "weekday_of" = true)
    (fk_weekday_of : PySem.W.keepIn K (.ref f_weekday_of) = true)
    (fa_weekday : PySem.W.nsIn K mainGlobals "weekday" = some (some (.ref f_weekday)))
    (fl_weekday : K.lookup f_weekday = some ⟨oc_weekday, od_weekday, .func (PySem.W.fnOf "weekday" "weekday" (defArgs s_weekday) (defBody s_weekday) (defScope s_weekday) .none kV_weekday dc_weekday pm_weekday an_weekday cd_weekday ct_weekday), sl_weekday⟩)
    (fc_weekday : PySem.W.codeIn K cd_weekday "weekday" = true)
    (fk_weekday : PySem.W.keepIn K (.ref f_weekday) = true)
    (fa__law_purse : PySem.W.nsIn K mainGlobals "_law_purse" = some (some (.ref f__law_purse)))
    (fl__law_purse : K.lookup f__law_purse = some ⟨oc__law_purse, od__law_purse, .func (PySem.W.fnOf "_law_purse" "_law_purse" (defArgs s__law_purse) (defBody s__law_purse) (defScope s__law_purse) .none kV__law_purse dc__law_purse pm__law_purse an__law_purse cd__law_purse ct__law_purse), sl__law_purse⟩)
    (fc__law_purse : PySem.W.codeIn K cd__law_purse "_law_purse" = true)
    (fk__law_purse : PySem.W.keepIn K (.ref f__law_purse) = true)
    (fa__law_take : PySem.W.nsIn K mainGlobals "_law_take" = some (some (.ref f__law_take)))
    (fl__law_take : K.lookup f__law_take = some ⟨oc__law_take, od__law_take, .func (PySem.W.fnOf "_law_take" "_law_take" (defArgs s__law_take) (defBody s__law_take) (defScope s__law_take) .none kV__law_take dc__law_take pm__law_take an__law_take cd__law_take ct__law_take), sl__law_take⟩)
    (fc__law_take : PySem.W.codeIn K cd__law_take "_law_take" = true)
    (fk__law_take : PySem.W.keepIn K (.ref f__law_take) = true)
    (fa__law_pick : PySem.W.nsIn K mainGlobals "_law_pick" = some (some (.ref f__law_pick)))
    (fl__law_pick : K.lookup f__law_pick = some ⟨oc__law_pick, od__law_pick, .func (PySem.W.fnOf "_law_pick" "_law_pick" (defArgs s__law_pick) (defBody s__law_pick) (defScope s__law_pick) .none kV__law_pick dc__law_pick pm__law_pick an__law_pick cd__law_pick ct__law_pick), sl__law_pick⟩)
    (fc__law_pick : PySem.W.codeIn K cd__law_pick "_law_pick" = true)
    (fk__law_pick : PySem.W.keepIn K (.ref f__law_pick) = true)
    (fa__law_match : PySem.W.nsIn K mainGlobals "_law_match" = some (some (.ref f__law_match)))
    (fl__law_match : K.lookup f__law_match = some ⟨oc__law_match, od__law_match, .func (PySem.W.fnOf "_law_match" "_law_match" (defArgs s__law_match) (defBody s__law_match) (defScope s__law_match) .none kV__law_match dc__law_match pm__law_match an__law_match cd__law_match ct__law_match), sl__law_match⟩)
    (fc__law_match : PySem.W.codeIn K cd__law_match "_law_match" = true)
    (fk__law_match : PySem.W.keepIn K (.ref f__law_match) = true)
    (fa__law_long : PySem.W.nsIn K mainGlobals "_law_long" = some (some (.ref f__law_long)))
    (fl__law_long : K.lookup f__law_long = some ⟨oc__law_long, od__law_long, .func (PySem.W.fnOf "_law_long" "_law_long" (defArgs s__law_long) (defBody s__law_long) (defScope s__law_long) .none kV__law_long dc__law_long pm__law_long an__law_long cd__law_long ct__law_long), sl__law_long⟩)
    (fc__law_long : PySem.W.codeIn K cd__law_long "_law_long" = true)
    (fk__law_long : PySem.W.keepIn K (.ref f__law_long) = true)
    (fa__law_counted : PySem.W.nsIn K mainGlobals "_law_counted" = some (some (.ref f__law_counted)))
    (fl__law_counted : K.lookup f__law_counted = some ⟨oc__law_counted, od__law_counted, .func (PySem.W.fnOf "_law_counted" "_law_counted" (defArgs s__law_counted) (defBody s__law_counted) (defScope s__law_counted) .none kV__law_counted dc__law_counted pm__law_counted an__law_counted cd__law_counted ct__law_counted), sl__law_counted⟩)
    (fc__law_counted : PySem.W.codeIn K cd__law_counted "_law_counted" = true)
    (fk__law_counted : PySem.W.keepIn K (.ref f__law_counted) = true)
    (fa__law_drawn_day : PySem.W.nsIn K mainGlobals "_law_drawn_day" = some (some (.ref f__law_drawn_day)))
    (fl__law_drawn_day : K.lookup f__law_drawn_day = some ⟨oc__law_drawn_day, od__law_drawn_day, .func (PySem.W.fnOf "_law_drawn_day" "_law_drawn_day" (defArgs s__law_drawn_day) (defBody s__law_drawn_day) (defScope s__law_drawn_day) .none kV__law_drawn_day dc__law_drawn_day pm__law_drawn_day an__law_drawn_day cd__law_drawn_day ct__law_drawn_day), sl__law_drawn_day⟩)
    (fc__law_drawn_day : PySem.W.codeIn K cd__law_drawn_day "_law_drawn_day" = true)
    (fk__law_drawn_day : PySem.W.keepIn K (.ref f__law_drawn_day) = true)
    (fa__law_is_no_day : PySem.W.nsIn K mainGlobals "_law_is_no_day" = some (some (.ref f__law_is_no_day)))
    (fl__law_is_no_day : K.lookup f__law_is_no_day = some ⟨oc__law_is_no_day, od__law_is_no_day, .func (PySem.W.fnOf "_law_is_no_day" "_law_is_no_day" (defArgs s__law_is_no_day) (defBody s__law_is_no_day) (defScope s__law_is_no_day) .none kV__law_is_no_day dc__law_is_no_day pm__law_is_no_day an__law_is_no_day cd__law_is_no_day ct__law_is_no_day), sl__law_is_no_day⟩)
    (fc__law_is_no_day : PySem.W.codeIn K cd__law_is_no_day "_law_is_no_day" = true)
    (fk__law_is_no_day : PySem.W.keepIn K (.ref f__law_is_no_day) = true)
    (fa_law : PySem.W.nsIn K mainGlobals "law" = some (some (.ref f_law)))
    (fl_law : K.lookup f_law = some ⟨oc_law, od_law, .func (PySem.W.fnOf "law" "law" (defArgs s_law) (defBody s_law) (defScope s_law) .none kV_law dc_law pm_law an_law cd_law ct_law), sl_law⟩)
    (fc_law : PySem.W.codeIn K cd_law "law" = true)
    (fk_law : PySem.W.keepIn K (.ref f_law) = true) :
    ∀ base : Heap, FnC PW w K mg base 5 "law" P_law s_law (sp_law (fun n => if n = 0 then C0 else C1)) := by
  intro base
  have T : Tx K mg (fun n => if n = 0 then C0 else C1) := {
    b_ValueError := PySem.W.mg_none_of X G z_ValueError
    b_abs := PySem.W.mg_none_of X G z_abs
    b_bool := PySem.W.mg_none_of X G z_bool
    b_divmod := PySem.W.mg_none_of X G z_divmod
    b_int := PySem.W.mg_none_of X G z_int
    b_isinstance := PySem.W.mg_none_of X G z_isinstance
    b_len := PySem.W.mg_none_of X G z_len
    b_list := PySem.W.mg_none_of X G z_list
    b_max := PySem.W.mg_none_of X G z_max
    b_min := PySem.W.mg_none_of X G z_min
    b_range := PySem.W.mg_none_of X G z_range
    b_str := PySem.W.mg_none_of X G z_str
    b_tuple := PySem.W.mg_none_of X G z_tuple
    g_CYCLE := ⟨_, PySem.W.mg_of X G g_CYCLE⟩
    g_FIRST_MARCH := ⟨_, PySem.W.mg_of X G g_FIRST_MARCH⟩
    g_FIRST_MONDAY := ⟨_, PySem.W.mg_of X G g_FIRST_MONDAY⟩
    g_MONTH_DAYS := ⟨_, PySem.W.mg_of X G g_MONTH_DAYS, fun H => Rep.tup (xs := [V.int 31, V.int 28, V.int 31, V.int 30, V.int 31, V.int 30, V.int 31, V.int 31, V.int 30, V.int 31, V.int 30, V.int 31]) (.inr ⟨_, _, _, l_MONTH_DAYS, rfl, rfl, by show 12 ≤ sizeLine; decide, (.cons ⟨_, rfl⟩ (.cons ⟨_, rfl⟩ (.cons ⟨_, rfl⟩ (.cons ⟨_, rfl⟩ (.cons ⟨_, rfl⟩ (.cons ⟨_, rfl⟩ (.cons ⟨_, rfl⟩ (.cons ⟨_, rfl⟩ (.cons ⟨_, rfl⟩ (.cons ⟨_, rfl⟩ (.cons ⟨_, rfl⟩ (.cons ⟨_, rfl⟩ .nil))))))))))))⟩) (.cons (.int _) (.cons (.int _) (.cons (.int _) (.cons (.int _) (.cons (.int _) (.cons (.int _) (.cons (.int _) (.cons (.int _) (.cons (.int _) (.cons (.int _) (.cons (.int _) (.cons (.int _) .nil)))))))))))) (by show 12 ≤ sizeLine; decide)⟩
    x_DueError := ⟨PySem.W.mg_of X G a0, x0, k0, b0, t0⟩
    x_InvalidDay := ⟨PySem.W.mg_of X G a1, x1, k1, b1, t1⟩
    fm_DueError := by
      intro C b h
      unfold m_DueError at h
      by_cases e0 : C = C0
      · subst e0
        simp [] at h
        subst h; exact PySem.W.exm_ref b0 d0 t0 s0_0
      by_cases e1 : C = C1
      · subst e1
        simp [ne_1_0] at h
        subst h; exact PySem.W.exm_ref b0 d0 t0 s1_0
      simp [e0, e1] at h
    ec_DueError := by
      intro C h
      unfold m_DueError at h
      by_cases e0 : C = C0
      · subst e0
        exact ⟨hg0, hk0, b0, hd0, ha0, hn, ht, hm0⟩
      by_cases e1 : C = C1
      · subst e1
        exact ⟨hg1, hk1, b1, hd1, ha1, hn, ht, hm1⟩
      simp [e0, e1] at h
    fisx_DueError_ValueError := by
      intro C b h
      unfold isx_DueError_ValueError at h
      by_cases e0 : C = C0
      · subst e0
        simp [] at h
        subst h; exact q_isx_DueError_ValueError_0
      by_cases e1 : C = C1
      · subst e1
        simp [ne_1_0] at h
        subst h; exact q_isx_DueError_ValueError_1
      simp [e0, e1] at h
    fisx_DueError_InvalidDay := by
      intro C b h
      unfold isx_DueError_InvalidDay at h
      by_cases e0 : C = C0
      · subst e0
        simp [] at h
        subst h; exact q_isx_DueError_InvalidDay_0
      by_cases e1 : C = C1
      · subst e1
        simp [ne_1_0] at h
        subst h; exact q_isx_DueError_InvalidDay_1
      simp [e0, e1] at h
    ne_1_0 := ne_1_0 }
  have Hh : Hs K mg := ⟨has_mk X G fa_is_integer fl_is_integer fc_is_integer fk_is_integer, has_mk X G fa_check_day fl_check_day fc_check_day fk_check_day, has_mk X G fa_date_of fl_date_of fc_date_of fk_date_of, has_mk X G fa_number_of_date fl_number_of_date fc_number_of_date fk_number_of_date, has_mk X G fa_month_length fl_month_length fc_month_length fk_month_length, has_mk X G fa_date fl_date fc_date fk_date, has_mk X G fa_day_of fl_day_of fc_day_of fk_day_of, has_mk X G fa_weekday_of fl_weekday_of fc_weekday_of fk_weekday_of, has_mk X G fa_weekday fl_weekday fc_weekday fk_weekday, has_mk X G fa__law_purse fl__law_purse fc__law_purse fk__law_purse, has_mk X G fa__law_take fl__law_take fc__law_take fk__law_take, has_mk X G fa__law_pick fl__law_pick fc__law_pick fk__law_pick, has_mk X G fa__law_match fl__law_match fc__law_match fk__law_match, has_mk X G fa__law_long fl__law_long fc__law_long fk__law_long, has_mk X G fa__law_counted fl__law_counted fc__law_counted fk__law_counted, has_mk X G fa__law_drawn_day fl__law_drawn_day fc__law_drawn_day fk__law_drawn_day, has_mk X G fa__law_is_no_day fl__law_is_no_day fc__law_is_no_day fk__law_is_no_day, has_mk X G fa_law fl_law fc_law fk_law⟩
  exact ok_law T Hh

theorem law_pre (ns : List Int) (h : ns.length ≤ 63) (_ : ∀ z ∈ ns, Builtin.Int.intBits z ≤ 1048576) : (sp_law (fun _ => 0)).pre [.sc ns] ∧ (∀ r as', (sp_law (fun _ => 0)).post [.sc ns] r as' → r = .fz (.bool true)) ∧ ∀ C as', ¬ (sp_law (fun _ => 0)).exc [.sc ns] C as' :=
  ⟨⟨ns, rfl, h⟩, fun r as' q => q ns rfl, fun _ _ q => q⟩
end T18
open PySem PySem.W PyProof.Rows
theorem PySem.Challenge.cw_keptwhatever_k18_dates_counted_holds : PySem.Challenge.rw_keptwhatever_k18_dates_counted.Holds := by
  w_on; o_law; k_head; (case hw => w_witness2)
  k_fill
  refine DL.law_end (l := PySem.Challenge.rw_keptwhatever_k18_dates_counted) (k := 5) (x := "script") (st := T18.s_law) (sp := T18.sp_law (fun _ => 0)) rfl rfl ⟨rfl, by decide, by decide⟩ (fun w h Y => PySem.W.kIn_of Y) T18.bp_law ?F ?P
  case F =>
    intro w mg h KX G base _ _
    refine' T18.all_mk KX G ?a0 ?x0 ?k0 ?b0 ?t0 ?a1 ?x1 ?k1 ?b1 ?t1 ?z_ValueError ?z_abs ?z_bool ?z_divmod ?z_int ?z_isinstance ?z_len ?z_list ?z_max ?z_min ?z_range ?z_str ?z_tuple ?g_CYCLE ?g_FIRST_MARCH ?g_FIRST_MONDAY ?g_MONTH_DAYS ?l_MONTH_DAYS ?d0 ?s0_0 ?s1_0 ?hg0 ?hk0 ?hd0 ?ha0 ?hm0 ?hg1 ?hk1 ?hd1 ?ha1 ?hm1 ?hn ?ht ?q_isx_DueError_ValueError_0 ?q_isx_DueError_ValueError_1 ?q_isx_DueError_InvalidDay_0 ?q_isx_DueError_InvalidDay_1 ?ne_1_0 ?fa_is_integer ?fl_is_integer ?fc_is_integer ?fk_is_integer ?fa_check_day ?fl_check_day ?fc_check_day ?fk_check_day ?fa_date_of ?fl_date_of ?fc_date_of ?fk_date_of ?fa_number_of_date ?fl_number_of_date ?fc_number_of_date ?fk_number_of_date ?fa_month_length ?fl_month_length ?fc_month_length ?fk_month_length ?fa_date ?fl_date ?fc_date ?fk_date ?fa_day_of ?fl_day_of ?fc_day_of ?fk_day_of ?fa_weekday_of ?fl_weekday_of ?fc_weekday_of ?fk_weekday_of ?fa_weekday ?fl_weekday ?fc_weekday ?fk_weekday ?fa__law_purse ?fl__law_purse ?fc__law_purse ?fk__law_purse ?fa__law_take ?fl__law_take ?fc__law_take ?fk__law_take ?fa__law_pick ?fl__law_pick ?fc__law_pick ?fk__law_pick ?fa__law_match ?fl__law_match ?fc__law_match ?fk__law_match ?fa__law_long ?fl__law_long ?fc__law_long ?fk__law_long ?fa__law_counted ?fl__law_counted ?fc__law_counted ?fk__law_counted ?fa__law_drawn_day ?fl__law_drawn_day ?fc__law_drawn_day ?fk__law_drawn_day ?fa__law_is_no_day ?fl__law_is_no_day ?fc__law_is_no_day ?fk__law_is_no_day ?fa_law ?fl_law ?fc_law ?fk_law base
    (case a0 => k_is)
    (case x0 => k_exc)
    (case k0 => k_is)
    (case b0 => k_is)
    (case t0 => k_is)
    (case a1 => k_is)
    (case x1 => k_exc)
    (case k1 => k_is)
    (case b1 => k_is)
    (case t1 => k_is)
    (case z_ValueError => k_is)
    (case z_abs => k_is)
    (case z_bool => k_is)
    (case z_divmod => k_is)
    (case z_int => k_is)
    (case z_isinstance => k_is)
    (case z_len => k_is)
    (case z_list => k_is)
    (case z_max => k_is)
    (case z_min => k_is)
    (case z_range => k_is)
    (case z_str => k_is)
    (case z_tuple => k_is)
    (case g_CYCLE => k_is)
    (case g_FIRST_MARCH => k_is)
    (case g_FIRST_MONDAY => k_is)
    (case g_MONTH_DAYS => k_is)
    (case l_MONTH_DAYS => k_is)
    (case d0 => k_is)
    (case s0_0 => first | rfl | k_is)
    (case s1_0 => first | rfl | k_is)
    (case hg0 => k_is)
    (case hk0 => k_is)
    (case hd0 => k_is)
    (case ha0 => k_is)
    (case hm0 => k_is)
    (case hg1 => k_is)
    (case hk1 => k_is)
    (case hd1 => k_is)
    (case ha1 => k_is)
    (case hm1 => k_is)
    (case hn => k_is)
    (case ht => k_is)
    (case q_isx_DueError_ValueError_0 => first | rfl | k_is)
    (case q_isx_DueError_ValueError_1 => first | rfl | k_is)
    (case q_isx_DueError_InvalidDay_0 => first | rfl | k_is)
    (case q_isx_DueError_InvalidDay_1 => first | rfl | k_is)
    (case ne_1_0 => decide)
    (case fa_is_integer => k_is)
    (case fl_is_integer => k_is)
    (case fc_is_integer => k_is)
    (case fk_is_integer => k_is)
    (case fa_check_day => k_is)
    (case fl_check_day => k_is)
    (case fc_check_day => k_is)
    (case fk_check_day => k_is)
    (case fa_date_of => k_is)
    (case fl_date_of => k_is)
    (case fc_date_of => k_is)
    (case fk_date_of => k_is)
    (case fa_number_of_date => k_is)
    (case fl_number_of_date => k_is)
    (case fc_number_of_date => k_is)
    (case fk_number_of_date => k_is)
    (case fa_month_length => k_is)
    (case fl_month_length => k_is)
    (case fc_month_length => k_is)
    (case fk_month_length => k_is)
    (case fa_date => k_is)
    (case fl_date => k_is)
    (case fc_date => k_is)
    (case fk_date => k_is)
    (case fa_day_of => k_is)
    (case fl_day_of => k_is)
    (case fc_day_of => k_is)
    (case fk_day_of => k_is)
    (case fa_weekday_of => k_is)
    (case fl_weekday_of => k_is)
    (case fc_weekday_of => k_is)
    (case fk_weekday_of => k_is)
    (case fa_weekday => k_is)
    (case fl_weekday => k_is)
    (case fc_weekday => k_is)
    (case fk_weekday => k_is)
    (case fa__law_purse => k_is)
    (case fl__law_purse => k_is)
    (case fc__law_purse => k_is)
    (case fk__law_purse => k_is)
    (case fa__law_take => k_is)
    (case fl__law_take => k_is)
    (case fc__law_take => k_is)
    (case fk__law_take => k_is)
    (case fa__law_pick => k_is)
    (case fl__law_pick => k_is)
    (case fc__law_pick => k_is)
    (case fk__law_pick => k_is)
    (case fa__law_match => k_is)
    (case fl__law_match => k_is)
    (case fc__law_match => k_is)
    (case fk__law_match => k_is)
    (case fa__law_long => k_is)
    (case fl__law_long => k_is)
    (case fc__law_long => k_is)
    (case fk__law_long => k_is)
    (case fa__law_counted => k_is)
    (case fl__law_counted => k_is)
    (case fc__law_counted => k_is)
    (case fk__law_counted => k_is)
    (case fa__law_drawn_day => k_is)
    (case fl__law_drawn_day => k_is)
    (case fc__law_drawn_day => k_is)
    (case fk__law_drawn_day => k_is)
    (case fa__law_is_no_day => k_is)
    (case fl__law_is_no_day => k_is)
    (case fc__law_is_no_day => k_is)
    (case fk__law_is_no_day => k_is)
    (case fa_law => k_is)
    (case fl_law => k_is)
    (case fc_law => k_is)
    (case fk_law => k_is)
  case P => exact T18.law_pre

