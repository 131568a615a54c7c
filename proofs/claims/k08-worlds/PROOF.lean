import PyProof.Rows.All
import Wide.All
import OpenK.AllK
import Wide.FinOn
import HandS.ForMost
import HandS.ForExc
import HandS.Wide
import HandS.IsInst
import HandS.ExcValue
import HandS.Style
import HandS.Deep
import HandS.TupAny
import HandS.Walk
import HandS.Iter
import HandS.Conv
import HandS.More
import HandS.ExcIs
import HandS.EndBits
import HandS.TryOnly
import HandS.WideBits
import HandS.Zip
import KE.GoesEnum
import PyProof.StrOps2
import PySem.Challenge.RW_keptwhatever_k08_worlds_judged
set_option Elab.async false
set_option linter.all false
set_option maxRecDepth 100000
set_option maxHeartbeats 1000000
/-! DLa: data over the hand layer: a def's state as data, owned lists apart. -/
namespace DL
open PySem PySem.Spec PyProof.Rows L2

abbrev D := PyData
/-- an exception object, by its class -/
def exD (C : Addr) : D := .dict [(.int (C : Nat), .none)]

mutual
inductive Rep (K : PySem.W.Frag) (H : Hp) : V → D → Prop
  | non : Rep K H .non .none
  | bl (b : Bool) : Rep K H (.bl b) (.bool b)
  | int (i : Int) : Rep K H (.int i) (.int i)
  | str (x : Str) : Rep K H (.str x) (.str x)
  | lst {a : Addr} {xs : List V} {ds : List D} : H a = some (.lst xs) → Reps K H xs ds → ds.length ≤ sizeLine → Rep K H (.ref a) (.list ds)
  | tup {a : Addr} {xs : List V} {ds : List D} : SqT K H a xs → Reps K H xs ds → ds.length ≤ sizeLine → Rep K H (.ref a) (.tuple ds)
  | ex {a C : Addr} : H a = some (ExO (.ref C) a) → Rep K H (.ref a) (exD C)
inductive Reps (K : PySem.W.Frag) (H : Hp) : List V → List D → Prop
  | nil : Reps K H [] []
  | cons {v : V} {vs : List V} {d : D} {ds : List D} : Rep K H v d → Reps K H vs ds → Reps K H (v :: vs) (d :: ds)
end

section
variable {K : PySem.W.Frag} {H H' Hf Hf' : Hp}

theorem rd_same {a : Addr} {u : HO} (e : Same H H') (h : Rd H a u) : Rd H' a u := by
  rcases h with h | ⟨o, h⟩
  · exact .inl (e _ _ h)
  · exact .inr ⟨o, e _ _ h⟩
theorem sqT_same {a : Addr} {xs : List V} (e : Same H H') (h : SqT K H a xs) : SqT K H' a xs := by
  rcases h with (h | ⟨o, h⟩) | h
  · exact .inl (.inl (e _ _ h))
  · exact .inl (.inr ⟨o, e _ _ h⟩)
  · exact .inr h

mutual
theorem Rep.same (e : Same H H') : ∀ {v : V} {d : D}, Rep K H v d → Rep K H' v d
  | _, _, .non => .non
  | _, _, .bl b => .bl b
  | _, _, .int i => .int i
  | _, _, .str x => .str x
  | _, _, .lst h r z => .lst (e _ _ h) (Reps.same e r) z
  | _, _, .tup h r z => .tup (sqT_same e h) (Reps.same e r) z
  | _, _, .ex h => .ex (e _ _ h)
theorem Reps.same (e : Same H H') : ∀ {vs : List V} {ds : List D}, Reps K H vs ds → Reps K H' vs ds
  | _, _, .nil => .nil
  | _, _, .cons h r => .cons (Rep.same e h) (Reps.same e r)
end

theorem Reps.length : ∀ {vs : List V} {ds : List D}, Reps K H vs ds → vs.length = ds.length
  | _, _, .nil => rfl
  | _, _, .cons _ r => congrArg (· + 1) (Reps.length r)
theorem Reps.get : ∀ {vs : List V} {ds : List D} {i : Nat} {v : V}, Reps K H vs ds → vs[i]? = some v → ∃ d, ds[i]? = some d ∧ Rep K H v d
  | _, _, _, _, .nil, h => by simp at h
  | _, _, 0, _, .cons h r, e => by simp at e; subst e; exact ⟨_, rfl, h⟩
  | _, _, i + 1, _, .cons h r, e => by simpa using Reps.get (i := i) r (by simpa using e)
theorem Reps.get' : ∀ {vs : List V} {ds : List D} {i : Nat} {d : D}, Reps K H vs ds → ds[i]? = some d → ∃ v, vs[i]? = some v ∧ Rep K H v d
  | _, _, _, _, .nil, h => by simp at h
  | _, _, 0, _, .cons h r, e => by simp at e; subst e; exact ⟨_, rfl, h⟩
  | _, _, i + 1, _, .cons h r, e => by simpa using Reps.get' (i := i) r (by simpa using e)
theorem Reps.append : ∀ {vs us : List V} {ds es : List D}, Reps K H vs ds → Reps K H us es → Reps K H (vs ++ us) (ds ++ es)
  | _, _, _, _, .nil, s => s
  | _, _, _, _, .cons h r, s => .cons h (Reps.append r s)
theorem Reps.take : ∀ {vs : List V} {ds : List D} (n : Nat), Reps K H vs ds → Reps K H (vs.take n) (ds.take n)
  | _, _, 0, _ => .nil
  | _, _, _ + 1, .nil => .nil
  | _, _, n + 1, .cons h r => .cons h (Reps.take n r)
theorem Reps.drop : ∀ {vs : List V} {ds : List D} (n : Nat), Reps K H vs ds → Reps K H (vs.drop n) (ds.drop n)
  | _, _, 0, r => r
  | _, _, _ + 1, .nil => .nil
  | _, _, n + 1, .cons _ r => Reps.drop n r
theorem Reps.set {x : V} {y : D} (q : Rep K H x y) : ∀ {vs : List V} {ds : List D} (n : Nat), Reps K H vs ds → Reps K H (vs.set n x) (ds.set n y)
  | _, _, _, .nil => .nil
  | _, _, 0, .cons h r => .cons q r
  | _, _, n + 1, .cons h r => .cons h (Reps.set q n r)
theorem Reps.eraseIdx : ∀ {vs : List V} {ds : List D} (n : Nat), Reps K H vs ds → Reps K H (vs.eraseIdx n) (ds.eraseIdx n)
  | _, _, _, .nil => .nil
  | _, _, 0, .cons h r => r
  | _, _, n + 1, .cons h r => .cons h (Reps.eraseIdx n r)
theorem Reps.dropLast {vs : List V} {ds : List D} (r : Reps K H vs ds) : Reps K H vs.dropLast ds.dropLast := by
  rw [List.dropLast_eq_take, List.dropLast_eq_take, r.length]
  exact r.take _
theorem Reps.reverse : ∀ {vs : List V} {ds : List D}, Reps K H vs ds → Reps K H vs.reverse ds.reverse
  | _, _, .nil => .nil
  | _, _, .cons h r => by
    rw [List.reverse_cons, List.reverse_cons]
    exact (Reps.reverse r).append (.cons h .nil)
theorem Reps.ints : ∀ {vs : List V} {ns : List Int}, Reps K H vs (ns.map .int) → vs = ns.map V.int
  | _, [], h => by cases h; rfl
  | _, n :: ns, h => by
    cases h with
    | cons h r => cases h; rw [Reps.ints r]; rfl
theorem Reps.ofInts : ∀ (ns : List Int), Reps K H (ns.map V.int) (ns.map .int)
  | [] => .nil
  | n :: ns => .cons (.int n) (Reps.ofInts ns)
theorem Reps.bools : ∀ {vs : List V} {ns : List Bool}, Reps K H vs (ns.map .bool) → vs = ns.map V.bl
  | _, [], h => by cases h; rfl
  | _, n :: ns, h => by
    cases h with
    | cons h r => cases h; rw [Reps.bools r]; rfl

/-- what an owned object holds -/
inductive Cn where
  | l (ds : List D)
abbrev Cn.d : Cn → D
  | .l ds => .list ds
def OwnR (K : PySem.W.Frag) (Hf H : Hp) : Cn → Addr → List Addr → Prop
  | .l ds, a, fp => fp = [a] ∧ ds.length ≤ sizeLine ∧ ∃ vs, H a = some (.lst vs) ∧ Reps K Hf vs ds

theorem OwnR.mono {c : Cn} {a : Addr} {fp : List Addr} (hs : Same Hf Hf') (hk : ∀ b ∈ fp, H' b = H b) (h : OwnR K Hf H c a fp) : OwnR K Hf' H' c a fp := by
  cases c with
  | l ds =>
    obtain ⟨rfl, z, vs, h1, h2⟩ := h
    exact ⟨rfl, z, vs, by rw [hk a (by simp)]; exact h1, h2.same hs⟩
theorem OwnR.dom {c : Cn} {a : Addr} {fp : List Addr} (h : OwnR K Hf H c a fp) : ∀ b ∈ fp, H b ≠ none := by
  cases c with
  | l ds =>
    obtain ⟨rfl, z, vs, h1, h2⟩ := h
    intro b hb
    have : b = a := by simpa using hb
    subst this
    rw [h1]; exact fun z => nomatch z

/-- a slot as data -/
inductive Sl where
  | nil | fz (d : D) | ow (c : Cn) | pw (a : Addr) (c : Cn) | sc (ns : List Int) | xa (a : Addr)
def SlO (K : PySem.W.Frag) (Hf H : Hp) : Sl → Option V → List Addr → Prop
  | .nil, _, fp => fp = []
  | .fz d, v, fp => fp = [] ∧ ∃ x, v = some x ∧ Rep K Hf x d
  | .ow c, v, fp => ∃ a, v = some (.ref a) ∧ OwnR K Hf H c a fp
  | .pw a c, v, fp => v = some (.ref a) ∧ OwnR K Hf H c a fp
  | .sc ns, v, fp => fp = [] ∧ ∃ a, v = some (.ref a) ∧ SqL K Hf a (ns.map V.int)
  | .xa a, v, fp => fp = [] ∧ v = some (.ref a)
def SlsO (K : PySem.W.Frag) (Hf H : Hp) : List Sl → L2.St → List Addr → Prop
  | [], σ, fp => σ = [] ∧ fp = []
  | s :: ρ, σ, fp => ∃ v σ' f1 f2, σ = v :: σ' ∧ fp = f1 ++ f2 ∧ SlO K Hf H s v f1 ∧ SlsO K Hf H ρ σ' f2

theorem SlO.mono {s : Sl} {v : Option V} {fp : List Addr} (hs : Same Hf Hf') (hk : ∀ b ∈ fp, H' b = H b) (h : SlO K Hf H s v fp) : SlO K Hf' H' s v fp := by
  cases s with
  | nil => exact h
  | fz d => obtain ⟨e, x, e2, r⟩ := h; exact ⟨e, x, e2, r.same hs⟩
  | ow c => obtain ⟨a, e, r⟩ := h; exact ⟨a, e, r.mono hs hk⟩
  | pw a c => obtain ⟨e, r⟩ := h; exact ⟨e, r.mono hs hk⟩
  | sc ns => obtain ⟨e, a, e2, r⟩ := h; exact ⟨e, a, e2, hs.seq r⟩
  | xa a => exact h
theorem SlO.dom {s : Sl} {v : Option V} {fp : List Addr} (h : SlO K Hf H s v fp) : ∀ b ∈ fp, H b ≠ none := by
  cases s with
  | nil => have : fp = [] := h; subst this; intro b hb; simp at hb
  | fz d => obtain ⟨e, x, e2, r⟩ := h; subst e; intro b hb; simp at hb
  | ow c => obtain ⟨a, e, r⟩ := h; exact r.dom
  | pw a c => obtain ⟨e, r⟩ := h; exact r.dom
  | sc ns => obtain ⟨e, a, e2, r⟩ := h; subst e; intro b hb; simp at hb
  | xa a => obtain ⟨e, _⟩ := h; subst e; intro b hb; simp at hb
theorem SlsO.mono (hs : Same Hf Hf') : ∀ {ρ : List Sl} {σ : L2.St} {fp : List Addr}, (∀ b ∈ fp, H' b = H b) → SlsO K Hf H ρ σ fp → SlsO K Hf' H' ρ σ fp
  | [], _, _, _, h => h
  | s :: ρ, _, _, hk, ⟨v, σ', f1, f2, e1, e2, h1, h2⟩ => by
    subst e1 e2
    exact ⟨v, σ', f1, f2, rfl, rfl, h1.mono hs fun b hb => hk b (List.mem_append_left _ hb), SlsO.mono hs (fun b hb => hk b (List.mem_append_right _ hb)) h2⟩
theorem SlsO.dom : ∀ {ρ : List Sl} {σ : L2.St} {fp : List Addr}, SlsO K Hf H ρ σ fp → ∀ b ∈ fp, H b ≠ none
  | [], _, _, ⟨_, e⟩ => by subst e; intro b hb; simp at hb
  | s :: ρ, _, _, ⟨v, σ', f1, f2, e1, e2, h1, h2⟩ => by
    subst e1 e2
    intro b hb
    rcases List.mem_append.mp hb with hb | hb
    · exact h1.dom b hb
    · exact SlsO.dom h2 b hb
theorem SlsO.length : ∀ {ρ : List Sl} {σ : L2.St} {fp : List Addr}, SlsO K Hf H ρ σ fp → σ.length = ρ.length
  | [], _, _, ⟨e, _⟩ => by subst e; rfl
  | s :: ρ, _, _, ⟨v, σ', f1, f2, e1, e2, h1, h2⟩ => by
    subst e1
    show σ'.length + 1 = ρ.length + 1
    rw [SlsO.length h2]

/-- a slot is taken apart: what stands in it, and the rest with an empty slot -/
theorem SlsO.take : ∀ {ρ : List Sl} {σ : L2.St} {fp : List Addr} {i : Nat} {s : Sl}, SlsO K Hf H ρ σ fp → ρ[i]? = some s →
    ∃ v f1 f2, σ[i]? = some v ∧ SlO K Hf H s v f1 ∧ SlsO K Hf H (ρ.set i .nil) σ f2 ∧ fp.Perm (f1 ++ f2)
  | [], _, _, _, _, _, e => by simp at e
  | s0 :: ρ, _, _, 0, s, ⟨v, σ', f1, f2, e1, e2, h1, h2⟩, e => by
    subst e1 e2
    simp at e; subst e
    exact ⟨v, f1, f2, rfl, h1, ⟨v, σ', [], f2, rfl, rfl, rfl, h2⟩, List.Perm.refl _⟩
  | s0 :: ρ, _, _, i + 1, s, ⟨v, σ', f1, f2, e1, e2, h1, h2⟩, e => by
    subst e1 e2
    obtain ⟨v', g1, g2, q1, q2, q3, q4⟩ := SlsO.take (i := i) h2 (by simpa using e)
    refine ⟨v', g1, f1 ++ g2, by simpa using q1, q2, ⟨v, σ', f1, g2, rfl, rfl, h1, q3⟩, ?_⟩
    refine (List.Perm.append_left f1 q4).trans ?_
    rw [← List.append_assoc, ← List.append_assoc]
    exact List.Perm.append_right g2 List.perm_append_comm
/-- a value is put into an empty slot -/
theorem SlsO.put : ∀ {ρ : List Sl} {σ : L2.St} {f1 f2 : List Addr} {i : Nat} {s : Sl} {v : Option V}, SlsO K Hf H ρ σ f2 → ρ[i]? = some .nil → SlO K Hf H s v f1 →
    ∃ fp, SlsO K Hf H (ρ.set i s) (σ.set i v) fp ∧ fp.Perm (f1 ++ f2)
  | [], _, _, _, _, _, _, _, e, _ => by simp at e
  | s0 :: ρ, _, f, _, 0, s, w, ⟨v, σ', f1, f2, e1, e2, h1, h2⟩, e, q => by
    subst e1 e2
    simp at e; subst e
    obtain rfl : f1 = [] := h1
    exact ⟨f ++ f2, ⟨w, σ', f, f2, rfl, rfl, q, h2⟩, List.Perm.refl _⟩
  | s0 :: ρ, _, f, _, i + 1, s, w, ⟨v, σ', f1, f2, e1, e2, h1, h2⟩, e, q => by
    subst e1 e2
    obtain ⟨fp, q1, q2⟩ := SlsO.put (i := i) h2 (by simpa using e) q
    refine ⟨f1 ++ fp, ⟨v, _, f1, fp, rfl, rfl, h1, q1⟩, ?_⟩
    refine (List.Perm.append_left f1 q2).trans ?_
    rw [← List.append_assoc, ← List.append_assoc]
    exact List.Perm.append_right f2 List.perm_append_comm

structure Bs where
  fr : Hp
  hf : Hp
def Bs.up (B : Bs) (Hf : Hp) : Bs := ⟨B.fr, Hf⟩
/-- the state of a def's body as data -/
structure SO (K : PySem.W.Frag) (B : Bs) (Hf : Hp) (ρ : List Sl) (σ : L2.St) (H : Hp) : Prop where
  up : Same B.hf Hf
  sub : Same Hf H
  fr : ∀ a o, B.fr a = some o → H a = some o ∧ Hf a = none
  sl : ∃ fp, SlsO K Hf H ρ σ fp ∧ fp.Nodup ∧ ∀ a ∈ fp, Hf a = none ∧ B.fr a = none

variable {B : Bs} {ρ : List Sl} {σ : L2.St}
theorem same_upd {a : Addr} {o : HO} (h : H a = none) : Same H (upd H a o) := fun b u e => by
  rw [upd_ne (ne_of_none e h)]; exact e
theorem same_upd2 {a : Addr} {o : HO} (e : Same Hf H) : Same (upd Hf a o) (upd H a o) := fun b u q => by
  by_cases hb : b = a
  · subst hb; rw [upd_same] at q ⊢; exact q
  · rw [upd_ne hb] at q ⊢; exact e b u q
theorem SO.base (S : SO K (B.up Hf) Hf' ρ σ H) (S0 : Same B.hf Hf) : SO K B Hf' ρ σ H := ⟨S0.trans S.up, S.sub, S.fr, S.sl⟩
theorem SO.raise (S : SO K B Hf ρ σ H) : SO K (B.up Hf) Hf ρ σ H := ⟨Same.refl _, S.sub, S.fr, S.sl⟩
/-- a new frozen object -/
theorem SO.alloc (S : SO K B Hf ρ σ H) {p : Addr} (hp : H p = none) (o : HO) : SO K B (upd Hf p o) ρ σ (upd H p o) := by
  obtain ⟨fp, s1, s2, s3⟩ := S.sl
  have hn : Hf p = none := S.sub.free hp
  have npf : p ∉ fp := fun z => s1.dom p z hp
  have ne : ∀ a ∈ fp, a ≠ p := fun a ha e => npf (e ▸ ha)
  refine ⟨S.up.trans (same_upd hn), same_upd2 S.sub, fun a u e => ?_, fp, s1.mono (same_upd hn) fun b hb => upd_ne (ne b hb), s2, fun a ha => ?_⟩
  · have q := S.fr a u e
    have : a ≠ p := ne_of_none q.1 hp
    rw [upd_ne this, upd_ne this]; exact q
  · rw [upd_ne (ne a ha)]; exact s3 a ha
/-- a new object that nobody tracks as data -/
theorem SO.junk (S : SO K B Hf ρ σ H) {H' : Hp} (h : Same H H') : SO K B Hf ρ σ H' := by
  obtain ⟨fp, s1, s2, s3⟩ := S.sl
  refine ⟨S.up, S.sub.trans h, fun a u e => ⟨h _ _ (S.fr a u e).1, (S.fr a u e).2⟩, fp, s1.mono (Same.refl _) fun b hb => ?_, s2, s3⟩
  have := s1.dom b hb
  cases e : H b with
  | none => exact absurd e this
  | some o => exact h _ _ e
/-- a new owned list -/
theorem SO.allocL (S : SO K B Hf ρ σ H) {p : Addr} (hp : H p = none) {vs : List V} {ds : List D} (r : Reps K Hf vs ds) (hz : ds.length ≤ sizeLine) : SO K B Hf (.ow (.l ds) :: ρ) (some (.ref p) :: σ) (upd H p (.lst vs)) := by
  obtain ⟨fp, s1, s2, s3⟩ := S.sl
  have hn : Hf p = none := S.sub.free hp
  have npf : p ∉ fp := fun z => s1.dom p z hp
  have ne : ∀ a ∈ fp, a ≠ p := fun a ha e => npf (e ▸ ha)
  have nfr : B.fr p = none := by
    cases e : B.fr p with
    | none => rfl
    | some o => have := (S.fr p o e).1; rw [hp] at this; cases this
  refine ⟨S.up, S.sub.trans (same_upd hp), fun a u e => ?_, p :: fp, ?_, List.nodup_cons.mpr ⟨npf, s2⟩, fun a ha => ?_⟩
  · have q := S.fr a u e
    exact ⟨same_upd hp _ _ q.1, q.2⟩
  · exact ⟨_, _, [p], fp, rfl, rfl, ⟨p, rfl, rfl, hz, vs, upd_same, r⟩, s1.mono (Same.refl _) fun b hb => upd_ne (ne b hb)⟩
  · rcases List.mem_cons.mp ha with rfl | ha
    · exact ⟨hn, nfr⟩
    · exact s3 a ha
/-- what is owned on top is frozen -/
theorem SO.freeze {c : Cn} {v : Option V} (S : SO K B Hf (.ow c :: ρ) (v :: σ) H) : ∃ Hf' x, v = some x ∧ Same Hf Hf' ∧ SO K B Hf' ρ σ H ∧ Rep K Hf' x c.d := by
  obtain ⟨fp, ⟨v', σ', f1, f2, e1, e2, h1, h2⟩, s2, s3⟩ := S.sl
  cases e1
  subst e2
  obtain ⟨a, rfl, q⟩ := h1
  cases c with
  | l ds =>
    obtain ⟨rfl, hz, vs, q1, q2⟩ := q
    have ha := s3 a (by simp)
    have nd : a ∉ f2 := (List.nodup_cons.mp s2).1
    have ne : ∀ b ∈ f2, b ≠ a := fun b hb e => nd (e ▸ hb)
    have su : Same Hf (upd Hf a (.lst vs)) := same_upd ha.1
    refine ⟨upd Hf a (.lst vs), _, rfl, su, ⟨S.up.trans su, fun b u e => ?_, fun b u e => ?_, f2, h2.mono su fun _ _ => rfl, (List.nodup_cons.mp s2).2, fun b hb => ?_⟩, .lst upd_same (q2.same su) hz⟩
    · by_cases hb : b = a
      · subst hb; rw [upd_same] at e; rw [q1]; exact e
      · rw [upd_ne hb] at e; exact S.sub _ _ e
    · have q := S.fr b u e
      have : b ≠ a := fun z => by rw [z, ha.2] at e; cases e
      rw [upd_ne this]; exact q
    · rw [upd_ne (ne b hb)]; exact s3 b (by simp [hb])
theorem SO.drop {s : Sl} {v : Option V} (S : SO K B Hf (s :: ρ) (v :: σ) H) : SO K B Hf ρ σ H := by
  obtain ⟨fp, ⟨v', σ', f1, f2, e1, e2, h1, h2⟩, s2, s3⟩ := S.sl
  cases e1; subst e2
  exact ⟨S.up, S.sub, S.fr, f2, h2, (List.nodup_append.mp s2).2.1, fun a ha => s3 a (List.mem_append_right _ ha)⟩
/-- an owned (or any) slot's content is moved to the top, the slot left empty -/
theorem SO.takeSl (S : SO K B Hf ρ σ H) {i : Nat} {s : Sl} (e : ρ[i]? = some s) : ∃ v, σ[i]? = some v ∧ SO K B Hf (s :: ρ.set i .nil) (v :: σ) H := by
  obtain ⟨fp, s1, s2, s3⟩ := S.sl
  obtain ⟨v, f1, f2, q1, q2, q3, q4⟩ := s1.take e
  exact ⟨v, q1, S.up, S.sub, S.fr, f1 ++ f2, ⟨v, σ, f1, f2, rfl, rfl, q2, q3⟩, q4.nodup_iff.mp s2, fun a ha => s3 a (q4.mem_iff.mpr ha)⟩
/-- the top is put into an empty slot -/
theorem SO.putSl {s : Sl} {v : Option V} {i : Nat} (S : SO K B Hf (s :: ρ) (v :: σ) H) (e : ρ[i]? = some .nil) : SO K B Hf (ρ.set i s) (σ.set i v) H := by
  obtain ⟨fp, ⟨v', σ', f1, f2, e1, e2, h1, h2⟩, s2, s3⟩ := S.sl
  cases e1; subst e2
  obtain ⟨fp, q1, q2⟩ := h2.put e h1
  exact ⟨S.up, S.sub, S.fr, fp, q1, q2.nodup_iff.mpr s2, fun a ha => s3 a (q2.mem_iff.mp ha)⟩
theorem SO.nilSl (S : SO K B Hf ρ σ H) {i : Nat} {s : Sl} (e : ρ[i]? = some s) : SO K B Hf (ρ.set i .nil) σ H := by
  obtain ⟨v, _, q⟩ := S.takeSl e
  exact q.drop
theorem SO.len (S : SO K B Hf ρ σ H) : σ.length = ρ.length := let ⟨_, s, _⟩ := S.sl; s.length
theorem SO.lt (S : SO K B Hf ρ σ H) {i : Nat} {s : Sl} (e : ρ[i]? = some s) : i < ρ.length := (List.getElem?_eq_some_iff.mp e).1

theorem set_self_of {α : Type} : ∀ {l : List α} {i : Nat} {x : α}, l[i]? = some x → l.set i x = l
  | [], _, _, h => by simp at h
  | a :: l, 0, x, h => by simp at h; subst h; rfl
  | a :: l, i + 1, x, h => by
    show a :: l.set i x = a :: l
    rw [set_self_of (i := i) (by simpa using h)]
/-! ### values of expressions -/
inductive VR where
  | fz (d : D) | ow (c : Cn) | bw (i : Nat) | sc (ns : List Int)
/-- what is read: data, or the script -/
inductive SD where
  | d (x : D) | sc (ns : List Int)
abbrev slD : Sl → Option SD
  | .fz d => some (.d d)
  | .ow c => some (.d c.d)
  | .pw _ c => some (.d c.d)
  | .sc ns => some (.sc ns)
  | .nil => none
  | .xa _ => none
abbrev getS : List Sl → Nat → Sl
  | [], _ => .nil
  | s :: _, 0 => s
  | _ :: r, i + 1 => getS r i
abbrev setS : List Sl → Nat → Sl → List Sl
  | [], _, _ => []
  | _ :: r, 0, x => x :: r
  | s :: r, i + 1, x => s :: setS r i x
theorem getS_eq : ∀ {ρ : List Sl} {i : Nat} {s : Sl}, getS ρ i = s → s ≠ .nil → ρ[i]? = some s
  | [], _, _, h, n => absurd h.symm n
  | s :: _, 0, _, h, _ => congrArg some h
  | _ :: r, i + 1, s, h, n => by simpa using getS_eq (ρ := r) (i := i) h n
theorem setS_eq : ∀ (ρ : List Sl) (i : Nat) (s : Sl), setS ρ i s = ρ.set i s
  | [], _, _ => rfl
  | _ :: _, 0, _ => rfl
  | s :: r, i + 1, x => congrArg (s :: ·) (setS_eq r i x)
abbrev peek : VR → List Sl → Option SD
  | .fz d, _ => some (.d d)
  | .ow c, _ => some (.d c.d)
  | .sc ns, _ => some (.sc ns)
  | .bw i, ρ => slD (getS ρ i)
/-- a fresh list that is only read is frozen -/
abbrev stl : VR → VR
  | .ow c => .fz c.d
  | r => r
def EV (K : PySem.W.Frag) (B : Bs) (ρ : List Sl) (σ : L2.St) (H : Hp) : VR → V → Prop
  | .fz d, v => ∃ Hf, SO K B Hf ρ σ H ∧ Rep K Hf v d
  | .ow c, v => ∃ Hf, SO K B Hf (.ow c :: ρ) (some v :: σ) H
  | .bw i, v => (∃ Hf, SO K B Hf ρ σ H) ∧ σ[i]? = some (some v)
  | .sc ns, v => ∃ Hf a, SO K B Hf ρ σ H ∧ v = .ref a ∧ SqL K Hf a (ns.map V.int)
/-- a settled value, whatever the owned lists do -/
def HV (K : PySem.W.Frag) (Hf : Hp) (σ : L2.St) : VR → V → Prop
  | .fz d, v => Rep K Hf v d
  | .ow _, _ => False
  | .bw i, v => σ[i]? = some (some v)
  | .sc ns, v => ∃ a, v = .ref a ∧ SqL K Hf a (ns.map V.int)
theorem HV.mono {r : VR} {v : V} (e : Same Hf Hf') (h : HV K Hf σ r v) : HV K Hf' σ r v := by
  cases r with
  | fz d => exact Rep.same e h
  | ow c => exact h
  | bw i => exact h
  | sc ns => obtain ⟨a, e1, h⟩ := h; exact ⟨a, e1, e.seq h⟩
theorem EV.settle {r : VR} {v : V} (h : EV K B ρ σ H r v) : ∃ Hf, SO K B Hf ρ σ H ∧ HV K Hf σ (stl r) v := by
  cases r with
  | fz d => exact h
  | ow c =>
    obtain ⟨Hf, S⟩ := h
    obtain ⟨Hf', x, e, _, S', q⟩ := S.freeze
    cases e
    exact ⟨Hf', S', q⟩
  | bw i => obtain ⟨⟨Hf, S⟩, e⟩ := h; exact ⟨Hf, S, e⟩
  | sc ns => obtain ⟨Hf, a, S, e, q⟩ := h; exact ⟨Hf, S, a, e, q⟩
/-- what a reading rule is given: the items of a sequence are frozen -/
def RepS (K : PySem.W.Frag) (Hf H : Hp) (v : V) : SD → Prop
  | .d (.list ds) => ∃ a vs, v = .ref a ∧ H a = some (.lst vs) ∧ Reps K Hf vs ds ∧ ds.length ≤ sizeLine
  | .d d => Rep K Hf v d
  | .sc ns => ∃ a, v = .ref a ∧ SqL K H a (ns.map V.int)
theorem RepS.of (e : Same Hf H) {v : V} {d : D} (h : Rep K Hf v d) : RepS K Hf H v (.d d) := by
  cases h with
  | non => exact .non
  | bl b => exact .bl b
  | int i => exact .int i
  | str x => exact .str x
  | lst h r z => exact ⟨_, _, rfl, e _ _ h, r, z⟩
  | tup h r z => exact .tup h r z
  | ex h => exact .ex h
theorem RepS.rep (e : Same Hf H) {v : V} {d : D} (h : RepS K Hf H v (.d d)) : Rep K H v d := by
  cases d with
  | list ds => obtain ⟨a, vs, rfl, h, r, z⟩ := h; exact .lst h (r.same e) z
  | tuple ds => exact Rep.same e h
  | none => exact Rep.same e h
  | bool b => exact Rep.same e h
  | int i => exact Rep.same e h
  | str x => exact Rep.same e h
  | dict kvs => exact Rep.same e h
theorem RepS.own {c : Cn} {a : Addr} {fp : List Addr} (h : OwnR K Hf H c a fp) : RepS K Hf H (.ref a) (.d c.d) := by
  cases c with
  | l ds => obtain ⟨_, z, vs, h1, h2⟩ := h; exact ⟨a, vs, rfl, h1, h2, z⟩
theorem SO.get (S : SO K B Hf ρ σ H) {i : Nat} {s : Sl} (e : ρ[i]? = some s) : ∃ v fp, σ[i]? = some v ∧ SlO K Hf H s v fp := by
  obtain ⟨fp, s1, _, _⟩ := S.sl
  obtain ⟨v, f1, f2, q1, q2, _⟩ := s1.take e
  exact ⟨v, f1, q1, q2⟩
theorem HV.peek {r : VR} {v : V} {x : SD} (S : SO K B Hf ρ σ H) (h : HV K Hf σ r v) (e : DL.peek r ρ = some x) : RepS K Hf H v x := by
  cases r with
  | fz d => cases e; exact RepS.of S.sub h
  | ow c => exact h.elim
  | sc ns =>
    cases e
    obtain ⟨a, e1, h⟩ := h
    exact ⟨a, e1, S.sub.seq h⟩
  | bw i =>
    have e : slD (getS ρ i) = some x := e
    have h : σ[i]? = some (some v) := h
    generalize hs : getS ρ i = s at e
    cases s with
    | nil => cases e
    | xa a => cases e
    | fz d =>
      cases e
      obtain ⟨w, fp, e1, e2, y, e3, q⟩ := S.get (getS_eq hs (fun z => nomatch z))
      rw [h] at e1; cases e1; cases e3
      exact RepS.of S.sub q
    | ow c =>
      cases e
      obtain ⟨w, fp, e1, a, e3, q⟩ := S.get (getS_eq hs (fun z => nomatch z))
      rw [h] at e1; cases e1; cases e3
      exact RepS.own q
    | pw a c =>
      cases e
      obtain ⟨w, fp, e1, e3, q⟩ := S.get (getS_eq hs (fun z => nomatch z))
      rw [h] at e1; cases e1; cases e3
      exact RepS.own q
    | sc ns =>
      cases e
      obtain ⟨w, fp, e1, e2, a, e3, q⟩ := S.get (getS_eq hs (fun z => nomatch z))
      rw [h] at e1; cases e1; cases e3
      exact ⟨a, rfl, S.sub.seq q⟩
/-- a value is kept for good: frozen -/
abbrev frz (r : VR) (ρ : List Sl) (Q : D → List Sl → Prop) : Prop := match r with
  | .fz d => Q d ρ
  | .ow c => Q c.d ρ
  | .sc _ => False
  | .bw i => match getS ρ i with
    | .ow c => Q c.d (setS ρ i (.fz c.d))
    | .fz d => Q d ρ
    | _ => False
theorem EV.frz {r : VR} {v : V} {Q : D → List Sl → Prop} (h : EV K B ρ σ H r v) (q : frz r ρ Q) : ∃ Hf d ρ', SO K B Hf ρ' σ H ∧ Rep K Hf v d ∧ Q d ρ' := by
  cases r with
  | fz d => obtain ⟨Hf, S, p⟩ := h; exact ⟨Hf, d, ρ, S, p, q⟩
  | ow c =>
    obtain ⟨Hf, S⟩ := h
    obtain ⟨Hf', x, e, _, S', p⟩ := S.freeze
    cases e
    exact ⟨Hf', c.d, ρ, S', p, q⟩
  | sc ns => exact q.elim
  | bw i =>
    obtain ⟨⟨Hf, S⟩, e⟩ := h
    unfold DL.frz at q
    dsimp only at q
    generalize hs : getS ρ i = s at q
    cases s with
    | nil => exact q.elim
    | xa a => exact q.elim
    | pw a c => exact q.elim
    | sc ns => exact q.elim
    | fz d =>
      obtain ⟨w, fp, e1, e2, y, e3, p⟩ := S.get (getS_eq hs (fun z => nomatch z))
      rw [e] at e1; cases e1; cases e3
      exact ⟨Hf, d, ρ, S, p, q⟩
    | ow c =>
      have hi := getS_eq hs (fun z => nomatch z)
      obtain ⟨w, e1, S1⟩ := S.takeSl hi
      rw [e] at e1; cases e1
      obtain ⟨Hf', x, e2, _, S2, p⟩ := S1.freeze
      cases e2
      refine ⟨Hf', c.d, setS ρ i (.fz c.d), ?_, p, q⟩
      have lt := S.lt hi
      have S3 : SO K B Hf' (.fz c.d :: ρ.set i .nil) (some v :: σ) H := by
        obtain ⟨fp, s1, s2, s3⟩ := S2.sl
        exact ⟨S2.up, S2.sub, S2.fr, fp, ⟨some v, σ, [], fp, rfl, rfl, ⟨rfl, v, rfl, p⟩, s1⟩, s2, s3⟩
      have S4 := S3.putSl (i := i) (by rw [List.getElem?_set_self lt])
      have e3 : σ.set i (some v) = σ := set_self_of e
      rw [List.set_set, e3] at S4
      rw [setS_eq]
      exact S4
end
end DL
set_option Elab.async false
set_option linter.all false
set_option maxRecDepth 100000
set_option maxHeartbeats 1000000
/-! DLb: expressions over data. -/
namespace DL
open PySem PySem.Spec PyProof.Rows L2

abbrev XD := Addr → List Sl → Prop
abbrev DE := List Sl → (VR → List Sl → Prop) → XD → Prop
abbrev DT := List Sl → (Bool → List Sl → Prop) → XD → Prop
abbrev DA := List Sl → (List VR → List Sl → Prop) → XD → Prop
abbrev DF := List Sl → (List D → List Sl → Prop) → XD → Prop

/-- what is wished of an exception, by data -/
def XL (K : PySem.W.Frag) (B : Bs) (W : WX) (E : XD) : Prop := ∀ C ρ σ H Hf, E C ρ → SO K B Hf ρ σ H → W (.ref C) none σ H
theorem XL.up {K : PySem.W.Frag} {B : Bs} {W : WX} {E : XD} {Hf : Hp} (x : XL K B W E) (S : Same B.hf Hf) : XL K (B.up Hf) W E := fun C ρ σ H Hf' e S' => x C ρ σ H Hf' e (S'.base S)

def Sem1 (K : PySem.W.Frag) (W : WX) (te : TE) (t : DE) : Prop := ∀ B Hf ρ σ H (Q : VK) Qd Ed, SO K B Hf ρ σ H → t ρ Qd Ed → (∀ r ρ' H' v, Qd r ρ' → EV K B ρ' σ H' r v → Q v H') → XL K B W Ed → te σ H Q
structure PD (X : Cx) (W : WX) (e : Expr) (t : DE) : Prop where
  ex : ∃ te, PE X e te ∧ Sem1 X.K W te t
def SemT (K : PySem.W.Frag) (W : WX) (te : TT) (t : DT) : Prop := ∀ B Hf ρ σ H (Q : Bool → Hp → Prop) Qd Ed, SO K B Hf ρ σ H → t ρ Qd Ed → (∀ b ρ' H' Hf', Qd b ρ' → SO K B Hf' ρ' σ H' → Q b H') → XL K B W Ed → te σ H Q
structure PTD (X : Cx) (W : WX) (e : Expr) (t : DT) : Prop where
  ex : ∃ te, PT X e te ∧ SemT X.K W te t
structure PWD (X : Cx) (W : WX) (e : Expr) (t : DT) : Prop where
  ex : ∃ te, PW X e te ∧ SemT X.K W te t
def HVs (K : PySem.W.Frag) (Hf : Hp) (σ : L2.St) : List VR → List V → Prop := Paired (HV K Hf σ)
def SemA (K : PySem.W.Frag) (W : WX) (ta : TA) (n : Nat) (t : DA) : Prop := ∀ B Hf ρ σ H (Q : List V → Hp → Prop) Qd Ed, SO K B Hf ρ σ H → t ρ Qd Ed → (∀ rs ρ' H' Hf' vs, Qd rs ρ' → SO K B Hf' ρ' σ H' → HVs K Hf' σ rs vs → vs.length = n → Q vs H') → XL K B W Ed → ta σ H Q
structure PAD (X : Cx) (W : WX) (es : List Expr) (t : DA) : Prop where
  ex : ∃ ta, PA X es ta ∧ SemA X.K W ta es.length t
def SemF (K : PySem.W.Frag) (W : WX) (ta : TA) (n : Nat) (t : DF) : Prop := ∀ B Hf ρ σ H (Q : List V → Hp → Prop) Qd Ed, SO K B Hf ρ σ H → t ρ Qd Ed → (∀ ds ρ' H' Hf' vs, Qd ds ρ' → SO K B Hf' ρ' σ H' → Reps K Hf' vs ds → vs.length = n → Q vs H') → XL K B W Ed → ta σ H Q
structure PFD (X : Cx) (W : WX) (es : List Expr) (t : DF) : Prop where
  ex : ∃ ta, PA X es ta ∧ SemF X.K W ta es.length t

section
variable {X : Cx} {W : WX} {pos : Pos}

/-! ### names, constants -/
abbrev eVar (i : Nat) : DE := fun ρ Q _ => match getS ρ i with
  | .nil => False
  | .xa _ => False
  | .fz d => Q (.fz d) ρ
  | .ow _ => Q (.bw i) ρ
  | .pw _ _ => Q (.bw i) ρ
  | .sc ns => Q (.sc ns) ρ
theorem sem_var (i : Nat) : Sem1 X.K W (tVar i) (eVar i) := by
  intro B Hf ρ σ H Q Qd Ed S h hQ hE
  unfold eVar at h
  generalize hs : getS ρ i = s at h
  cases s with
  | nil => exact h.elim
  | xa a => exact h.elim
  | fz d =>
    obtain ⟨w, fp, e1, e2, y, e3, q⟩ := S.get (getS_eq hs (fun z => nomatch z))
    subst e3
    exact ⟨y, e1, hQ _ _ _ _ h ⟨Hf, S, q⟩⟩
  | ow c =>
    obtain ⟨w, fp, e1, a, e3, q⟩ := S.get (getS_eq hs (fun z => nomatch z))
    subst e3
    exact ⟨.ref a, e1, hQ _ _ _ _ h ⟨⟨Hf, S⟩, e1⟩⟩
  | pw a c =>
    obtain ⟨w, fp, e1, e3, q⟩ := S.get (getS_eq hs (fun z => nomatch z))
    subst e3
    exact ⟨.ref a, e1, hQ _ _ _ _ h ⟨⟨Hf, S⟩, e1⟩⟩
  | sc ns =>
    obtain ⟨w, fp, e1, e2, a, e3, q⟩ := S.get (getS_eq hs (fun z => nomatch z))
    subst e3
    exact ⟨.ref a, e1, hQ _ _ _ _ h ⟨Hf, a, S, rfl, q⟩⟩
theorem pd_var (i : Nat) {x : Str} (hN : X.N[i]? = some x := by rfl) (hv : Vis X.env.scope x := by first | exact Or.inl rfl | exact Or.inr (Or.inl rfl) | exact Or.inr (Or.inr rfl)) (hd : (x == ("__debug__" : Str)) = false := by decide)
    (hcd : (x == ("__classdict__" : Str)) = false := by decide) : PD X W (.Name x pos) (eVar i) := ⟨_, pv i hN hv hd hcd, sem_var i⟩
abbrev eC (d : D) : DE := fun ρ Q _ => Q (.fz d) ρ
theorem sem_c {v : V} {d : D} (h : ∀ H, Rep X.K H v d) : Sem1 X.K W (tC v) (eC d) := fun B Hf ρ σ H Q Qd Ed S q hQ _ => hQ _ _ _ _ q ⟨Hf, S, h Hf⟩
theorem pd_int {i j} : PD X W (.Constant (.int i) j pos) (eC (.int i)) := ⟨_, pe_int, sem_c fun _ => .int _⟩
theorem pd_bl {b j} : PD X W (.Constant (.bool b) j pos) (eC (.bool b)) := ⟨_, pe_bl, sem_c fun _ => .bl _⟩
theorem pd_non {j} : PD X W (.Constant .none j pos) (eC .none) := ⟨_, pe_non, sem_c fun _ => .non⟩
theorem pd_str {x j} : PD X W (.Constant (.str x) j pos) (eC (.str x)) := ⟨_, pe_str, sem_c fun _ => .str _⟩
/-- a module's constant -/
theorem pd_glob {x : Str} {v : V} {u : Value} {d : D} (hg : Gl X x) (hm : X.mg x = some u) (r : RelV v u) (h : ∀ H, Rep X.K H v d) (hd : (x == ("__debug__" : Str)) = false := by decide) : PD X W (.Name x pos) (eC d) := ⟨_, pe_glob hg hm r hd, sem_c h⟩

/-! ### two operands -/
abbrev DE2 := SD → SD → (VR → Prop) → Prop
abbrev pk2 (x y : VR) (ρ : List Sl) (k : SD → SD → Prop) : Prop := match peek x ρ, peek y ρ with
  | some a, some b => k a b
  | _, _ => False
abbrev eOp (rd : DE2) (ta tb : DE) : DE := fun ρ Q E => ta ρ (fun x ρ1 => tb ρ1 (fun y ρ2 => pk2 (stl x) (stl y) ρ2 fun a b => rd a b fun z => Q z ρ2) E) E
def Conn (K : PySem.W.Frag) (r : R2) (rd : DE2) : Prop := ∀ B Hf ρ σ H x y a b (Q : VK) Qd, SO K B Hf ρ σ H → RepS K Hf H x a → RepS K Hf H y b → rd a b Qd → (∀ z H' v, Qd z → EV K B ρ σ H' z v → Q v H') → r x y H Q
theorem pk2_of {x y : VR} {ρ : List Sl} {k : SD → SD → Prop} (h : pk2 x y ρ k) : ∃ a b, peek x ρ = some a ∧ peek y ρ = some b ∧ k a b := by
  unfold pk2 at h
  cases e1 : peek x ρ with
  | none => rw [e1] at h; exact h.elim
  | some a =>
    cases e2 : peek y ρ with
    | none => rw [e1, e2] at h; exact h.elim
    | some b => rw [e1, e2] at h; exact ⟨a, b, rfl, rfl, h⟩
theorem sem_op {r : R2} {rd : DE2} {te tf : TE} {ta tb : DE} (c : Conn X.K r rd) (ha : Sem1 X.K W te ta) (hb : Sem1 X.K W tf tb) : Sem1 X.K W (tOp r te tf) (eOp rd ta tb) := by
  intro B Hf ρ σ H Q Qd Ed S h hQ hE
  refine ha B Hf ρ σ H _ _ Ed S h (fun r1 ρ1 H1 v1 q1 e1 => ?_) hE
  obtain ⟨Hf1, S1, h1⟩ := e1.settle
  refine hb (B.up Hf1) Hf1 ρ1 σ H1 _ _ Ed S1.raise q1 (fun r2 ρ2 H2 v2 q2 e2 => ?_) (hE.up S1.up)
  obtain ⟨Hf2, S2, h2⟩ := e2.settle
  have S3 := S2.base S1.up
  obtain ⟨a, b, p1, p2, q⟩ := pk2_of q2
  exact c B Hf2 ρ2 σ H2 v1 v2 a b Q _ S3 ((h1.mono S2.up).peek S3 p1) (h2.peek S3 p2) q fun z H' v qz ez => hQ z ρ2 H' v qz ez
theorem pd_bin {op : Operator} {r : R2} {rd : DE2} {a b : Expr} {ta tb : DE} (ho : OpR X (binaryOp op) r) (c : Conn X.K r rd) (ha : PD X W a ta) (hb : PD X W b tb) : PD X W (.BinOp a op b pos) (eOp rd ta tb) := by
  obtain ⟨te, pa, sa⟩ := ha
  obtain ⟨tf, pb, sb⟩ := hb
  exact ⟨_, pe_op ho pa pb, sem_op c sa sb⟩
theorem pd_cmp {op : CmpOp} {r : R2} {rd : DE2} {a b : Expr} {ta tb : DE} (ho : OpR X (compareOp op) r) (c : Conn X.K r rd) (ha : PD X W a ta) (hb : PD X W b tb) (hm : behindInMarks op b = false) : PD X W (.Compare a [op] [b] pos) (eOp rd ta tb) := by
  obtain ⟨te, pa, sa⟩ := ha
  obtain ⟨tf, pb, sb⟩ := hb
  exact ⟨_, pe_cmpR ho pa pb hm, sem_op c sa sb⟩
theorem pd_ix {r : R2} {rd : DE2} {a b : Expr} {ta tb : DE} (ho : IxR X r) (c : Conn X.K r rd) (ha : PD X W a ta) (hb : PD X W b tb) (hs : PlainIx b) : PD X W (.Subscript a b pos) (eOp rd ta tb) := by
  obtain ⟨te, pa, sa⟩ := ha
  obtain ⟨tf, pb, sb⟩ := hb
  exact ⟨_, pe_ix ho pa pb hs, sem_op c sa sb⟩
theorem OpR.or {f : Value → Value → Sem Value} {r r' : R2} (h : OpR X f r) (h' : OpR X f r') : OpR X f (fun x y H Q => r x y H Q ∨ r' x y H Q) := by
  intro pins s σ H x y v u Q I rx ry q
  rcases q with q | q
  · exact h pins s σ H x y v u Q I rx ry q
  · exact h' pins s σ H x y v u Q I rx ry q
theorem Conn.inl {K : PySem.W.Frag} {r r' : R2} {rd : DE2} (h : Conn K r rd) : Conn K (fun x y H Q => r x y H Q ∨ r' x y H Q) rd := fun B Hf ρ σ H x y a b Q Qd S ra rb q k => .inl (h B Hf ρ σ H x y a b Q Qd S ra rb q k)

/-! ### one operand -/
abbrev DE1 := SD → (VR → Prop) → Prop
abbrev eUn (rd : DE1) (ta : DE) : DE := fun ρ Q E => ta ρ (fun x ρ1 => match peek (stl x) ρ1 with | some a => rd a fun z => Q z ρ1 | none => False) E
def Conn1 (K : PySem.W.Frag) (r : V → Hp → VK → Prop) (rd : DE1) : Prop := ∀ B Hf ρ σ H x a (Q : VK) Qd, SO K B Hf ρ σ H → RepS K Hf H x a → rd a Qd → (∀ z H' v, Qd z → EV K B ρ σ H' z v → Q v H') → r x H Q
theorem sem_un {r : V → Hp → VK → Prop} {rd : DE1} {te : TE} {ta : DE} (c : Conn1 X.K r rd) (ha : Sem1 X.K W te ta) : Sem1 X.K W (tUn r te) (eUn rd ta) := by
  intro B Hf ρ σ H Q Qd Ed S h hQ hE
  refine ha B Hf ρ σ H _ _ Ed S h (fun r1 ρ1 H1 v1 q1 e1 => ?_) hE
  obtain ⟨Hf1, S1, h1⟩ := e1.settle
  cases p : peek (stl r1) ρ1 with
  | none => rw [p] at q1; exact q1.elim
  | some a =>
    rw [p] at q1
    exact c B Hf1 ρ1 σ H1 v1 a Q _ S1 (h1.peek S1 p) q1 fun z H' v qz ez => hQ z ρ1 H' v qz ez
theorem pd_un {op : UnaryOp} {r : V → Hp → VK → Prop} {rd : DE1} {a : Expr} {ta : DE} (ho : UnR X (unaryOp op) r) (c : Conn1 X.K r rd) (ha : PD X W a ta) : PD X W (.UnaryOp op a pos) (eUn rd ta) := by
  obtain ⟨te, pa, sa⟩ := ha
  exact ⟨_, pe_un ho pa, sem_un c sa⟩

/-! ### tests -/
abbrev dB (t : DE) : DT := fun ρ Q E => t ρ (fun r ρ1 => match peek (stl r) ρ1 with | some (.d (.bool b)) => Q b ρ1 | _ => False) E
theorem sem_b {te : TE} {t : DE} (ha : Sem1 X.K W te t) : SemT X.K W (tB te) (dB t) := by
  intro B Hf ρ σ H Q Qd Ed S h hQ hE
  refine ha B Hf ρ σ H _ _ Ed S h (fun r1 ρ1 H1 v1 q1 e1 => ?_) hE
  obtain ⟨Hf1, S1, h1⟩ := e1.settle
  cases p : peek (stl r1) ρ1 with
  | none => rw [p] at q1; exact q1.elim
  | some a =>
    rw [p] at q1
    have R := h1.peek S1 p
    cases a with
    | sc ns => exact q1.elim
    | d d =>
      cases d with
      | bool b =>
        have R : Rep X.K Hf1 v1 (.bool b) := R
        cases R
        exact ⟨b, rfl, hQ b ρ1 H1 Hf1 q1 S1⟩
      | _ => exact q1.elim
theorem ptd_val {e : Expr} {t : DE} (ha : PD X W e t) (he : ∀ whole, isTrue e X.env whole = (do let v ← whole; standAt e.pos; holding [v] (truthy v)) := by intro _; rfl) : PTD X W e (dB t) := by
  obtain ⟨te, pa, sa⟩ := ha
  exact ⟨_, pt_val pa he, sem_b sa⟩
theorem ptd_cmp {op : CmpOp} {r : R2} {rd : DE2} {a b : Expr} {ta tb : DE} (ho : OpR X (compareOp op) r) (c : Conn X.K r rd) (ha : PD X W a ta) (hb : PD X W b tb) (hm : behindInMarks op b = false) : PTD X W (.Compare a [op] [b] pos) (dB (eOp rd ta tb)) := by
  obtain ⟨te, pa, sa⟩ := ha
  obtain ⟨tf, pb, sb⟩ := hb
  exact ⟨_, pt_cmpR ho pa pb hm, sem_b (sem_op c sa sb)⟩
abbrev dAnd (t u : DT) : DT := fun ρ Q E => t ρ (fun b ρ1 => if b = true then u ρ1 Q E else Q false ρ1) E
abbrev dOr (t u : DT) : DT := fun ρ Q E => t ρ (fun b ρ1 => if b = true then Q true ρ1 else u ρ1 Q E) E
abbrev dNot (t : DT) : DT := fun ρ Q E => t ρ (fun b ρ1 => Q (!b) ρ1) E
theorem sem_and {te tf : TT} {t u : DT} (ha : SemT X.K W te t) (hb : SemT X.K W tf u) : SemT X.K W (tAnd te tf) (dAnd t u) := by
  intro B Hf ρ σ H Q Qd Ed S h hQ hE
  refine ha B Hf ρ σ H _ _ Ed S h (fun b ρ1 H1 Hf1 q1 S1 => ?_) hE
  cases b with
  | true => exact hb B Hf1 ρ1 σ H1 Q Qd Ed S1 q1 hQ hE
  | false => exact hQ _ _ _ _ q1 S1
theorem sem_or {te tf : TT} {t u : DT} (ha : SemT X.K W te t) (hb : SemT X.K W tf u) : SemT X.K W (tOr te tf) (dOr t u) := by
  intro B Hf ρ σ H Q Qd Ed S h hQ hE
  refine ha B Hf ρ σ H _ _ Ed S h (fun b ρ1 H1 Hf1 q1 S1 => ?_) hE
  cases b with
  | false => exact hb B Hf1 ρ1 σ H1 Q Qd Ed S1 q1 hQ hE
  | true => exact hQ _ _ _ _ q1 S1
theorem sem_not {te : TT} {t : DT} (ha : SemT X.K W te t) : SemT X.K W (tNot te) (dNot t) := by
  intro B Hf ρ σ H Q Qd Ed S h hQ hE
  exact ha B Hf ρ σ H _ _ Ed S h (fun b ρ1 H1 Hf1 q1 S1 => hQ _ _ _ _ q1 S1) hE
theorem pwd_and1 {a : Expr} {t : DT} (ha : PTD X W a t) : PWD X W (.BoolOp .And [a] pos) t := let ⟨_, p, s⟩ := ha; ⟨_, pw_and1 p, s⟩
theorem pwd_or1 {a : Expr} {t : DT} (ha : PTD X W a t) : PWD X W (.BoolOp .Or [a] pos) t := let ⟨_, p, s⟩ := ha; ⟨_, pw_or1 p, s⟩
theorem pwd_and {a b : Expr} {rest : List Expr} {t u : DT} (ha : PTD X W a t) (hb : PWD X W (.BoolOp .And (b :: rest) pos) u) : PWD X W (.BoolOp .And (a :: b :: rest) pos) (dAnd t u) := let ⟨_, p, s⟩ := ha; let ⟨_, p', s'⟩ := hb; ⟨_, pw_and p p', sem_and s s'⟩
theorem pwd_or {a b : Expr} {rest : List Expr} {t u : DT} (ha : PTD X W a t) (hb : PWD X W (.BoolOp .Or (b :: rest) pos) u) : PWD X W (.BoolOp .Or (a :: b :: rest) pos) (dOr t u) := let ⟨_, p, s⟩ := ha; let ⟨_, p', s'⟩ := hb; ⟨_, pw_or p p', sem_or s s'⟩
theorem PWD.pt {e : Expr} {t : DT} (h : PWD X W e t) : PTD X W e t := let ⟨_, p, s⟩ := h; ⟨_, p.pt, s⟩
theorem ptd_not {a : Expr} {t : DT} (ha : PTD X W a t) : PTD X W (.UnaryOp .Not a pos) (dNot t) := let ⟨_, p, s⟩ := ha; ⟨_, pt_not p, sem_not s⟩
/-- and, or, not as values of bools -/
abbrev eAnd (ta tb : DE) : DE := fun ρ Q E => ta ρ (fun r ρ1 => match peek (stl r) ρ1 with | some (.d (.bool b)) => (if b = true then tb ρ1 Q E else Q (.fz (.bool false)) ρ1) | _ => False) E
abbrev eOr (ta tb : DE) : DE := fun ρ Q E => ta ρ (fun r ρ1 => match peek (stl r) ρ1 with | some (.d (.bool b)) => (if b = true then Q (.fz (.bool true)) ρ1 else tb ρ1 Q E) | _ => False) E
abbrev eNot (ta : DE) : DE := fun ρ Q E => ta ρ (fun r ρ1 => match peek (stl r) ρ1 with | some (.d (.bool b)) => Q (.fz (.bool (!b))) ρ1 | _ => False) E
theorem bool_of {K : PySem.W.Frag} {B : Bs} {Hf H : Hp} {ρ : List Sl} {σ : L2.St} {r : VR} {v : V} {P : Bool → Prop} (S : SO K B Hf ρ σ H) (h : HV K Hf σ (stl r) v) (q : match peek (stl r) ρ with | some (.d (.bool b)) => P b | _ => False) : ∃ b, v = .bl b ∧ P b := by
  cases p : peek (stl r) ρ with
  | none => rw [p] at q; exact q.elim
  | some a =>
    rw [p] at q
    have R := h.peek S p
    cases a with
    | sc ns => exact q.elim
    | d d =>
      cases d with
      | bool b =>
        have R : Rep K Hf v (.bool b) := R
        cases R
        exact ⟨b, rfl, q⟩
      | _ => exact q.elim
theorem pd_one {op} {a : Expr} {t : DE} (h : PD X W a t) : PD X W (.BoolOp op [a] pos) t := let ⟨_, p, s⟩ := h; ⟨_, pe_one p, s⟩
theorem pd_and {a b : Expr} {rest : List Expr} {ta tb : DE} (ha : PD X W a ta) (hb : PD X W (.BoolOp .And (b :: rest) pos) tb) : PD X W (.BoolOp .And (a :: b :: rest) pos) (eAnd ta tb) := by
  obtain ⟨te, pa, sa⟩ := ha
  obtain ⟨tf, pb, sb⟩ := hb
  refine ⟨_, pe_and pa pb, ?_⟩
  intro B Hf ρ σ H Q Qd Ed S h hQ hE
  refine sa B Hf ρ σ H _ _ Ed S h (fun r1 ρ1 H1 v1 q1 e1 => ?_) hE
  obtain ⟨Hf1, S1, h1⟩ := e1.settle
  obtain ⟨b, rfl, q⟩ := bool_of S1 h1 q1
  refine ⟨b, rfl, ?_⟩
  cases b with
  | true => exact sb B Hf1 ρ1 σ H1 Q Qd Ed S1 q hQ hE
  | false => exact hQ _ _ _ _ q ⟨Hf1, S1, .bl _⟩
theorem pd_or {a b : Expr} {rest : List Expr} {ta tb : DE} (ha : PD X W a ta) (hb : PD X W (.BoolOp .Or (b :: rest) pos) tb) : PD X W (.BoolOp .Or (a :: b :: rest) pos) (eOr ta tb) := by
  obtain ⟨te, pa, sa⟩ := ha
  obtain ⟨tf, pb, sb⟩ := hb
  refine ⟨_, pe_or pa pb, ?_⟩
  intro B Hf ρ σ H Q Qd Ed S h hQ hE
  refine sa B Hf ρ σ H _ _ Ed S h (fun r1 ρ1 H1 v1 q1 e1 => ?_) hE
  obtain ⟨Hf1, S1, h1⟩ := e1.settle
  obtain ⟨b, rfl, q⟩ := bool_of S1 h1 q1
  refine ⟨b, rfl, ?_⟩
  cases b with
  | false => exact sb B Hf1 ρ1 σ H1 Q Qd Ed S1 q hQ hE
  | true => exact hQ _ _ _ _ q ⟨Hf1, S1, .bl _⟩
theorem pd_not {a : Expr} {ta : DE} (ha : PD X W a ta) : PD X W (.UnaryOp .Not a pos) (eNot ta) := by
  obtain ⟨te, pa, sa⟩ := ha
  refine ⟨_, pe_not pa, ?_⟩
  intro B Hf ρ σ H Q Qd Ed S h hQ hE
  refine sa B Hf ρ σ H _ _ Ed S h (fun r1 ρ1 H1 v1 q1 e1 => ?_) hE
  obtain ⟨Hf1, S1, h1⟩ := e1.settle
  obtain ⟨b, rfl, q⟩ := bool_of S1 h1 q1
  exact ⟨b, rfl, hQ _ _ _ _ q ⟨Hf1, S1, .bl _⟩⟩
abbrev eIf (t : DT) (ta tb : DE) : DE := fun ρ Q E => t ρ (fun b ρ1 => if b = true then ta ρ1 Q E else tb ρ1 Q E) E
theorem pd_ifExp {c a b : Expr} {t : DT} {ta tb : DE} (hc : PTD X W c t) (ha : PD X W a ta) (hb : PD X W b tb) : PD X W (.IfExp c a b pos) (eIf t ta tb) := by
  obtain ⟨te, pa, sa⟩ := ha
  obtain ⟨tf, pb, sb⟩ := hb
  obtain ⟨tc, pc, sc⟩ := hc
  refine ⟨_, pe_ifExp pc pa pb, ?_⟩
  intro B Hf ρ σ H Q Qd Ed S h hQ hE
  refine sc B Hf ρ σ H _ _ Ed S h (fun b ρ1 H1 Hf1 q1 S1 => ?_) hE
  cases b with
  | true => exact sa B Hf1 ρ1 σ H1 Q Qd Ed S1 q1 hQ hE
  | false => exact sb B Hf1 ρ1 σ H1 Q Qd Ed S1 q1 hQ hE

/-! ### arguments that are read -/
abbrev aNil : DA := fun ρ Q _ => Q [] ρ
abbrev aCons (te : DE) (ta : DA) : DA := fun ρ Q E => te ρ (fun r ρ1 => ta ρ1 (fun rs ρ2 => Q (stl r :: rs) ρ2) E) E
theorem pad_nil : PAD X W [] aNil := ⟨_, pa_nil, fun B Hf ρ σ H Q Qd Ed S h hQ hE => hQ _ _ _ _ _ h S .nil rfl⟩
theorem pad_cons {e : Expr} {es : List Expr} {te : DE} {ta : DA} (he : PD X W e te) (ha : PAD X W es ta) (hs : starEach (e :: es) X.env = (false, eval e X.env) :: starEach es X.env := by rfl) : PAD X W (e :: es) (aCons te ta) := by
  obtain ⟨t1, p1, s1⟩ := he
  obtain ⟨t2, p2, s2⟩ := ha
  refine ⟨_, pa_cons p1 p2 hs, ?_⟩
  intro B Hf ρ σ H Q Qd Ed S h hQ hE
  refine s1 B Hf ρ σ H _ _ Ed S h (fun r1 ρ1 H1 v1 q1 e1 => ?_) hE
  obtain ⟨Hf1, S1, h1⟩ := e1.settle
  refine s2 (B.up Hf1) Hf1 ρ1 σ H1 _ _ Ed S1.raise q1 (fun rs ρ2 H2 Hf2 vs q2 S2 h2 l2 => ?_) (hE.up S1.up)
  exact hQ _ _ _ _ _ q2 (S2.base S1.up) (.cons (h1.mono S2.up) h2) (congrArg (· + 1) l2)
abbrev peeks : List VR → List Sl → Option (List SD)
  | [], _ => some []
  | r :: rs, ρ => match peek r ρ, peeks rs ρ with
    | some a, some as => some (a :: as)
    | _, _ => none
abbrev DEn := List SD → (VR → Prop) → Prop
abbrev eCB (rd : DEn) (ta : DA) : DE := fun ρ Q E => ta ρ (fun rs ρ1 => match peeks rs ρ1 with | some as => rd as fun z => Q z ρ1 | none => False) E
def ConnN (K : PySem.W.Frag) (r : List V → Hp → VK → Prop) (rd : DEn) : Prop := ∀ B Hf ρ σ H xs as (Q : VK) Qd, SO K B Hf ρ σ H → Paired (RepS K Hf H) xs as → rd as Qd → (∀ z H' v, Qd z → EV K B ρ σ H' z v → Q v H') → r xs H Q
theorem HVs.peeks {K : PySem.W.Frag} {B : Bs} {Hf H : Hp} {ρ : List Sl} {σ : L2.St} (S : SO K B Hf ρ σ H) : ∀ {rs : List VR} {vs : List V} {as : List SD}, HVs K Hf σ rs vs → DL.peeks rs ρ = some as → Paired (RepS K Hf H) vs as
  | [], _, _, .nil, e => by cases e; exact .nil
  | r :: rs, _, _, .cons h hs, e => by
    unfold DL.peeks at e
    cases e1 : peek r ρ with
    | none => rw [e1] at e; cases e
    | some a =>
      cases e2 : DL.peeks rs ρ with
      | none => rw [e1, e2] at e; cases e
      | some as =>
        rw [e1, e2] at e; cases e
        exact .cons (h.peek S e1) (HVs.peeks S hs e2)
theorem sem_cb {r : List V → Hp → VK → Prop} {rd : DEn} {te : TA} {ta : DA} {n : Nat} (c : ConnN X.K r rd) (ha : SemA X.K W te n ta) : Sem1 X.K W (tCB r te) (eCB rd ta) := by
  intro B Hf ρ σ H Q Qd Ed S h hQ hE
  refine ha B Hf ρ σ H _ _ Ed S h (fun rs ρ1 H1 Hf1 vs q1 S1 h1 _ => ?_) hE
  cases p : peeks rs ρ1 with
  | none => rw [p] at q1; exact q1.elim
  | some as =>
    rw [p] at q1
    exact c B Hf1 ρ1 σ H1 vs as Q _ S1 (h1.peeks S1 p) q1 fun z H' v qz ez => hQ z ρ1 H' v qz ez
theorem pd_callB {x : Str} {p : Pos} {e : Expr} {es : List Expr} {id : String} {r : List V → Hp → VK → Prop} {rd : DEn} {ta : DA} (hc : CallR X (.builtin id) r) (c : ConnN X.K r rd) (hg : Gl X x) (hm : X.mg x = none) (hv : bootBuiltins x = some (.builtin id)) (ha : PAD X W (e :: es) ta)
    (hn : x ≠ "__name__" := by decide) (hdb : (x == ("__debug__" : Str)) = false := by decide)
    (he : starEach (e :: es) X.env = (false, eval e X.env) :: starEach es X.env := by rfl) (hpl : (backTo pos (starEach es X.env)).any (·.1) = false := by rfl) : PD X W (.Call (.Name x p) (e :: es) [] pos) (eCB rd ta) := by
  obtain ⟨te, pa, sa⟩ := ha
  exact ⟨_, pe_callB hc hg hm hv pa hn hdb he hpl, sem_cb c sa⟩
theorem pd_callTy {x : Str} {p : Pos} {e : Expr} {es : List Expr} {T : String} {r : List V → Hp → VK → Prop} {rd : DEn} {ta : DA} (hc : CallR X (.type T) r) (c : ConnN X.K r rd) (hg : Gl X x) (hm : X.mg x = none) (hv : bootBuiltins x = some (.type T)) (ha : PAD X W (e :: es) ta)
    (hn : x ≠ "__name__" := by decide) (hdb : (x == ("__debug__" : Str)) = false := by decide)
    (he : starEach (e :: es) X.env = (false, eval e X.env) :: starEach es X.env := by rfl) (hpl : (backTo pos (starEach es X.env)).any (·.1) = false := by rfl) : PD X W (.Call (.Name x p) (e :: es) [] pos) (eCB rd ta) := by
  obtain ⟨te, pa, sa⟩ := ha
  exact ⟨_, pe_callTy hc hg hm hv pa hn hdb he hpl, sem_cb c sa⟩

/-! ### items that are kept: displays -/
abbrev fNil : DF := fun ρ Q _ => Q [] ρ
abbrev fCons (te : DE) (ta : DF) : DF := fun ρ Q E => te ρ (fun r ρ1 => frz r ρ1 fun d ρ2 => ta ρ2 (fun ds ρ3 => Q (d :: ds) ρ3) E) E
theorem pfd_nil : PFD X W [] fNil := ⟨_, pa_nil, fun B Hf ρ σ H Q Qd Ed S h hQ hE => hQ _ _ _ _ _ h S .nil rfl⟩
theorem pfd_cons {e : Expr} {es : List Expr} {te : DE} {ta : DF} (he : PD X W e te) (ha : PFD X W es ta) (hs : starEach (e :: es) X.env = (false, eval e X.env) :: starEach es X.env := by rfl) : PFD X W (e :: es) (fCons te ta) := by
  obtain ⟨t1, p1, s1⟩ := he
  obtain ⟨t2, p2, s2⟩ := ha
  refine ⟨_, pa_cons p1 p2 hs, ?_⟩
  intro B Hf ρ σ H Q Qd Ed S h hQ hE
  refine s1 B Hf ρ σ H _ _ Ed S h (fun r1 ρ1 H1 v1 q1 e1 => ?_) hE
  obtain ⟨Hf1, d, ρ2, S1, h1, q⟩ := e1.frz q1
  refine s2 (B.up Hf1) Hf1 ρ2 σ H1 _ _ Ed S1.raise q (fun ds ρ3 H2 Hf2 vs q2 S2 h2 hl => ?_) (hE.up S1.up)
  exact hQ _ _ _ _ _ q2 (S2.base S1.up) (.cons (h1.same S2.up) h2) (congrArg (· + 1) hl)
abbrev eTup (ta : DF) : DE := fun ρ Q E => ta ρ (fun ds ρ1 => Q (.fz (.tuple ds)) ρ1) E
abbrev eLst (ta : DF) : DE := fun ρ Q E => ta ρ (fun ds ρ1 => Q (.ow (.l ds)) ρ1) E
theorem pd_tup {es : List Expr} {x1} {ta : DF} (ha : PFD X W es ta) (hz : es.length ≤ 1000000 := by decide) : PD X W (.Tuple es x1 pos) (eTup ta) := by
  obtain ⟨t1, p1, s1⟩ := ha
  refine ⟨_, pe_tup p1, ?_⟩
  intro B Hf ρ σ H Q Qd Ed S h hQ hE
  refine s1 B Hf ρ σ H _ _ Ed S h (fun ds ρ1 H1 Hf1 vs q1 S1 h1 hl => ?_) hE
  have z : vs.length ≤ sizeLine := by rw [sizeLine_eq]; omega
  refine ⟨z, fun p hp => hQ _ _ _ _ q1 ⟨upd Hf1 p (.tup vs), S1.alloc hp _, .tup (SqT.of upd_same) (h1.same (same_upd (S1.sub.free hp))) (by rw [← h1.length]; exact z)⟩⟩
theorem pd_lst {es : List Expr} {ta : DF} (ha : PFD X W es ta) (hz : es.length ≤ 1000000 := by decide) : PD X W (.List es pos) (eLst ta) := by
  obtain ⟨t1, p1, s1⟩ := ha
  refine ⟨_, pe_lst p1, ?_⟩
  intro B Hf ρ σ H Q Qd Ed S h hQ hE
  refine s1 B Hf ρ σ H _ _ Ed S h (fun ds ρ1 H1 Hf1 vs q1 S1 h1 hl => ?_) hE
  have z : vs.length ≤ sizeLine := by rw [sizeLine_eq]; omega
  exact ⟨z, fun p hp => hQ _ _ _ _ q1 ⟨Hf1, S1.allocL hp h1 (by rw [← h1.length]; exact z)⟩⟩
end
end DL
set_option Elab.async false
set_option linter.all false
set_option maxRecDepth 100000
set_option maxHeartbeats 1000000
/-! DLc: the operators and built-ins over data. -/
namespace DL
open PySem PySem.Spec PyProof.Rows L2
section
variable {X : Cx} {K : PySem.W.Frag}

theorem RepS.int {Hf H : Hp} {v : V} {i : Int} (h : RepS K Hf H v (.d (.int i))) : v = .int i := by
  have h : Rep K Hf v (.int i) := h
  cases h; rfl
theorem RepS.bool {Hf H : Hp} {v : V} {i : Bool} (h : RepS K Hf H v (.d (.bool i))) : v = .bl i := by
  have h : Rep K Hf v (.bool i) := h
  cases h; rfl
theorem RepS.str {Hf H : Hp} {v : V} {i : Str} (h : RepS K Hf H v (.d (.str i))) : v = .str i := by
  have h : Rep K Hf v (.str i) := h
  cases h; rfl
theorem RepS.non {Hf H : Hp} {v : V} (h : RepS K Hf H v (.d .none)) : v = .non := by
  have h : Rep K Hf v .none := h
  cases h; rfl
theorem RepS.tup {Hf H : Hp} {v : V} {ds : List D} (h : RepS K Hf H v (.d (.tuple ds))) : ∃ a vs, v = .ref a ∧ SqT K Hf a vs ∧ Reps K Hf vs ds ∧ ds.length ≤ sizeLine := by
  have q : Rep K Hf v (.tuple ds) := h
  clear h
  cases q with
  | tup h r z => exact ⟨_, _, rfl, h, r, z⟩
theorem ev_fz {B : Bs} {Hf H : Hp} {ρ : List Sl} {σ : L2.St} {v : V} {d : D} (S : SO K B Hf ρ σ H) (h : Rep K Hf v d) : EV K B ρ σ H (.fz d) v := ⟨Hf, S, h⟩

/-! ### whole numbers -/
/-- two ints in, under C, an int or a truth out -/
abbrev dI (C : Int → Int → Prop) (g : Int → Int → D) : DE2
  | .d (.int i), .d (.int j), Q => C i j ∧ Q (.fz (g i j))
  | _, _, _ => False
abbrev dI0 (g : Int → Int → D) : DE2
  | .d (.int i), .d (.int j), Q => Q (.fz (g i j))
  | _, _, _ => False
theorem ints_of {C : Int → Int → Prop} {g : Int → Int → D} {a b : SD} {Q : VR → Prop} (h : dI C g a b Q) : ∃ i j, a = .d (.int i) ∧ b = .d (.int j) ∧ C i j ∧ Q (.fz (g i j)) := by
  cases a with
  | sc _ => exact h.elim
  | d a =>
    cases a with
    | int i =>
      cases b with
      | sc _ => exact h.elim
      | d b =>
        cases b with
        | int j => exact ⟨i, j, rfl, rfl, h.1, h.2⟩
        | _ => exact h.elim
    | _ => exact h.elim
theorem ints_of0 {g : Int → Int → D} {a b : SD} {Q : VR → Prop} (h : dI0 g a b Q) : ∃ i j, a = .d (.int i) ∧ b = .d (.int j) ∧ Q (.fz (g i j)) := by
  cases a with
  | sc _ => exact h.elim
  | d a =>
    cases a with
    | int i =>
      cases b with
      | sc _ => exact h.elim
      | d b =>
        cases b with
        | int j => exact ⟨i, j, rfl, rfl, h⟩
        | _ => exact h.elim
    | _ => exact h.elim
theorem conn_I {C : Int → Int → Prop} {g : Int → Int → V} {g' : Int → Int → D} (hg : ∀ i j H, Rep K H (g i j) (g' i j)) : Conn K (rI C g) (dI C g') := by
  intro B Hf ρ σ H x y a b Q Qd S ra rb q k
  obtain ⟨i, j, rfl, rfl, hc, q⟩ := ints_of q
  exact ⟨i, j, ra.int, rb.int, hc, k _ _ _ q ⟨Hf, S, hg i j Hf⟩⟩
theorem conn_I0 {g : Int → Int → V} {g' : Int → Int → D} (hg : ∀ i j H, Rep K H (g i j) (g' i j)) : Conn K (rI0 g) (dI0 g') := by
  intro B Hf ρ σ H x y a b Q Qd S ra rb q k
  obtain ⟨i, j, rfl, rfl, q⟩ := ints_of0 q
  exact ⟨i, j, ra.int, rb.int, k _ _ _ q ⟨Hf, S, hg i j Hf⟩⟩
abbrev dSub : DE2 := dI0 fun i j => .int (i - j)
abbrev dMul : DE2 := dI CMulW fun i j => .int (i * j)
abbrev dDiv : DE2 := dI CDivW fun i j => .int (i / j)
abbrev dMod : DE2 := dI (fun _ j => 0 < j) fun i j => .int (i % j)
/-- i ** j: j not below 0, the power small -/
def CPowW (i j : Int) : Prop := 0 ≤ j ∧ (Builtin.Int.intBits i : Int) * j ≤ 2 ^ 27
abbrev dPow : DE2 := dI CPowW fun i j => .int (i ^ j.toNat)
abbrev dLt : DE2 := dI0 fun i j => .bool (decide (i < j))
abbrev dLe : DE2 := dI0 fun i j => .bool (decide (i ≤ j))
abbrev dGt : DE2 := dI0 fun i j => .bool (decide (j < i))
abbrev dGe : DE2 := dI0 fun i j => .bool (decide (j ≤ i))
theorem op_powW : OpR X (binaryOp .Pow) (rI CPowW fun i j => .int (i ^ j.toNat)) := opI fun _ _ _ _ _ _ _ hc q => pow_int hc.1 hc.2 q
theorem c_sub : Conn K (rI0 fun i j => .int (i - j)) dSub := conn_I0 fun _ _ _ => .int _
theorem c_mul : Conn K (rI CMulW fun i j => .int (i * j)) dMul := conn_I fun _ _ _ => .int _
theorem c_div : Conn K (rI CDivW fun i j => .int (i / j)) dDiv := conn_I fun _ _ _ => .int _
theorem c_mod : Conn K (rI (fun _ j => 0 < j) fun i j => .int (i % j)) dMod := conn_I fun _ _ _ => .int _
theorem c_pow : Conn K (rI CPowW fun i j => .int (i ^ j.toNat)) dPow := conn_I fun _ _ _ => .int _
theorem c_lt : Conn K (rI0 fun i j => .bl (decide (i < j))) dLt := conn_I0 fun _ _ _ => .bl _
theorem c_le : Conn K (rI0 fun i j => .bl (decide (i ≤ j))) dLe := conn_I0 fun _ _ _ => .bl _
theorem c_gt : Conn K (rI0 fun i j => .bl (decide (j < i))) dGt := conn_I0 fun _ _ _ => .bl _
theorem c_ge : Conn K (rI0 fun i j => .bl (decide (j ≤ i))) dGe := conn_I0 fun _ _ _ => .bl _

abbrev dNeg : DE1
  | .d (.int i), Q => Q (.fz (.int (-i)))
  | _, _ => False
theorem c_neg : Conn1 K (rU fun i => .int (-i)) dNeg := by
  intro B Hf ρ σ H x a Q Qd S ra q k
  cases a with
  | sc _ => exact q.elim
  | d a =>
    cases a with
    | int i => exact ⟨i, ra.int, k _ _ _ q ⟨Hf, S, .int _⟩⟩
    | _ => exact q.elim

/-! ### plus: ints, tuples, lists, texts -/
def rAddA (K : PySem.W.Frag) : R2 := fun x y H Q => rI0 (fun i j => .int (i + j)) x y H Q ∨ rCatA K x y H Q ∨ rCat x y H Q ∨ (∃ i j, x = .str i ∧ y = .str j ∧ i.length + j.length ≤ sizeLine ∧ Q (.str (i ++ j)) H)
abbrev dAdd : DE2
  | .d (.int i), .d (.int j), Q => Q (.fz (.int (i + j)))
  | .d (.tuple xs), .d (.tuple ys), Q => xs.length + ys.length ≤ sizeLine ∧ Q (.fz (.tuple (xs ++ ys)))
  | .d (.list xs), .d (.list ys), Q => xs.length + ys.length ≤ sizeLine ∧ Q (.ow (.l (xs ++ ys)))
  | .d (.str x), .d (.str y), Q => x.length + y.length ≤ sizeLine ∧ Q (.fz (.str (x ++ y)))
  | _, _, _ => False
theorem c_add : Conn K (rAddA K) dAdd := by
  intro B Hf ρ σ H x y a b Q Qd S ra rb q k
  cases a with
  | sc _ => exact q.elim
  | d a =>
    cases b with
    | sc _ => cases a <;> exact q.elim
    | d b =>
      cases a with
      | int i =>
        cases b with
        | int j => exact .inl ⟨i, j, ra.int, rb.int, k _ _ _ q ⟨Hf, S, .int _⟩⟩
        | _ => exact q.elim
      | str i =>
        cases b with
        | str j => exact .inr (.inr (.inr ⟨i, j, ra.str, rb.str, q.1, k _ _ _ q.2 ⟨Hf, S, .str _⟩⟩))
        | _ => exact q.elim
      | tuple xs =>
        cases b with
        | tuple ys =>
          obtain ⟨hz, q⟩ := q
          obtain ⟨p1, vs, rfl, h1, r1, z1⟩ := ra.tup
          obtain ⟨p2, us, rfl, h2, r2, z2⟩ := rb.tup
          have l1 := r1.length
          have l2 := r2.length
          refine .inr (.inl ⟨p1, p2, vs, us, rfl, rfl, sqT_same S.sub h1, sqT_same S.sub h2, by omega, fun e => ?_, fun e e2 => ?_, fun e e2 p hp => ?_⟩)
          · subst e
            cases r1
            exact k _ _ _ q ⟨Hf, S, .tup h2 r2 z2⟩
          · subst e2
            cases r2
            rw [List.append_nil] at q
            exact k _ _ _ q ⟨Hf, S, .tup h1 r1 z1⟩
          · exact k _ _ _ q ⟨_, S.alloc hp _, .tup (SqT.of upd_same) ((r1.append r2).same (same_upd (S.sub.free hp))) (by rw [List.length_append]; exact hz)⟩
        | _ => exact q.elim
      | list xs =>
        cases b with
        | list ys =>
          obtain ⟨hz, q⟩ := q
          obtain ⟨p1, vs, rfl, h1, r1, z1⟩ := ra
          obtain ⟨p2, us, rfl, h2, r2, z2⟩ := rb
          have l1 := r1.length
          have l2 := r2.length
          exact .inr (.inr (.inl ⟨p1, p2, vs, us, rfl, rfl, h1, h2, by omega, fun p hp => k _ _ _ q ⟨Hf, S.allocL hp (r1.append r2) (by rw [List.length_append]; exact hz)⟩⟩))
        | _ => exact q.elim
      | _ => exact q.elim
theorem op_addA : OpR X (binaryOp .Add) (rAddA X.K) := OpR.or op_add (OpR.or op_catA (OpR.or op_cat (by
  intro pins s σ H x y v u Q I rx ry h
  exact op_add_str pins s σ H x y v u Q I rx ry h)))

/-! ### is -/
abbrev isNoneD : D → Bool
  | .none => true
  | _ => false
abbrev dIsN (n : Bool) : DE2
  | .d d, .d .none, Q => Q (.fz (.bool (n.xor (isNoneD d))))
  | _, _, _ => False
theorem is_non {Hf H : Hp} {v : V} {d : D} (h : RepS K Hf H v (.d d)) : decide (v = .non) = isNoneD d := by
  cases d with
  | none => rw [h.non]; rfl
  | list ds => obtain ⟨a, vs, rfl, _⟩ := h; rfl
  | tuple ds => obtain ⟨a, vs, rfl, _⟩ := h.tup; rfl
  | bool b => rw [h.bool]; rfl
  | int i => rw [h.int]; rfl
  | str x => rw [h.str]; rfl
  | dict kvs =>
    have q : Rep K Hf v (.dict kvs) := h
    clear h
    cases q; rfl
theorem c_isN : Conn K (fun x y H Q => y = .non ∧ Q (.bl (decide (x = .non))) H) (dIsN false) := by
  intro B Hf ρ σ H x y a b Q Qd S ra rb q k
  cases a with
  | sc _ => exact q.elim
  | d a =>
    cases b with
    | sc _ => exact q.elim
    | d b =>
      cases b with
      | none =>
        refine ⟨rb.non, ?_⟩
        rw [is_non ra]
        refine k _ _ _ q ⟨Hf, S, ?_⟩
        rw [Bool.false_xor]
        exact .bl _
      | _ => exact q.elim
theorem c_notN : Conn K (fun x y H Q => y = .non ∧ Q (.bl (!decide (x = .non))) H) (dIsN true) := by
  intro B Hf ρ σ H x y a b Q Qd S ra rb q k
  cases a with
  | sc _ => exact q.elim
  | d a =>
    cases b with
    | sc _ => exact q.elim
    | d b =>
      cases b with
      | none =>
        refine ⟨rb.non, ?_⟩
        rw [is_non ra]
        refine k _ _ _ q ⟨Hf, S, ?_⟩
        rw [Bool.true_xor]
        exact .bl _
      | _ => exact q.elim
abbrev dIsB (n : Bool) : DE2
  | .d (.bool a), .d (.bool b), Q => Q (.fz (.bool (n.xor (a == b))))
  | _, _, _ => False
theorem c_isB : Conn K rIsB (dIsB false) := by
  intro B Hf ρ σ H x y a b Q Qd S ra rb q k
  cases a with
  | sc _ => exact q.elim
  | d a =>
    cases b with
    | sc _ => cases a <;> exact q.elim
    | d b =>
      cases a with
      | bool a =>
        cases b with
        | bool b =>
          refine ⟨a, b, ra.bool, rb.bool, k _ _ _ q ⟨Hf, S, ?_⟩⟩
          rw [Bool.false_xor, Bool.beq_eq_decide_eq]
          exact .bl _
        | _ => exact q.elim
      | _ => exact q.elim
theorem c_notB : Conn K rNotB (dIsB true) := by
  intro B Hf ρ σ H x y a b Q Qd S ra rb q k
  cases a with
  | sc _ => exact q.elim
  | d a =>
    cases b with
    | sc _ => cases a <;> exact q.elim
    | d b =>
      cases a with
      | bool a =>
        cases b with
        | bool b =>
          refine ⟨a, b, ra.bool, rb.bool, k _ _ _ q ⟨Hf, S, ?_⟩⟩
          rw [Bool.true_xor, Bool.beq_eq_decide_eq]
          exact .bl _
        | _ => exact q.elim
      | _ => exact q.elim

/-! ### == of data -/
mutual
theorem Rep.dp {H : Hp} : ∀ (d : D) (v : V), Rep K H v d → d.canLay0 = true → Dp K H v d
  | .none, _, h, _ => by cases h; exact .non
  | .bool b, _, h, _ => by cases h; exact .bl b
  | .int i, _, h, _ => by cases h; exact .int i
  | .str x, _, h, _ => by cases h; exact .str x
  | .list ds, _, h, c => by
    cases h with
    | lst h r z => exact .lst (SqL.of h) (Reps.dp ds _ r (by simpa [PyData.canLay0] using c))
  | .tuple ds, _, h, c => by
    cases h with
    | tup h r z => exact .tup h (Reps.dp ds _ r (by simpa [PyData.canLay0] using c))
  | .dict _, _, _, c => by simp [PyData.canLay0] at c
theorem Reps.dp {H : Hp} : ∀ (ds : List D) (vs : List V), Reps K H vs ds → PyData.canLayAll0 ds = true → DpAll K H vs ds
  | [], _, h, _ => by cases h; exact .nil
  | d :: ds, _, h, c => by
    cases h with
    | cons h r =>
      have c' : d.canLay0 = true ∧ PyData.canLayAll0 ds = true := by simpa [PyData.canLayAll0] using c
      exact .cons (Rep.dp d _ h c'.1) (Reps.dp ds _ r c'.2)
end
/-- ==: two ints at once; data of any depth -/
abbrev dEq (n : Bool) : DE2
  | .d a, .d b, Q => SeqAt.shaped a = true ∧ SeqAt.shaped b = true ∧ Q (.fz (.bool (n.xor (PyData.eqv a b))))
  | _, _, _ => False
theorem c_eq : Conn K (rEqD K) (dEq false) := by
  intro B Hf ρ σ H x y a b Q Qd S ra rb q k
  cases a with
  | sc _ => exact q.elim
  | d a =>
    cases b with
    | sc _ => exact q.elim
    | d b =>
      obtain ⟨s1, s2, q⟩ := q
      refine ⟨a, b, (ra.rep S.sub).dp _ _ (SeqAt.canLay_of_shaped s1), (rb.rep S.sub).dp _ _ (SeqAt.canLay_of_shaped s2), s1, s2, k _ _ _ q ⟨Hf, S, ?_⟩⟩
      rw [Bool.false_xor]
      exact .bl _
theorem c_ne : Conn K (rNeD K) (dEq true) := by
  intro B Hf ρ σ H x y a b Q Qd S ra rb q k
  cases a with
  | sc _ => exact q.elim
  | d a =>
    cases b with
    | sc _ => exact q.elim
    | d b =>
      obtain ⟨s1, s2, q⟩ := q
      refine ⟨a, b, (ra.rep S.sub).dp _ _ (SeqAt.canLay_of_shaped s1), (rb.rep S.sub).dp _ _ (SeqAt.canLay_of_shaped s2), s1, s2, k _ _ _ q ⟨Hf, S, ?_⟩⟩
      rw [Bool.true_xor]
      exact .bl _

/-! ### an item, a length -/
abbrev dIx : DE2
  | .d (.list ds), .d (.int i), Q => ∃ d, atI ds i = some d ∧ Q (.fz d)
  | .d (.tuple ds), .d (.int i), Q => ∃ d, atI ds i = some d ∧ Q (.fz d)
  | .sc ns, .d (.int i), Q => ∃ n, atI ns i = some n ∧ Q (.fz (.int n))
  | .d (.str x), .d (.int i), Q => x.length ≤ sizeLine ∧ ∃ c, atI x.cps.toList i = some c ∧ Q (.fz (.str ⟨#[c]⟩))
  | _, _, _ => False
theorem Reps.atI {H : Hp} {vs : List V} {ds : List D} {i : Int} {d : D} (r : Reps K H vs ds) (h : L2.atI ds i = some d) : ∃ v, L2.atI vs i = some v ∧ Rep K H v d := by
  unfold L2.atI at h ⊢
  rw [← r.length] at h
  cases e : ixN vs.length i with
  | none => rw [e] at h; cases h
  | some j =>
    rw [e] at h
    exact r.get' (i := j) h
theorem atI_map {α β : Type} (f : α → β) {l : List α} {i : Int} {x : α} (h : L2.atI l i = some x) : L2.atI (l.map f) i = some (f x) := by
  unfold L2.atI at h ⊢
  rw [List.length_map]
  cases e : ixN l.length i with
  | none => rw [e] at h; cases h
  | some j =>
    rw [e] at h
    show (l.map f)[j]? = some (f x)
    rw [List.getElem?_map, show l[j]? = some x from h]; rfl
theorem c_ix : Conn K (rIx K) dIx := by
  intro B Hf ρ σ H x y a b Q Qd S ra rb q k
  cases a with
  | sc ns =>
    cases b with
    | sc _ => exact q.elim
    | d b =>
      cases b with
      | int i =>
        obtain ⟨n, e, q⟩ := q
        obtain ⟨p, rfl, h⟩ := ra
        exact .inl ⟨p, _, i, .int n, rfl, rb.int, h, atI_map _ e, k _ _ _ q ⟨Hf, S, .int _⟩⟩
      | _ => exact q.elim
  | d a =>
    cases b with
    | sc _ => cases a <;> exact q.elim
    | d b =>
      cases a with
      | list ds =>
        cases b with
        | int i =>
          obtain ⟨d, e, q⟩ := q
          obtain ⟨p, vs, rfl, h, r, z⟩ := ra
          obtain ⟨v, e2, rv⟩ := r.atI e
          exact .inl ⟨p, vs, i, v, rfl, rb.int, SqL.of h, e2, k _ _ _ q ⟨Hf, S, rv⟩⟩
        | _ => exact q.elim
      | tuple ds =>
        cases b with
        | int i =>
          obtain ⟨d, e, q⟩ := q
          obtain ⟨p, vs, rfl, h, r, z⟩ := ra.tup
          obtain ⟨v, e2, rv⟩ := r.atI e
          exact .inr (.inl ⟨p, vs, i, v, rfl, rb.int, sqT_same S.sub h, e2, k _ _ _ q ⟨Hf, S, rv⟩⟩)
        | _ => exact q.elim
      | str x =>
        cases b with
        | int i =>
          obtain ⟨z, c, e, q⟩ := q
          exact .inr (.inr ⟨x, i, c, ra.str, rb.int, z, e, k _ _ _ q ⟨Hf, S, .str _⟩⟩)
        | _ => exact q.elim
      | _ => exact q.elim
abbrev dLen : DEn
  | [.d (.list ds)], Q => Q (.fz (.int ds.length))
  | [.d (.tuple ds)], Q => Q (.fz (.int ds.length))
  | [.sc ns], Q => Q (.fz (.int ns.length))
  | [.d (.str x)], Q => x.length ≤ sizeLine ∧ Q (.fz (.int x.length))
  | _, _ => False
theorem one_of {P : SD → (VR → Prop) → Prop} {Hf H : Hp} {xs : List V} {a : SD} (r : Paired (RepS K Hf H) xs [a]) : ∃ x, xs = [x] ∧ RepS K Hf H x a := by
  cases r with
  | cons h r => cases r; exact ⟨_, rfl, h⟩
theorem two_of {Hf H : Hp} {xs : List V} {a b : SD} (r : Paired (RepS K Hf H) xs [a, b]) : ∃ x y, xs = [x, y] ∧ RepS K Hf H x a ∧ RepS K Hf H y b := by
  cases r with
  | cons h r =>
    cases r with
    | cons h2 r => cases r; exact ⟨_, _, rfl, h, h2⟩
theorem c_len : ConnN K (fun xs H Q => ∃ x n, xs = [x] ∧ LenV K x H n ∧ Q (.int n) H) dLen := by
  intro B Hf ρ σ H xs as Q Qd S r q k
  cases as with
  | nil => exact q.elim
  | cons a as =>
    cases as with
    | cons _ _ => cases a with | sc _ => exact q.elim | d a => cases a <;> exact q.elim
    | nil =>
      obtain ⟨x, rfl, ra⟩ := one_of (P := fun _ _ => True) r
      cases a with
      | sc ns =>
        obtain ⟨p, rfl, h⟩ := ra
        exact ⟨_, ns.length, rfl, .inl ⟨_, h, by rw [List.length_map]⟩, k _ _ _ q ⟨Hf, S, .int _⟩⟩
      | d a =>
        cases a with
        | list ds =>
          obtain ⟨p, vs, rfl, h, r, z⟩ := ra
          exact ⟨_, ds.length, rfl, .inl ⟨_, SqL.of h, r.length.symm⟩, k _ _ _ q ⟨Hf, S, .int _⟩⟩
        | tuple ds =>
          obtain ⟨p, vs, rfl, h, r, z⟩ := ra.tup
          exact ⟨_, ds.length, rfl, .inr ⟨_, sqT_same S.sub h, r.length.symm⟩, k _ _ _ q ⟨Hf, S, .int _⟩⟩
        | str x =>
          have e := ra.str
          subst e
          exact ⟨_, x.length, rfl, ⟨q.1, rfl⟩, k _ _ _ q.2 ⟨Hf, S, .int _⟩⟩
        | _ => exact q.elim

/-! ### int, abs, max, min, all, any, sum -/
abbrev dInt : DEn
  | [.d (.int i)], Q => Q (.fz (.int i))
  | [.d (.bool b)], Q => Q (.fz (.int (if b then 1 else 0)))
  | _, _ => False
abbrev dAbs : DEn
  | [.d (.int i)], Q => Q (.fz (.int (if i < 0 then -i else i)))
  | _, _ => False
def intsOf : List D → Option (List Int)
  | [] => some []
  | .int i :: r => (intsOf r).map (i :: ·)
  | _ => none
theorem intsOf_eq : ∀ {ds : List D} {ns : List Int}, intsOf ds = some ns → ds = ns.map .int
  | [], ns, h => by cases h; rfl
  | .int i :: r, ns, h => by
    unfold intsOf at h
    cases e : intsOf r with
    | none => rw [e] at h; cases h
    | some l => rw [e] at h; cases h; rw [intsOf_eq e]; rfl
  | .none :: _, _, h => by cases h
  | .bool _ :: _, _, h => by cases h
  | .str _ :: _, _, h => by cases h
  | .list _ :: _, _, h => by cases h
  | .tuple _ :: _, _, h => by cases h
  | .dict _ :: _, _, h => by cases h
/-- two ints, or one list of ints -/
abbrev dMax : DEn
  | [.d (.int i), .d (.int j)], Q => Q (.fz (.int (max i j)))
  | [.d (.list ds)], Q => ∃ ns : List Int, ds = ns.map .int ∧ ns ≠ [] ∧ ∀ m, m ∈ ns → (∀ y, y ∈ ns → y ≤ m) → Q (.fz (.int m))
  | _, _ => False
abbrev dMin : DEn
  | [.d (.int i), .d (.int j)], Q => Q (.fz (.int (min i j)))
  | [.d (.list ds)], Q => ∃ ns : List Int, ds = ns.map .int ∧ ns ≠ [] ∧ ∀ m, m ∈ ns → (∀ y, y ∈ ns → m ≤ y) → Q (.fz (.int m))
  | _, _ => False
abbrev dSum : DEn
  | [.d (.list ds)], Q => ∃ ns : List Int, ds = ns.map .int ∧ Q (.fz (.int ns.sum))
  | _, _ => False
abbrev dAll : DEn
  | [.d (.list ds)], Q => ∃ bs : List Bool, ds = bs.map .bool ∧ Q (.fz (.bool (bs.all id)))
  | _, _ => False
abbrev dAny : DEn
  | [.d (.list ds)], Q => ∃ bs : List Bool, ds = bs.map .bool ∧ Q (.fz (.bool (bs.any id)))
  | _, _ => False
theorem c_int : ConnN K (fun xs H Q => (∃ i, xs = [.int i] ∧ Q (.int i) H) ∨ ∃ k, xs = [.bl k] ∧ Q (.int (if k then 1 else 0)) H) dInt := by
  intro B Hf ρ σ H xs as Q Qd S r q k
  cases as with
  | nil => exact q.elim
  | cons a as =>
    cases as with
    | cons _ _ => cases a with | sc _ => exact q.elim | d a => cases a <;> exact q.elim
    | nil =>
      obtain ⟨x, rfl, ra⟩ := one_of (P := fun _ _ => True) r
      cases a with
      | sc ns => exact q.elim
      | d a =>
        cases a with
        | int i => exact .inl ⟨i, by rw [ra.int], k _ _ _ q ⟨Hf, S, .int _⟩⟩
        | bool i => exact .inr ⟨i, by rw [ra.bool], k _ _ _ q ⟨Hf, S, .int _⟩⟩
        | _ => exact q.elim
theorem c_abs : ConnN K (fun xs H Q => ∃ i, xs = [.int i] ∧ Q (.int (if i < 0 then -i else i)) H) dAbs := by
  intro B Hf ρ σ H xs as Q Qd S r q k
  cases as with
  | nil => exact q.elim
  | cons a as =>
    cases as with
    | cons _ _ => cases a with | sc _ => exact q.elim | d a => cases a <;> exact q.elim
    | nil =>
      obtain ⟨x, rfl, ra⟩ := one_of (P := fun _ _ => True) r
      cases a with
      | sc ns => exact q.elim
      | d a =>
        cases a with
        | int i => exact ⟨i, by rw [ra.int], k _ _ _ q ⟨Hf, S, .int _⟩⟩
        | _ => exact q.elim
theorem RepS.intsL {Hf H : Hp} {v : V} {ns : List Int} (h : RepS K Hf H v (.d (.list (ns.map .int)))) : ∃ a, v = .ref a ∧ SqL K H a (ns.map V.int) := by
  obtain ⟨a, vs, rfl, h, r, z⟩ := h
  rw [r.ints] at h
  exact ⟨a, rfl, SqL.of h⟩
theorem RepS.boolsL {Hf H : Hp} {v : V} {ns : List Bool} (h : RepS K Hf H v (.d (.list (ns.map .bool)))) : ∃ a, v = .ref a ∧ SqL K H a (ns.map V.bl) := by
  obtain ⟨a, vs, rfl, h, r, z⟩ := h
  rw [r.bools] at h
  exact ⟨a, rfl, SqL.of h⟩
def rMaxA (K : PySem.W.Frag) : List V → Hp → VK → Prop := fun xs H Q => (∃ i j, xs = [.int i, .int j] ∧ Q (.int (if j > i then j else i)) H) ∨ rMax K xs H Q
def rMinA (K : PySem.W.Frag) : List V → Hp → VK → Prop := fun xs H Q => (∃ i j, xs = [.int i, .int j] ∧ Q (.int (if j < i then j else i)) H) ∨ rMin K xs H Q
theorem cr_maxA (hc : X.calm = true) : CallR X (.builtin "max") (rMaxA X.K) := CallR.or (call_max2 hc) (cr_max hc)
theorem cr_minA (hc : X.calm = true) : CallR X (.builtin "min") (rMinA X.K) := CallR.or (call_min2 hc) (cr_min hc)
theorem c_max : ConnN K (rMaxA K) dMax := by
  intro B Hf ρ σ H xs as Q Qd S r q k
  match as, r, q with
  | [.d (.int i), .d (.int j)], r, q =>
    obtain ⟨x, y, rfl, r1, r2⟩ := two_of r
    refine .inl ⟨i, j, by rw [r1.int, r2.int], k _ _ _ q ⟨Hf, S, ?_⟩⟩
    have e : max i j = if j > i then j else i := by rw [Int.max_def]; split <;> split <;> omega
    rw [e]; exact .int _
  | [.d (.list ds)], r, q =>
    obtain ⟨x, rfl, ra⟩ := one_of (P := fun _ _ => True) r
    obtain ⟨ns, rfl, hn, q⟩ := q
    obtain ⟨a, rfl, h⟩ := ra.intsL
    exact .inr ⟨a, ns, rfl, h, List.length_pos_iff.mpr hn, fun m h1 h2 => k _ _ _ (q m h1 h2) ⟨Hf, S, .int _⟩⟩
theorem c_min : ConnN K (rMinA K) dMin := by
  intro B Hf ρ σ H xs as Q Qd S r q k
  match as, r, q with
  | [.d (.int i), .d (.int j)], r, q =>
    obtain ⟨x, y, rfl, r1, r2⟩ := two_of r
    refine .inl ⟨i, j, by rw [r1.int, r2.int], k _ _ _ q ⟨Hf, S, ?_⟩⟩
    have e : min i j = if j < i then j else i := by rw [Int.min_def]; split <;> split <;> omega
    rw [e]; exact .int _
  | [.d (.list ds)], r, q =>
    obtain ⟨x, rfl, ra⟩ := one_of (P := fun _ _ => True) r
    obtain ⟨ns, rfl, hn, q⟩ := q
    obtain ⟨a, rfl, h⟩ := ra.intsL
    exact .inr ⟨a, ns, rfl, h, List.length_pos_iff.mpr hn, fun m h1 h2 => k _ _ _ (q m h1 h2) ⟨Hf, S, .int _⟩⟩
theorem c_sum : ConnN K (rSum K) dSum := by
  intro B Hf ρ σ H xs as Q Qd S r q k
  match as, r, q with
  | [.d (.list ds)], r, q =>
    obtain ⟨x, rfl, ra⟩ := one_of (P := fun _ _ => True) r
    obtain ⟨ns, rfl, q⟩ := q
    obtain ⟨a, rfl, h⟩ := ra.intsL
    exact ⟨a, ns, rfl, h, k _ _ _ q ⟨Hf, S, .int _⟩⟩
theorem c_all : ConnN K (rAll K) dAll := by
  intro B Hf ρ σ H xs as Q Qd S r q k
  match as, r, q with
  | [.d (.list ds)], r, q =>
    obtain ⟨x, rfl, ra⟩ := one_of (P := fun _ _ => True) r
    obtain ⟨ns, rfl, q⟩ := q
    obtain ⟨a, rfl, h⟩ := ra.boolsL
    exact ⟨a, ns, rfl, h, k _ _ _ q ⟨Hf, S, .bl _⟩⟩
theorem c_any : ConnN K (rAny K) dAny := by
  intro B Hf ρ σ H xs as Q Qd S r q k
  match as, r, q with
  | [.d (.list ds)], r, q =>
    obtain ⟨x, rfl, ra⟩ := one_of (P := fun _ _ => True) r
    obtain ⟨ns, rfl, q⟩ := q
    obtain ⟨a, rfl, h⟩ := ra.boolsL
    exact ⟨a, ns, rfl, h, k _ _ _ q ⟨Hf, S, .bl _⟩⟩

/-! ### list(x), tuple(x) -/
abbrev dList : DEn
  | [.d (.list ds)], Q => Q (.ow (.l ds))
  | [.d (.tuple ds)], Q => Q (.ow (.l ds))
  | _, _ => False
abbrev dTuple : DEn
  | [.d (.list ds)], Q => Q (.fz (.tuple ds))
  | [.d (.tuple ds)], Q => Q (.fz (.tuple ds))
  | _, _ => False
theorem c_list : ConnN K (fun xs H Q => ∃ p ys, xs = [.ref p] ∧ (SqL K H p ys ∨ SqT K H p ys) ∧ ∀ l, H l = none → Q (.ref l) (upd H l (.lst ys))) dList := by
  intro B Hf ρ σ H xs as Q Qd S r q k
  match as, r, q with
  | [.d (.list ds)], r, q =>
    obtain ⟨x, rfl, ra⟩ := one_of (P := fun _ _ => True) r
    obtain ⟨p, vs, rfl, h, r, z⟩ := ra
    exact ⟨p, vs, rfl, .inl (SqL.of h), fun l hl => k _ _ _ q ⟨Hf, S.allocL hl r z⟩⟩
  | [.d (.tuple ds)], r, q =>
    obtain ⟨x, rfl, ra⟩ := one_of (P := fun _ _ => True) r
    obtain ⟨p, vs, rfl, h, r, z⟩ := ra.tup
    exact ⟨p, vs, rfl, .inr (sqT_same S.sub h), fun l hl => k _ _ _ q ⟨Hf, S.allocL hl r z⟩⟩
theorem c_tuple : ConnN K (fun xs H Q => ∃ p ys, xs = [.ref p] ∧ ((SqL K H p ys ∧ ∀ l, H l = none → Q (.ref l) (upd H l (.tup ys))) ∨ (SqT K H p ys ∧ Q (.ref p) H))) dTuple := by
  intro B Hf ρ σ H xs as Q Qd S r q k
  match as, r, q with
  | [.d (.list ds)], r, q =>
    obtain ⟨x, rfl, ra⟩ := one_of (P := fun _ _ => True) r
    obtain ⟨p, vs, rfl, h, r, z⟩ := ra
    exact ⟨p, vs, rfl, .inl ⟨SqL.of h, fun l hl => k _ _ _ q ⟨_, S.alloc hl _, .tup (SqT.of upd_same) (r.same (same_upd (S.sub.free hl))) z⟩⟩⟩
  | [.d (.tuple ds)], r, q =>
    obtain ⟨x, rfl, ra⟩ := one_of (P := fun _ _ => True) r
    obtain ⟨p, vs, rfl, h, r, z⟩ := ra.tup
    exact ⟨p, vs, rfl, .inr ⟨sqT_same S.sub h, k _ _ _ q ⟨Hf, S, .tup h r z⟩⟩⟩
end
end DL
set_option Elab.async false
set_option linter.all false
set_option maxRecDepth 100000
set_option maxHeartbeats 1000000
/-! DLd: targets, statements, loops, comprehensions over data. -/
namespace DL
open PySem PySem.Spec PyProof.Rows L2

structure DEnds where
  nx : List Sl → Prop
  rt : VR → List Sl → Prop
  bk : List Sl → Prop
  ct : List Sl → Prop
  ex : XD
abbrev DS := DEnds → List Sl → Prop
structure LiftOk (K : PySem.W.Frag) (B : Bs) (W : WX) (D : DEnds) (D' : Ends) : Prop where
  nx : ∀ ρ σ H Hf, D.nx ρ → SO K B Hf ρ σ H → D'.nx σ H
  rt : ∀ r ρ σ H v, D.rt r ρ → EV K B ρ σ H r v → D'.rt v H
  bk : ∀ ρ σ H Hf, D.bk ρ → SO K B Hf ρ σ H → D'.bk σ H
  ct : ∀ ρ σ H Hf, D.ct ρ → SO K B Hf ρ σ H → D'.ct σ H
  ex : XL K B W D.ex
def SemS (K : PySem.W.Frag) (W : WX) (ts : TS) (t : DS) : Prop := ∀ B Hf ρ σ H (D : DEnds) (D' : Ends), SO K B Hf ρ σ H → LiftOk K B W D D' → t D ρ → ts D' σ H
structure PSD (X : Cx) (W : WX) (st : Stmt) (t : DS) : Prop where
  ex : ∃ ts, PS X st ts ∧ SemS X.K W ts t
structure PBD (X : Cx) (W : WX) (st : List Stmt) (t : DS) : Prop where
  ex : ∃ ts, PSs X st ts ∧ SemS X.K W ts t
theorem EV.base {K : PySem.W.Frag} {B : Bs} {Hf H : Hp} {ρ : List Sl} {σ : L2.St} {r : VR} {v : V} (h : EV K (B.up Hf) ρ σ H r v) (S0 : Same B.hf Hf) : EV K B ρ σ H r v := by
  cases r with
  | fz d => obtain ⟨Hf', S, q⟩ := h; exact ⟨Hf', S.base S0, q⟩
  | ow c => obtain ⟨Hf', S⟩ := h; exact ⟨Hf', S.base S0⟩
  | bw i => obtain ⟨⟨Hf', S⟩, e⟩ := h; exact ⟨⟨Hf', S.base S0⟩, e⟩
  | sc ns => obtain ⟨Hf', a, S, q⟩ := h; exact ⟨Hf', a, S.base S0, q⟩
theorem LiftOk.up {K : PySem.W.Frag} {B : Bs} {W : WX} {D : DEnds} {D' : Ends} {Hf : Hp} (L : LiftOk K B W D D') (S : Same B.hf Hf) : LiftOk K (B.up Hf) W D D' :=
  ⟨fun ρ σ H Hf' q S' => L.nx ρ σ H Hf' q (S'.base S), fun r ρ σ H v q e => L.rt r ρ σ H v q (e.base S), fun ρ σ H Hf' q S' => L.bk ρ σ H Hf' q (S'.base S), fun ρ σ H Hf' q S' => L.ct ρ σ H Hf' q (S'.base S), L.ex.up S⟩

section
variable {X : Cx} {W : WX} {pos : Pos}

/-! ### slots are set -/
theorem SO.setFz {K : PySem.W.Frag} {B : Bs} {Hf H : Hp} {ρ : List Sl} {σ : L2.St} (S : SO K B Hf ρ σ H) (i : Nat) {s : Sl} {v : V} (h : SlO K Hf H s (some v) []) : SO K B Hf (setS ρ i s) (σ.set i (some v)) H := by
  rw [setS_eq]
  by_cases lt : i < ρ.length
  · have e : ρ[i]? = some ρ[i] := by simp [lt]
    have S1 := S.nilSl e
    have S2 : SO K B Hf (s :: ρ.set i .nil) (some v :: σ) H := by
      obtain ⟨fp, s1, s2, s3⟩ := S1.sl
      exact ⟨S1.up, S1.sub, S1.fr, fp, ⟨some v, σ, [], fp, rfl, rfl, h, s1⟩, s2, s3⟩
    have S3 := S2.putSl (i := i) (by rw [List.getElem?_set_self lt])
    rw [List.set_set] at S3
    exact S3
  · have l2 : ¬ i < σ.length := by rw [S.len]; exact lt
    rw [List.set_eq_of_length_le (by omega), List.set_eq_of_length_le (by omega)]
    exact S
theorem SO.setOw {K : PySem.W.Frag} {B : Bs} {Hf H : Hp} {ρ : List Sl} {σ : L2.St} {s : Sl} {v : Option V} (S : SO K B Hf (s :: ρ) (v :: σ) H) (i : Nat) : SO K B Hf (setS ρ i s) (σ.set i v) H := by
  rw [setS_eq]
  have ll : σ.length = ρ.length := S.drop.len
  by_cases lt : i < ρ.length
  · have e : (s :: ρ)[i + 1]? = some ρ[i] := by simp [lt]
    have S1 := S.nilSl e
    have S1 : SO K B Hf (s :: ρ.set i .nil) (v :: σ) H := S1
    have S3 := S1.putSl (i := i) (by rw [List.getElem?_set_self lt])
    rw [List.set_set] at S3
    exact S3
  · rw [List.set_eq_of_length_le (by omega), List.set_eq_of_length_le (by omega)]
    exact S.drop
theorem SO.setNone {K : PySem.W.Frag} {B : Bs} {Hf H : Hp} {ρ : List Sl} {σ : L2.St} (S : SO K B Hf ρ σ H) (i : Nat) : SO K B Hf (setS ρ i .nil) (σ.set i none) H := by
  rw [setS_eq]
  by_cases lt : i < ρ.length
  · have e : ρ[i]? = some ρ[i] := by simp [lt]
    have S1 := S.nilSl e
    have S2 : SO K B Hf (.nil :: ρ.set i .nil) (none :: σ) H := by
      obtain ⟨fp, s1, s2, s3⟩ := S1.sl
      exact ⟨S1.up, S1.sub, S1.fr, fp, ⟨none, σ, [], fp, rfl, rfl, rfl, s1⟩, s2, s3⟩
    have S3 := S2.putSl (i := i) (by rw [List.getElem?_set_self lt])
    rw [List.set_set] at S3
    exact S3
  · have l2 : ¬ i < σ.length := by rw [S.len]; exact lt
    rw [List.set_eq_of_length_le (by omega), List.set_eq_of_length_le (by omega)]
    exact S
theorem SO.setNilD {K : PySem.W.Frag} {B : Bs} {Hf H : Hp} {ρ : List Sl} {σ : L2.St} (S : SO K B Hf ρ σ H) (i : Nat) : SO K B Hf (setS ρ i .nil) σ H := by
  rw [setS_eq]
  by_cases lt : i < ρ.length
  · exact S.nilSl (s := ρ[i]) (by simp [lt])
  · rw [List.set_eq_of_length_le (by omega)]
    exact S
/-- a value is stored into a slot -/
abbrev asg (i : Nat) (r : VR) (ρ : List Sl) (Q : List Sl → Prop) : Prop := match r with
  | .fz d => Q (setS ρ i (.fz d))
  | .ow c => Q (setS ρ i (.ow c))
  | .sc ns => Q (setS ρ i (.sc ns))
  | .bw j => frz (.bw j) ρ fun d ρ' => Q (setS ρ' i (.fz d))
theorem EV.asg {K : PySem.W.Frag} {B : Bs} {H : Hp} {ρ : List Sl} {σ : L2.St} {r : VR} {v : V} {i : Nat} {Q : List Sl → Prop} (h : EV K B ρ σ H r v) (q : asg i r ρ Q) : ∃ Hf ρ', SO K B Hf ρ' (σ.set i (some v)) H ∧ Q ρ' := by
  cases r with
  | fz d => obtain ⟨Hf, S, p⟩ := h; exact ⟨Hf, _, S.setFz i (s := .fz d) ⟨rfl, v, rfl, p⟩, q⟩
  | ow c => obtain ⟨Hf, S⟩ := h; exact ⟨Hf, _, S.setOw i, q⟩
  | sc ns => obtain ⟨Hf, a, S, e, p⟩ := h; subst e; exact ⟨Hf, _, S.setFz i (s := .sc ns) ⟨rfl, a, rfl, p⟩, q⟩
  | bw j =>
    obtain ⟨Hf, d, ρ', S, p, q⟩ := h.frz (Q := fun d ρ' => Q (setS ρ' i (.fz d))) q
    exact ⟨Hf, _, S.setFz i (s := .fz d) ⟨rfl, v, rfl, p⟩, q⟩

/-! ### targets -/
abbrev DG := D → List Sl → (List Sl → Prop) → Prop
abbrev DGs := List D → List Sl → (List Sl → Prop) → Prop
def SemG (K : PySem.W.Frag) (g : TG) (t : DG) (ix : List Nat) : Prop := ∀ B Hf ρ σ H v d (Q : L2.St → Hp → Prop) Qd, SO K B Hf ρ σ H → Rep K Hf v d → t d ρ Qd → (∀ ρ' σ', Qd ρ' → SO K B Hf ρ' σ' H → (∀ vs : List Nat, (∀ i ∈ ix, i ∈ vs) → wipe σ' vs = wipe σ vs) → Q σ' H) → g v σ H Q
structure PGD (X : Cx) (tg : Expr) (t : DG) (ix : List Nat) : Prop where
  ex : ∃ g, PG X tg g ∧ SemG X.K g t ix
def SemGs (K : PySem.W.Frag) (g : TGs) (t : DGs) (ix : List Nat) : Prop := ∀ B Hf ρ σ H vs ds (Q : L2.St → Hp → Prop) Qd, SO K B Hf ρ σ H → Reps K Hf vs ds → t ds ρ Qd → (∀ ρ' σ', Qd ρ' → SO K B Hf ρ' σ' H → (∀ vs : List Nat, (∀ i ∈ ix, i ∈ vs) → wipe σ' vs = wipe σ vs) → Q σ' H) → g vs σ H Q
structure PGsD (X : Cx) (tg : List Expr) (t : DGs) (ix : List Nat) : Prop where
  ex : ∃ g, PGs X tg g ∧ SemGs X.K g t ix
theorem wipe_set_in {σ : L2.St} {i : Nat} {v : Option V} : ∀ {vs : List Nat}, i ∈ vs → wipe (σ.set i v) vs = wipe σ vs
  | [], h => by simp at h
  | w :: ws, h => by
    show (wipe (σ.set i v) ws).set w none = (wipe σ ws).set w none
    by_cases e : i ∈ ws
    · rw [wipe_set_in e]
    · have hw : i = w := by
        rcases List.mem_cons.mp h with h | h
        · exact h
        · exact absurd h e
      subst hw
      have c : ∀ (us : List Nat), i ∉ us → wipe (σ.set i v) us = (wipe σ us).set i v := by
        intro us
        induction us with
        | nil => intro _; rfl
        | cons u us ih =>
          intro hn
          have h1 : i ≠ u := fun z => hn (by simp [z])
          show (wipe (σ.set i v) us).set u none = ((wipe σ us).set u none).set i v
          rw [ih (fun z => hn (List.mem_cons_of_mem _ z)), List.set_comm _ _ h1]
      rw [c ws e, List.set_set]
abbrev gN (i : Nat) : DG := fun d ρ Q => Q (setS ρ i (.fz d))
theorem pgd_name {i : Nat} {x : Str} (hN : X.N.Nodup) (hi : X.N[i]? = some x) (hx : Loc X.env.scope x) (hf : X.fn x = true ∨ X.env.scope.names.lookup x = some .local := by first | exact .inl rfl | exact .inr rfl | assumption) : PGD X (.Name x pos) (gN i) [i] := by
  refine ⟨_, pg_name hN hi hx hf, ?_⟩
  intro B Hf ρ σ H v d Q Qd S r h k
  exact k _ _ h (S.setFz i (s := .fz d) ⟨rfl, v, rfl, r⟩) fun vs hv => wipe_set_in (hv i (by simp))
abbrev gsNil : DGs := fun ds ρ Q => match ds with | [] => Q ρ | _ :: _ => False
abbrev gsCons (t : DG) (u : DGs) : DGs := fun ds ρ Q => match ds with | [] => False | d :: r => t d ρ fun ρ' => u r ρ' Q
theorem pgsd_nil : PGsD X [] gsNil [] := by
  refine ⟨_, pgs_nil, ?_⟩
  intro B Hf ρ σ H vs ds Q Qd S r h k
  cases r with
  | nil => exact ⟨rfl, k _ _ h S fun _ _ => rfl⟩
  | cons _ _ => exact h.elim
theorem pgsd_cons {e : Expr} {es : List Expr} {t : DG} {u : DGs} {i1 i2 : List Nat} (h1 : PGD X e t i1) (h2 : PGsD X es u i2)
    (hs : (assignEach (e :: es) X.env).map (·.2) = assign e X.env :: (assignEach es X.env).map (·.2) := by rfl) : PGsD X (e :: es) (gsCons t u) (i1 ++ i2) := by
  obtain ⟨g, p, s⟩ := h1
  obtain ⟨g2, p2, s2⟩ := h2
  refine ⟨_, pgs_cons p p2 hs, ?_⟩
  intro B Hf ρ σ H vs ds Q Qd S r h k
  cases r with
  | nil => exact h.elim
  | @cons v vs d ds rv rs =>
    refine ⟨v, vs, rfl, ?_⟩
    refine s B Hf ρ σ H v d _ _ S rv h fun ρ1 σ1 q1 S1 w1 => ?_
    refine s2 B Hf ρ1 σ1 H vs ds _ _ S1 rs q1 fun ρ2 σ2 q2 S2 w2 => ?_
    exact k _ _ q2 S2 fun us hu => (w2 us fun i hi => hu i (List.mem_append_right _ hi)).trans (w1 us fun i hi => hu i (List.mem_append_left _ hi))
abbrev gT (t : DGs) : DG := fun d ρ Q => match d with | .tuple ds => t ds ρ Q | _ => False
theorem gs_len {K : PySem.W.Frag} : True := trivial
theorem pgd_tup {es : List Expr} {k : Nat} {t : DGs} {ix : List Nat} {n : Nat} (hc : X.calm = true) (h : PGsD X es t ix) (hl : ∀ ds ρ Q, t ds ρ Q → ds.length = n)
    (hn : (assignEach es X.env).length = n := by rfl) (hst : (assignEach es X.env).findIdx? (·.1) = none := by rfl) : PGD X (.Tuple es k pos) (gT t) ix := by
  obtain ⟨g, p, s⟩ := h
  refine ⟨_, pg_tup hc p hn hst, ?_⟩
  intro B Hf ρ σ H v d Q Qd S r h k
  cases r with
  | tup hs rs z =>
    rename_i a xs ds
    exact ⟨a, xs, rfl, sqT_same S.sub hs, by rw [rs.length]; exact hl _ _ _ h, s B Hf ρ σ H xs ds Q Qd S rs h k⟩
  | _ => exact h.elim
theorem gs_len0 (ds : List D) (ρ : List Sl) (Q : List Sl → Prop) (h : gsNil ds ρ Q) : ds.length = 0 := by
  cases ds with
  | nil => rfl
  | cons _ _ => exact h.elim
theorem gs_lenS {u : DGs} {n : Nat} {i : Nat} (hu : ∀ ds ρ Q, u ds ρ Q → ds.length = n) (ds : List D) (ρ : List Sl) (Q : List Sl → Prop) (h : gsCons (gN i) u ds ρ Q) : ds.length = n + 1 := by
  cases ds with
  | nil => exact h.elim
  | cons d r => exact congrArg (· + 1) (hu _ _ _ h)
theorem gs_lenT {u v : DGs} {n : Nat} (hu : ∀ ds ρ Q, u ds ρ Q → ds.length = n) (ds : List D) (ρ : List Sl) (Q : List Sl → Prop) (h : gsCons (gT v) u ds ρ Q) : v = v → (∀ es ρ Q, v es ρ Q → ∃ ρ', Q ρ') → ds.length = n + 1 := by
  intro _ hv
  cases ds with
  | nil => exact h.elim
  | cons d r =>
    cases d with
    | tuple es =>
      obtain ⟨ρ', q⟩ := hv _ _ _ h
      exact congrArg (· + 1) (hu _ _ _ q)
    | _ => exact h.elim

/-! ### statements -/
abbrev sNext : DS := fun D ρ => D.nx ρ
abbrev sSeq (t u : DS) : DS := fun D ρ => t { D with nx := u D } ρ
theorem pbd_nil : PBD X W [] sNext := ⟨_, pss_nil, fun B Hf ρ σ H D D' S L h => L.nx _ _ _ _ h S⟩
theorem pbd_cons {st : Stmt} {rest : List Stmt} {t u : DS} (h1 : PSD X W st t) (h2 : PBD X W rest u) : PBD X W (st :: rest) (sSeq t u) := by
  obtain ⟨t1, p1, s1⟩ := h1
  obtain ⟨t2, p2, s2⟩ := h2
  refine ⟨_, pss_cons p1 p2, ?_⟩
  intro B Hf ρ σ H D D' S L h
  exact s1 B Hf ρ σ H { D with nx := u D } { D' with nx := t2 D' } S ⟨fun ρ σ H Hf q S => s2 B Hf ρ σ H D D' S L q, L.rt, L.bk, L.ct, L.ex⟩ h
theorem pbd_one {st : Stmt} {t : DS} (h1 : PSD X W st t) : PBD X W [st] t := let ⟨_, p, s⟩ := h1; ⟨_, pss_one p, s⟩
theorem psd_pass : PSD X W (.Pass pos) sNext := ⟨_, ps_pass, fun B Hf ρ σ H D D' S L h => L.nx _ _ _ _ h S⟩
abbrev sBreak : DS := fun D ρ => D.bk ρ
abbrev sCont : DS := fun D ρ => D.ct ρ
theorem psd_break : PSD X W (.Break pos) sBreak := ⟨_, ps_break, fun B Hf ρ σ H D D' S L h => L.bk _ _ _ _ h S⟩
theorem psd_continue : PSD X W (.Continue pos) sCont := ⟨_, ps_continue, fun B Hf ρ σ H D D' S L h => L.ct _ _ _ _ h S⟩
abbrev sRet (te : DE) : DS := fun D ρ => te ρ D.rt D.ex
theorem psd_ret {e : Expr} {te : DE} (he : PD X W e te) : PSD X W (.Return (some e) pos) (sRet te) := by
  obtain ⟨t, p, s⟩ := he
  refine ⟨_, ps_ret p, ?_⟩
  intro B Hf ρ σ H D D' S L h
  exact s B Hf ρ σ H _ _ _ S h (fun r ρ' H' v q e => L.rt _ _ _ _ _ q e) L.ex
abbrev sRetN : DS := fun D ρ => D.rt (.fz .none) ρ
theorem psd_retN : PSD X W (.Return none pos) sRetN := ⟨_, ps_retN, fun B Hf ρ σ H D D' S L h => L.rt _ _ _ _ _ h ⟨Hf, S, .non⟩⟩
abbrev sDrop (te : DE) : DS := fun D ρ => te ρ (fun _ ρ1 => D.nx ρ1) D.ex
theorem EV.so {K : PySem.W.Frag} {B : Bs} {H : Hp} {ρ : List Sl} {σ : L2.St} {r : VR} {v : V} (h : EV K B ρ σ H r v) : ∃ Hf, SO K B Hf ρ σ H := let ⟨Hf, S, _⟩ := h.settle; ⟨Hf, S⟩
theorem psd_expr {e : Expr} {te : DE} (he : PD X W e te) (hs : swapsWith e none pos.line X.env = pure false := by rfl) : PSD X W (.Expr e pos) (sDrop te) := by
  obtain ⟨t, p, s⟩ := he
  refine ⟨_, ps_expr p hs, ?_⟩
  intro B Hf ρ σ H D D' S L h
  exact s B Hf ρ σ H _ _ _ S h (fun r ρ' H' v q e => let ⟨Hf', S'⟩ := e.so; L.nx _ _ _ _ q S') L.ex
abbrev sIf (c : DT) (t u : DS) : DS := fun D ρ => c ρ (fun b ρ1 => if b = true then t D ρ1 else u D ρ1) D.ex
theorem psd_if {c : Expr} {a b : List Stmt} {tc : DT} {t u : DS} (hc : PTD X W c tc) (ha : PBD X W a t) (hb : PBD X W b u) : PSD X W (.If c a b pos) (sIf tc t u) := by
  obtain ⟨t1, p1, s1⟩ := hc
  obtain ⟨t2, p2, s2⟩ := ha
  obtain ⟨t3, p3, s3⟩ := hb
  refine ⟨_, ps_if p1 p2 p3, ?_⟩
  intro B Hf ρ σ H D D' S L h
  refine s1 B Hf ρ σ H _ _ _ S h (fun b ρ' H' Hf' q S' => ?_) L.ex
  cases b with
  | true => exact s2 B Hf' ρ' σ H' D D' S' L q
  | false => exact s3 B Hf' ρ' σ H' D D' S' L q
abbrev sSet (i : Nat) (te : DE) : DS := fun D ρ => te ρ (fun r ρ1 => asg i r ρ1 D.nx) D.ex
theorem sem_set {i : Nat} {te : TE} {t : DE} (s : Sem1 X.K W te t) : SemS X.K W (tAsg te (gName i)) (sSet i t) := by
  intro B Hf ρ σ H D D' S L h
  refine s B Hf ρ σ H _ _ _ S h (fun r ρ' H' v q e => ?_) L.ex
  obtain ⟨Hf', ρ2, S2, q2⟩ := e.asg q
  exact L.nx _ _ _ _ q2 S2
theorem psd_set (i : Nat) {x : Str} {e : Expr} {te : DE} {pos' : Pos} (hN : X.N.Nodup) (he : PD X W e te) (hi : X.N[i]? = some x := by rfl) (hx : Loc X.env.scope x := by first | exact Or.inl rfl | exact Or.inr rfl)
    (hs : swapsWith e (some (.Name x pos')) pos.line X.env = pure false := by rfl) (hf : X.fn x = true ∨ X.env.scope.names.lookup x = some .local := by first | exact .inl rfl | exact .inr rfl | assumption) :
    PSD X W (.Assign [.Name x pos'] e pos) (sSet i te) := by
  obtain ⟨t, p, s⟩ := he
  exact ⟨_, ps_set hN hi hx p hs hf, sem_set s⟩
/-- target = value, the value kept -/
abbrev sAsg (te : DE) (g : DG) : DS := fun D ρ => te ρ (fun r ρ1 => frz r ρ1 fun d ρ2 => g d ρ2 D.nx) D.ex
theorem psd_asg {tg e : Expr} {te : DE} {g : DG} {ix : List Nat} (he : PD X W e te) (hg : PGD X tg g ix) (hs : swapsWithSole [tg] e pos.line X.env = pure false := by rfl) (hw : swappedStores [tg] e X.env = pure none := by rfl)
    (h1 : (assignEach [tg] X.env).map (·.2) = [assign tg X.env] := by rfl) : PSD X W (.Assign [tg] e pos) (sAsg te g) := by
  obtain ⟨t, p, s⟩ := he
  obtain ⟨g1, p1, s1⟩ := hg
  refine ⟨_, ps_asg p p1 hs hw h1, ?_⟩
  intro B Hf ρ σ H D D' S L h
  refine s B Hf ρ σ H _ _ _ S h (fun r ρ' H' v q e => ?_) L.ex
  obtain ⟨Hf', d, ρ2, S2, rv, q2⟩ := e.frz q
  exact s1 B Hf' ρ2 σ H' v d _ _ S2 rv q2 fun ρ3 σ3 q3 S3 _ => L.nx _ _ _ _ q3 S3
/-- two, three names at once -/
abbrev sPar (is : List Nat) (ta : DF) : DS := fun D ρ => ta ρ (fun ds ρ1 => match is, ds with
  | [i, j], [a, b] => D.nx (setS (setS ρ1 i (.fz a)) j (.fz b))
  | [i, j, k], [a, b, c] => D.nx (setS (setS (setS ρ1 i (.fz a)) j (.fz b)) k (.fz c))
  | _, _ => False) D.ex
theorem psd_par (i j : Nat) {x y : Str} {a b : Expr} {ta : DF} {px py pt : Pos} {kt k2 pt2} (hc : X.calm = true) (hN : X.N.Nodup) (ha : PFD X W [a, b] ta) (hi : X.N[i]? = some x := by rfl) (hj : X.N[j]? = some y := by rfl) (hij : i ≠ j := by decide)
    (hx : X.env.scope.names.lookup x = some .local := by rfl) (hy : X.env.scope.names.lookup y = some .local := by rfl)
    (hw : swappedStores [.Tuple [.Name x px, .Name y py] kt pt] (.Tuple [a, b] k2 pt2) X.env = pure (some [x, y]) := by rfl)
    (hs : swapsWithSole [.Tuple [.Name x px, .Name y py] kt pt] (.Tuple [a, b] k2 pt2) pos.line X.env = pure false := by rfl) :
    PSD X W (.Assign [.Tuple [.Name x px, .Name y py] kt pt] (.Tuple [a, b] k2 pt2) pos) (sPar [i, j] ta) := by
  obtain ⟨t, p, s⟩ := ha
  refine ⟨_, ps_par hc hN hi hj hij hx hy p hw hs, ?_⟩
  intro B Hf ρ σ H D D' S L h
  refine s B Hf ρ σ H _ _ _ S h (fun ds ρ1 H1 Hf1 vs q S1 r hl => ?_) L.ex
  match ds, r, q with
  | [], .nil, q => exact q.elim
  | [_], .cons _ .nil, q => exact q.elim
  | [a, b], .cons (v := v1) r1 (.cons (v := v2) r2 .nil), q =>
    exact ⟨v1, v2, rfl, L.nx _ _ _ _ q ((S1.setFz i (s := .fz a) ⟨rfl, v1, rfl, r1⟩).setFz j (s := .fz b) ⟨rfl, v2, rfl, r2⟩)⟩
  | _ :: _ :: _ :: _, .cons _ (.cons _ (.cons _ _)), q => exact q.elim
theorem psd_par3 (i j l : Nat) {x y z : Str} {a b c : Expr} {ta : DF} {px py pz pt : Pos} {kt k2 pt2} (hc : X.calm = true) (hN : X.N.Nodup) (ha : PFD X W [a, b, c] ta) (hi : X.N[i]? = some x := by rfl) (hj : X.N[j]? = some y := by rfl) (hl : X.N[l]? = some z := by rfl)
    (hij : i ≠ j := by decide) (hil : i ≠ l := by decide) (hjl : j ≠ l := by decide)
    (hx : X.env.scope.names.lookup x = some .local := by rfl) (hy : X.env.scope.names.lookup y = some .local := by rfl) (hz : X.env.scope.names.lookup z = some .local := by rfl)
    (hw : swappedStores [.Tuple [.Name x px, .Name y py, .Name z pz] kt pt] (.Tuple [a, b, c] k2 pt2) X.env = pure (some [x, y, z]) := by rfl)
    (hs : swapsWithSole [.Tuple [.Name x px, .Name y py, .Name z pz] kt pt] (.Tuple [a, b, c] k2 pt2) pos.line X.env = pure false := by rfl) :
    PSD X W (.Assign [.Tuple [.Name x px, .Name y py, .Name z pz] kt pt] (.Tuple [a, b, c] k2 pt2) pos) (sPar [i, j, l] ta) := by
  obtain ⟨t, p, s⟩ := ha
  refine ⟨_, ps_par3 hc hN hi hj hl hij hil hjl hx hy hz p hw hs, ?_⟩
  intro B Hf ρ σ H D D' S L h
  refine s B Hf ρ σ H _ _ _ S h (fun ds ρ1 H1 Hf1 vs q S1 r hl => ?_) L.ex
  match ds, r, q with
  | [], .nil, q => exact q.elim
  | [_], .cons _ .nil, q => exact q.elim
  | [_, _], .cons _ (.cons _ .nil), q => exact q.elim
  | [a, b, c], .cons (v := v1) r1 (.cons (v := v2) r2 (.cons (v := v3) r3 .nil)), q =>
    exact ⟨v1, v2, v3, rfl, L.nx _ _ _ _ q (((S1.setFz i (s := .fz a) ⟨rfl, v1, rfl, r1⟩).setFz j (s := .fz b) ⟨rfl, v2, rfl, r2⟩).setFz l (s := .fz c) ⟨rfl, v3, rfl, r3⟩)⟩
  | _ :: _ :: _ :: _ :: _, .cons _ (.cons _ (.cons _ (.cons _ _))), q => exact q.elim

/-! ### what is walked -/
abbrev DI := List Sl → (List D → List Sl → Prop) → XD → Prop
def IterOk (K : PySem.W.Frag) (Hf : Hp) (J : It) (items : List D) : Prop := ∃ (Y : Nat → Hp → V → Hp → Prop) (G : Hp → Prop), Walk J items.length G Y ∧ (∀ H, Same Hf H → G H) ∧
  ∀ i H v H', i < items.length → Same Hf H → Y i H v H' → ∃ d, items[i]? = some d ∧ ((H' = H ∧ Rep K Hf v d) ∨ ∃ T vs ds, v = .ref T ∧ H T = none ∧ H' = upd H T (.tup vs) ∧ d = .tuple ds ∧ Reps K Hf vs ds ∧ ds.length ≤ sizeLine)
def SemI (K : PySem.W.Frag) (W : WX) (wi : TI) (t : DI) : Prop := ∀ B Hf ρ σ H (R : It → Hp → Prop) Rd Ed, SO K B Hf ρ σ H → t ρ Rd Ed → (∀ items ρ' H' Hf' J, Rd items ρ' → SO K B Hf' ρ' σ H' → IterOk K Hf' J items → items.length ≤ sizeLine → R J H') → XL K B W Ed → wi σ H R
structure PID (X : Cx) (W : WX) (tg iter : Expr) (t : DI) : Prop where
  ex : ∃ wi, PI X tg iter wi ∧ SemI X.K W wi t
/-- the item at a turn, as the target meets it -/
theorem iter_item {K : PySem.W.Frag} {B : Bs} {Hf Hf' H H' : Hp} {ρ : List Sl} {σ : L2.St} {v : V} {d : D} (S : SO K (B.up Hf) Hf' ρ σ H)
    (h : (H' = H ∧ Rep K Hf v d) ∨ ∃ T vs ds, v = .ref T ∧ H T = none ∧ H' = upd H T (.tup vs) ∧ d = .tuple ds ∧ Reps K Hf vs ds ∧ ds.length ≤ sizeLine) : ∃ Hf2, SO K (B.up Hf) Hf2 ρ σ H' ∧ Rep K Hf2 v d ∧ Same Hf' Hf2 := by
  rcases h with ⟨rfl, r⟩ | ⟨T, vs, ds, rfl, hT, rfl, rfl, r, z⟩
  · exact ⟨Hf', S, r.same S.up, Same.refl _⟩
  · have S2 := S.alloc hT (.tup vs)
    exact ⟨_, S2, .tup (SqT.of upd_same) (r.same S2.up) z, same_upd (S.sub.free hT)⟩
def sFor (src : DI) (g : DG) (body : DS) : DS := fun D ρ => src ρ (fun items ρ1 => ∃ Inv : Nat → List Sl → Prop, Inv 0 ρ1 ∧
  (∀ i d ρ2, items[i]? = some d → Inv i ρ2 → g d ρ2 fun ρ3 => body { nx := Inv (i + 1), ct := Inv (i + 1), bk := D.nx, rt := D.rt, ex := D.ex } ρ3) ∧ (∀ ρ2, Inv items.length ρ2 → D.nx ρ2)) D.ex
theorem psd_for {tg iter : Expr} {body : List Stmt} {src : DI} {g : DG} {ix : List Nat} {t : DS} (hp : PassesOwn (model X.prog X.w) X.A X.env X.xe) (hc : X.calm = true) (hi : PID X W tg iter src) (hg : PGD X tg g ix) (hb : PBD X W body t)
    (hs : ∀ x, foldedSetIterable iter X.env x = pure x := by intro _; rfl) : PSD X W (.For tg iter body [] pos) (sFor src g t) := by
  obtain ⟨wi, p1, s1⟩ := hi
  obtain ⟨g1, p2, s2⟩ := hg
  obtain ⟨tb, p3, s3⟩ := hb
  refine ⟨_, ps_for hp hc p1 p2 p3 hs, ?_⟩
  intro B Hf ρ σ H D D' S L h
  refine s1 B Hf ρ σ H _ _ _ S h (fun items ρ1 H1 Hf1 J q S1 io z => ?_) L.ex
  obtain ⟨Inv, i0, turn, fin⟩ := q
  obtain ⟨Y, G, wk, hG, hY⟩ := io
  refine for_it wk (fun i σ' H' => ∃ ρ' Hf', SO X.K (B.up Hf1) Hf' ρ' σ' H' ∧ Inv i ρ') ⟨ρ1, Hf1, S1.raise, i0⟩ ?_ ?_ ?_
  · rintro i σ' H' hi ⟨ρ', Hf', S', _⟩
    exact hG H' (S'.up.trans S'.sub)
  · rintro i v σ' H2 H3 hi ⟨ρ', Hf', S', iv⟩ y
    obtain ⟨d, hd, hh⟩ := hY i H2 v H3 hi (S'.up.trans S'.sub) y
    obtain ⟨Hf2, S2, r, _⟩ := iter_item S' hh
    refine s2 (B.up Hf1) Hf2 ρ' σ' H3 v d _ _ S2 r (turn i d ρ' hd iv) fun ρ3 σ3 q3 S3 _ => ?_
    refine s3 (B.up Hf1) Hf2 ρ3 σ3 H3 { nx := Inv (i + 1), ct := Inv (i + 1), bk := D.nx, rt := D.rt, ex := D.ex } _ S3 ⟨fun ρ σ H Hf q S => ⟨ρ, Hf, S, q⟩, fun r ρ σ H v q e => L.rt _ _ _ _ _ q (e.base S1.up), fun ρ σ H Hf q S => L.nx _ _ _ _ q (S.base S1.up), fun ρ σ H Hf q S => ⟨ρ, Hf, S, q⟩, L.ex.up S1.up⟩ q3
  · rintro σ' H' ⟨ρ', Hf', S', iv⟩
    exact L.nx _ _ _ _ (fin ρ' iv) (S'.base S1.up)
def sWhile (c : DT) (body : DS) : DS := fun D ρ => ∃ (Inv : List Sl → Prop) (μ : List Sl → Nat), Inv ρ ∧ ∀ ρ1, Inv ρ1 → c ρ1 (fun b ρ2 => if b = true then body { nx := fun ρ' => Inv ρ' ∧ μ ρ' < μ ρ1, ct := fun ρ' => Inv ρ' ∧ μ ρ' < μ ρ1, bk := D.nx, rt := D.rt, ex := D.ex } ρ2 else D.nx ρ2) D.ex
theorem psd_while {c : Expr} {body : List Stmt} {tc : DT} {t : DS} (hp : PassesOwn (model X.prog X.w) X.A X.env X.xe) (hc : PTD X W c tc) (hb : PBD X W body t) : PSD X W (.While c body [] pos) (sWhile tc t) := by
  obtain ⟨t1, p1, s1⟩ := hc
  obtain ⟨t2, p2, s2⟩ := hb
  refine ⟨_, ps_while hp p1 p2, ?_⟩
  intro B Hf ρ σ H D D' S L h
  obtain ⟨Inv, μ, i0, turn⟩ := h
  refine ⟨fun m σ' H' => ∃ ρ' Hf', SO X.K B Hf' ρ' σ' H' ∧ Inv ρ' ∧ m = μ ρ', ⟨_, ρ, Hf, S, i0, rfl⟩, ?_⟩
  rintro m σ' H' ⟨ρ', Hf', S', iv, rfl⟩
  refine s1 B Hf' ρ' σ' H' _ _ _ S' (turn ρ' iv) (fun b ρ2 H2 Hf2 q S2 => ?_) L.ex
  cases b with
  | false => exact L.nx _ _ _ _ q S2
  | true =>
    refine ⟨fun σ3 H3 => ∃ ρ3 Hf3, SO X.K B Hf3 ρ3 σ3 H3 ∧ Inv ρ3 ∧ μ ρ3 < μ ρ', fun σ3 H3 ⟨ρ3, Hf3, S3, i3, l3⟩ => ⟨_, l3, ρ3, Hf3, S3, i3, rfl⟩, ?_⟩
    exact s2 B Hf2 ρ2 σ' H2 { nx := fun ρ3 => Inv ρ3 ∧ μ ρ3 < μ ρ', ct := fun ρ3 => Inv ρ3 ∧ μ ρ3 < μ ρ', bk := D.nx, rt := D.rt, ex := D.ex } _ S2 ⟨fun ρ σ H Hf q S => ⟨ρ, Hf, S, q.1, q.2⟩, L.rt, L.nx, fun ρ σ H Hf q S => ⟨ρ, Hf, S, q.1, q.2⟩, L.ex⟩ q

/-! ### comprehensions -/
abbrev nils : List Sl → List Nat → List Sl
  | ρ, [] => ρ
  | ρ, v :: vs => setS (nils ρ vs) v .nil
theorem SO.nils {K : PySem.W.Frag} {B : Bs} {Hf H : Hp} {ρ : List Sl} {σ : L2.St} (S : SO K B Hf ρ σ H) : ∀ vs, SO K B Hf (nils ρ vs) (wipe σ vs) H
  | [] => S
  | v :: vs => (SO.nils S vs).setNone v
theorem SO.nilsD {K : PySem.W.Frag} {B : Bs} {Hf H : Hp} {ρ : List Sl} {σ : L2.St} (S : SO K B Hf ρ σ H) : ∀ vs, SO K B Hf (DL.nils ρ vs) σ H
  | [] => S
  | v :: vs => (SO.nilsD S vs).setNilD v
/-- a state over other slots' values, where they were wiped -/
theorem SlO.nilAny {K : PySem.W.Frag} {Hf H : Hp} {v w : Option V} {fp : List Addr} (h : SlO K Hf H .nil v fp) : SlO K Hf H .nil w fp := h
theorem SO.unwipe {K : PySem.W.Frag} {B : Bs} {Hf H : Hp} {ρ : List Sl} {σ : L2.St} {i : Nat} (S : SO K B Hf ρ (σ.set i none) H) : SO K B Hf (setS ρ i .nil) σ H := by
  rw [setS_eq]
  by_cases lt : i < ρ.length
  · have S1 := S.nilSl (s := ρ[i]) (i := i) (by simp [lt])
    have lσ : i < σ.length := by have := S.len; rw [List.length_set] at this; omega
    have S2 : SO K B Hf (.nil :: ρ.set i .nil) (σ[i] :: σ.set i none) H := by
      obtain ⟨fp, s1, s2, s3⟩ := S1.sl
      exact ⟨S1.up, S1.sub, S1.fr, fp, ⟨_, _, [], fp, rfl, rfl, rfl, s1⟩, s2, s3⟩
    have S3 := S2.putSl (i := i) (by rw [List.getElem?_set_self lt])
    rw [List.set_set, List.set_set] at S3
    have e : σ.set i σ[i] = σ := set_self_of (by simp [lσ])
    rw [e] at S3
    exact S3
  · have l2 : ¬ i < σ.length := by have := S.len; rw [List.length_set] at this; omega
    rw [List.set_eq_of_length_le (by omega)]
    rw [List.set_eq_of_length_le (by omega)] at S
    exact S
theorem setS_comm {ρ : List Sl} {i j : Nat} : setS (setS ρ i .nil) j .nil = setS (setS ρ j .nil) i .nil := by
  rw [setS_eq, setS_eq, setS_eq, setS_eq]
  by_cases e : i = j
  · rw [e]
  · rw [List.set_comm _ _ e]
theorem nils_set {ρ : List Sl} {i : Nat} : ∀ vs, nils (setS ρ i .nil) vs = setS (nils ρ vs) i .nil
  | [] => rfl
  | v :: vs => by
    show setS (nils (setS ρ i .nil) vs) v .nil = setS (setS (nils ρ vs) v .nil) i .nil
    rw [nils_set vs, setS_comm]
theorem SO.unwipes {K : PySem.W.Frag} {B : Bs} {Hf H : Hp} {σ : L2.St} : ∀ {vs : List Nat} {ρ : List Sl}, SO K B Hf ρ (wipe σ vs) H → SO K B Hf (DL.nils ρ vs) σ H
  | [], _, S => S
  | v :: vs, ρ, S => by
    have S1 : SO K B Hf (setS ρ v .nil) (wipe σ vs) H := SO.unwipe S
    have S2 := SO.unwipes S1
    rw [nils_set] at S2
    exact S2
theorem wipe_get_none {σ : L2.St} {i : Nat} : ∀ {vs : List Nat}, i ∈ vs → (wipe σ vs).set i none = wipe σ vs
  | [], h => by simp at h
  | v :: vs, h => by
    show ((wipe σ vs).set v none).set i none = (wipe σ vs).set v none
    by_cases e : i = v
    · subst e; rw [List.set_set]
    · have h : i ∈ vs := by
        rcases List.mem_cons.mp h with h | h
        · exact absurd h e
        · exact h
      rw [List.set_comm _ _ (Ne.symm e), wipe_get_none h]
theorem wipe_sub {σ : L2.St} {vs : List Nat} : ∀ {us : List Nat}, (∀ i ∈ us, i ∈ vs) → wipe (wipe σ vs) us = wipe σ vs
  | [], _ => rfl
  | u :: us, h => by
    show (wipe (wipe σ vs) us).set u none = wipe σ vs
    rw [wipe_sub (fun i hi => h i (List.mem_cons_of_mem _ hi)), wipe_get_none (h u (by simp))]
theorem wipe_wipe (σ : L2.St) (vs : List Nat) : wipe (wipe σ vs) vs = wipe σ vs := wipe_sub fun _ h => h
theorem nils_get {ρ : List Sl} {i : Nat} : ∀ {vs : List Nat}, i ∈ vs → setS (nils ρ vs) i .nil = nils ρ vs
  | [], h => by simp at h
  | v :: vs, h => by
    show setS (setS (nils ρ vs) v .nil) i .nil = setS (nils ρ vs) v .nil
    by_cases e : i = v
    · subst e; rw [setS_eq, setS_eq, List.set_set]
    · have h : i ∈ vs := by
        rcases List.mem_cons.mp h with h | h
        · exact absurd h e
        · exact h
      rw [setS_comm, nils_get h]
theorem nils_sub {ρ : List Sl} {vs : List Nat} : ∀ {us : List Nat}, (∀ i ∈ us, i ∈ vs) → nils (nils ρ vs) us = nils ρ vs
  | [], _ => rfl
  | u :: us, h => by
    show setS (nils (nils ρ vs) us) u .nil = nils ρ vs
    rw [nils_sub (fun i hi => h i (List.mem_cons_of_mem _ hi)), nils_get (h u (by simp))]
theorem nils_nils (ρ : List Sl) (vs : List Nat) : nils (nils ρ vs) vs = nils ρ vs := nils_sub fun _ h => h
abbrev noX : XD := fun _ _ => False
def W0 : WX := fun _ _ _ _ => False
theorem xl_no {K : PySem.W.Frag} {B : Bs} : XL K B W0 noX := fun _ _ _ _ _ h _ => h.elim
def eLc (src : DI) (g : DG) (tt : DT) (te : DE) (vs : List Nat) : DE := fun ρ Q E => src ρ (fun items ρ1 => ∃ Inv : Nat → List D → List Sl → Prop, Inv 0 [] (nils ρ1 vs) ∧
  (∀ i d acc ρ2, items[i]? = some d → Inv i acc ρ2 → g d (nils ρ2 vs) fun ρ3 => tt ρ3 (fun b ρ4 => if b = true then te ρ4 (fun r ρ5 => frz r ρ5 fun y ρ6 => Inv (i + 1) (acc ++ [y]) (nils ρ6 vs)) noX else Inv (i + 1) acc (nils ρ4 vs)) noX) ∧
  (∀ acc ρ2, Inv items.length acc ρ2 → Q (.ow (.l acc)) ρ2)) E
structure PTsD (X : Cx) (W : WX) (ifs : List Expr) (t : DT) : Prop where
  ex : ∃ te, PTs X ifs te ∧ SemT X.K W te t
abbrev dYes : DT := fun ρ Q _ => Q true ρ
theorem ptsd_nil : PTsD X W [] dYes := ⟨_, pts_nil, fun B Hf ρ σ H Q Qd Ed S h hQ hE => hQ _ _ _ _ h S⟩
theorem ptsd_one {c : Expr} {t : DT} (h : PTD X W c t) : PTsD X W [c] t := let ⟨_, p, s⟩ := h; ⟨_, pts_one p, s⟩
theorem sem_lc {wi : TI} {g : TG} {tt : TT} {te : TE} {src : DI} {gd : DG} {td : DT} {ed : DE} {ix vs : List Nat} (s1 : SemI X.K W wi src) (s2 : SemG X.K g gd ix) (s3 : SemT X.K W0 tt td) (s4 : Sem1 X.K W0 te ed) (hv : ∀ i ∈ ix, i ∈ vs) :
    Sem1 X.K W (tLc wi g tt te vs) (eLc src gd td ed vs) := by
  intro B Hf ρ σ H Q Qd Ed S h hQ hE
  refine s1 B Hf ρ σ H _ _ _ S h (fun items ρ1 H1 Hf1 J q S1 io z => ?_) hE
  obtain ⟨Inv, i0, turn, fin⟩ := q
  obtain ⟨Y, G, wk, hG, hY⟩ := io
  intro DD hD
  -- the new list DD is owned, foreign to the turns
  have nfD : Hf1 DD = none := S1.sub.free hD
  let Bt (acc : List V) : Bs := ⟨upd B.fr DD (.lst acc), Hf1⟩
  have frD : B.fr DD = none := by
    cases e : B.fr DD with
    | none => rfl
    | some o => have := (S1.fr DD o e).1; rw [hD] at this; cases this
  have grow : ∀ {acc acc' : List V} {Hf' H' : Hp} {ρ' : List Sl} {σ' : L2.St}, SO X.K (Bt acc) Hf' ρ' σ' H' → SO X.K (Bt acc') Hf' ρ' σ' (upd H' DD (.lst acc')) := by
    intro acc acc' Hf' H' ρ' σ' S'
    obtain ⟨fp, a1, a2, a3⟩ := S'.sl
    have nD : Hf' DD = none := (S'.fr DD (.lst acc) upd_same).2
    have ne : ∀ b ∈ fp, b ≠ DD := fun b hb e => by
      have := (a3 b hb).2
      rw [e] at this
      have q : (upd B.fr DD (.lst acc)) DD = none := this
      rw [upd_same] at q; cases q
    refine ⟨S'.up, fun b o e => ?_, fun b o e => ?_, fp, a1.mono (Same.refl _) fun b hb => upd_ne (ne b hb), a2, fun b hb => ⟨(a3 b hb).1, ?_⟩⟩
    · by_cases hb : b = DD
      · rw [hb, nD] at e; cases e
      · rw [upd_ne hb]; exact S'.sub _ _ e
    · by_cases hb : b = DD
      · subst hb
        have e : (upd B.fr b (.lst acc')) b = some o := e
        rw [upd_same] at e
        rw [upd_same]; exact ⟨e, nD⟩
      · have e : (upd B.fr DD (.lst acc')) b = some o := e
        rw [upd_ne hb] at e
        rw [upd_ne hb]
        refine S'.fr b o ?_
        show (upd B.fr DD (.lst acc)) b = some o
        rw [upd_ne hb]; exact e
    · have := (a3 b hb).2
      show (upd B.fr DD (.lst acc')) b = none
      rw [upd_ne (ne b hb)]
      have q : (upd B.fr DD (.lst acc)) b = none := this
      rw [upd_ne (ne b hb)] at q; exact q
  have start : SO X.K (Bt []) Hf1 ρ1 σ (upd H1 DD (.lst [])) := by
    obtain ⟨fp, a1, a2, a3⟩ := S1.sl
    have ne : ∀ b ∈ fp, b ≠ DD := fun b hb e => a1.dom b hb (by rw [e]; exact hD)
    refine ⟨Same.refl _, S1.sub.trans (same_upd hD), fun b o e => ?_, fp, a1.mono (Same.refl _) fun b hb => upd_ne (ne b hb), a2, fun b hb => ⟨(a3 b hb).1, ?_⟩⟩
    · by_cases hb : b = DD
      · subst hb
        have e : (upd B.fr b (.lst [])) b = some o := e
        rw [upd_same] at e
        rw [upd_same]; exact ⟨e, nfD⟩
      · have e : (upd B.fr DD (.lst [])) b = some o := e
        rw [upd_ne hb] at e
        rw [upd_ne hb]
        exact S1.fr b o e
    · show (upd B.fr DD (.lst [])) b = none
      rw [upd_ne (ne b hb)]; exact (a3 b hb).2
  refine lc_it wk (fun i H' => ∃ acc ds ρ' Hf', SO X.K (Bt acc) Hf' ρ' σ H' ∧ Reps X.K Hf' acc ds ∧ ds.length ≤ i ∧ Inv i ds ρ') ⟨[], [], nils ρ1 vs, Hf1, start.nilsD vs, .nil, Nat.le_refl _, i0⟩ ?_ ?_ ?_
  · rintro i H' hi ⟨acc, ds, ρ', Hf', S', _⟩
    exact hG H' (S'.up.trans S'.sub)
  · rintro i v H2 H3 hi ⟨acc, ds, ρ', Hf', S', r, hl, iv⟩ y
    obtain ⟨d, hd, hh⟩ := hY i H2 v H3 hi (S'.up.trans S'.sub) y
    have S'' : SO X.K (Bs.up (Bt acc) Hf1) Hf' ρ' σ H2 := S'
    obtain ⟨Hf2, S2, rd, m2⟩ := iter_item S'' hh
    have S2 : SO X.K (Bt acc) Hf2 ρ' σ H3 := S2
    have S3 := (S2.nils vs).raise
    have back : ∀ {acc' : List V} {ρ4 : List Sl} {σ3 : L2.St} {Hf4 H4 : Hp}, SO X.K ((Bt acc').up Hf2) Hf4 ρ4 σ3 H4 → wipe σ3 vs = wipe σ vs → SO X.K (Bt acc') Hf4 (DL.nils ρ4 vs) σ H4 := by
      intro acc' ρ4 σ3 Hf4 H4 S4 w
      have q := (S4.base (B := Bt acc') S2.up).nils vs
      rw [w] at q
      have q2 := q.unwipes
      rw [nils_nils] at q2
      exact q2
    refine s2 ((Bt acc).up Hf2) Hf2 _ _ H3 v d _ _ S3 rd (turn i d ds ρ' hd iv) fun ρ3 σ3 q3 S4 w => ?_
    have w : wipe σ3 vs = wipe σ vs := (w vs hv).trans (wipe_wipe σ vs)
    refine ⟨w, ?_⟩
    refine s3 ((Bt acc).up Hf2) Hf2 ρ3 σ3 H3 _ _ noX S4 q3 (fun b ρ4 H4 Hf4 q4 S5 => ?_) xl_no
    cases b with
    | false => exact ⟨acc, ds, _, Hf4, back S5 w, r.same (m2.trans S5.up), by omega, q4⟩
    | true =>
      refine s4 (((Bt acc).up Hf2).up Hf4) Hf4 ρ4 σ3 H4 _ _ noX S5.raise q4 (fun rr ρ5 H5 y q5 ev => ?_) xl_no
      obtain ⟨Hf6, d', ρ6, S6, r6, q6⟩ := ev.frz q5
      have m6 : Same Hf4 Hf6 := S6.up
      have S7 : SO X.K ((Bt acc).up Hf2) Hf6 ρ6 σ3 H5 := S6.base S5.up
      have S8 := back S7 w
      have la := r.length
      refine ⟨acc, (S8.fr DD (.lst acc) upd_same).1, by omega, acc ++ [y], ds ++ [d'], _, Hf6, grow S8, (r.same ((m2.trans S5.up).trans m6)).append (.cons r6 .nil), ?_, q6⟩
      rw [List.length_append, List.length_singleton]
      omega
  · rintro H' ⟨acc, ds, ρ', Hf', S', r, hl, iv⟩
    have cD := S'.fr DD (.lst acc) upd_same
    refine hQ _ ρ' H' _ (fin ds ρ' iv) ⟨Hf', ?_⟩
    obtain ⟨fp, a1, a2, a3⟩ := S'.sl
    have ne : ∀ b ∈ fp, b ≠ DD := fun b hb e => by
      have := (a3 b hb).2
      rw [e] at this
      have q : (upd B.fr DD (.lst acc)) DD = none := this
      rw [upd_same] at q; cases q
    refine ⟨S1.up.trans S'.up, S'.sub, fun b o e => S'.fr b o ?_, DD :: fp, ⟨_, _, [DD], fp, rfl, rfl, ⟨DD, rfl, rfl, by omega, acc, cD.1, r⟩, a1⟩, List.nodup_cons.mpr ⟨fun h => ne DD h rfl, a2⟩, fun b hb => ?_⟩
    · show (upd B.fr DD (.lst acc)) b = some o
      rw [upd_ne (fun z => by rw [z, frD] at e; cases e)]; exact e
    · rcases List.mem_cons.mp hb with rfl | hb
      · exact ⟨cD.2, frD⟩
      · refine ⟨(a3 b hb).1, ?_⟩
        have q : (upd B.fr DD (.lst acc)) b = none := (a3 b hb).2
        rw [upd_ne (ne b hb)] at q; exact q
end
end DL
set_option Elab.async false
set_option linter.all false
set_option maxRecDepth 100000
set_option maxHeartbeats 1000000
/-! DLe: the call of a def, and a def by its body. -/
namespace DL
open PySem PySem.Spec PyProof.Rows L2

/-- an argument as it is handed over -/
inductive Ag where
  | fz (d : D) | bw (i : Nat) | ow (c : Cn) | sc (ns : List Int)
/-- how a borrowed slot comes back -/
inductive Bk where
  | no | ow (i : Nat) | pw (i : Nat) (a : Addr)
inductive RR where
  | fz (d : D) | ow (c : Cn)
abbrev RR.vr : RR → VR
  | .fz d => .fz d
  | .ow c => .ow c
abbrev RR.sl : RR → Sl
  | .fz d => .fz d
  | .ow c => .ow c
/-- a def's promise as data: its arguments, the wished end (result, arguments behind it), the wished exception -/
abbrev FS := List Sl → (RR → List Sl → Prop) → (Addr → List Sl → Prop) → Prop
def spOf (K : PySem.W.Frag) (n : Nat) (fs : FS) : Sp := fun vs H Q E => vs.length = n ∧ ∃ (fr Hf : Hp) (as : List Sl), SO K ⟨fr, Hf⟩ Hf as (vs.map some) H ∧
  fs as (fun r as' => ∀ Hf' H' v, SO K ⟨fr, Hf⟩ Hf' (r.sl :: as') (some v :: vs.map some) H' → Q v H') (fun C as' => ∀ Hf' H', SO K ⟨fr, Hf⟩ Hf' as' (vs.map some) H' → E (.ref C) none H')

/-- a def's promise: what it asks, what it gives (the result, the arguments behind it), which exceptions -/
structure Spc where
  pre : List Sl → Prop
  post : List Sl → RR → List Sl → Prop
  exc : List Sl → Addr → List Sl → Prop := fun _ _ _ => False
def Spc.fs (p : Spc) : FS := fun as Q E => p.pre as ∧ (∀ r as', p.post as r as' → Q r as') ∧ (∀ C as', p.exc as C as' → E C as')

def AgO (K : PySem.W.Frag) (Hf : Hp) (σ : L2.St) : Ag → V → Prop
  | .fz d, v => Rep K Hf v d
  | .bw i, v => σ[i]? = some (some v)
  | .ow _, _ => True
  | .sc ns, v => ∃ a, v = .ref a ∧ SqL K Hf a (ns.map V.int)
def tops : List Ag → List Sl
  | [] => []
  | .ow c :: r => .ow c :: tops r
  | _ :: r => tops r
def topV : List Ag → List V → L2.St
  | .ow _ :: r, v :: vs => some v :: topV r vs
  | _ :: r, _ :: vs => topV r vs
  | _, _ => []
abbrev DC := List Sl → (List Ag → List Sl → Prop) → XD → Prop
def SemC (K : PySem.W.Frag) (W : WX) (ta : TA) (n : Nat) (t : DC) : Prop := ∀ B Hf ρ σ H (Q : List V → Hp → Prop) Qd Ed, SO K B Hf ρ σ H → t ρ Qd Ed → (∀ ags ρ' H' Hf' vs, Qd ags ρ' → SO K B Hf' (tops ags ++ ρ') (topV ags vs ++ σ) H' → Paired (AgO K Hf' σ) ags vs → vs.length = n → Q vs H') → XL K B W Ed → ta σ H Q
structure PCD (X : Cx) (W : WX) (es : List Expr) (t : DC) : Prop where
  ex : ∃ ta, PA X es ta ∧ SemC X.K W ta es.length t
theorem AgO.mono {K : PySem.W.Frag} {Hf Hf' : Hp} {σ : L2.St} {a : Ag} {v : V} (e : Same Hf Hf') (h : AgO K Hf σ a v) : AgO K Hf' σ a v := by
  cases a with
  | fz d => exact Rep.same e h
  | bw i => exact h
  | ow c => trivial
  | sc ns => obtain ⟨a, e1, h⟩ := h; exact ⟨a, e1, e.seq h⟩
section
variable {X : Cx} {W : WX} {pos : Pos}
abbrev cNil : DC := fun ρ Q _ => Q [] ρ
/-- a value that is kept (or the script) -/
abbrev cFz (te : DE) (ta : DC) : DC := fun ρ Q E => te ρ (fun r ρ1 => match r with
  | .sc ns => ta ρ1 (fun ags ρ2 => Q (.sc ns :: ags) ρ2) E
  | r => frz r ρ1 fun d ρ2 => ta ρ2 (fun ags ρ3 => Q (.fz d :: ags) ρ3) E) E
/-- an owned list at a name is lent -/
abbrev cBw (te : DE) (ta : DC) : DC := fun ρ Q E => te ρ (fun r ρ1 => match r with
  | .bw i => ta ρ1 (fun ags ρ2 => Q (.bw i :: ags) ρ2) E
  | _ => False) E
/-- a fresh owned list is handed over, the last argument -/
abbrev cOw (te : DE) : DC := fun ρ Q E => te ρ (fun r ρ1 => match r with
  | .ow c => Q [.ow c] ρ1
  | _ => False) E
theorem pcd_nil : PCD X W [] cNil := ⟨_, pa_nil, fun B Hf ρ σ H Q Qd Ed S h hQ hE => hQ [] _ _ Hf _ h S .nil rfl⟩
theorem pcd_fz {e : Expr} {es : List Expr} {te : DE} {ta : DC} (he : PD X W e te) (ha : PCD X W es ta) (hs : starEach (e :: es) X.env = (false, eval e X.env) :: starEach es X.env := by rfl) : PCD X W (e :: es) (cFz te ta) := by
  obtain ⟨t1, p1, s1⟩ := he
  obtain ⟨t2, p2, s2⟩ := ha
  refine ⟨_, pa_cons p1 p2 hs, ?_⟩
  intro B Hf ρ σ H Q Qd Ed S h hQ hE
  refine s1 B Hf ρ σ H _ _ Ed S h (fun r1 ρ1 H1 v1 q1 e1 => ?_) hE
  have other : ∀ d ρ2 Hf1, SO X.K B Hf1 ρ2 σ H1 → Rep X.K Hf1 v1 d → ta ρ2 (fun ags ρ3 => Qd (.fz d :: ags) ρ3) Ed → t2 σ H1 fun xs H2 => Q (v1 :: xs) H2 := by
    intro d ρ2 Hf1 S1 h1 q
    refine s2 (B.up Hf1) Hf1 ρ2 σ H1 _ _ Ed S1.raise q (fun ags ρ3 H2 Hf2 vs q2 S2 h2 l2 => ?_) (hE.up S1.up)
    exact hQ (.fz d :: ags) ρ3 H2 Hf2 (v1 :: vs) q2 (S2.base S1.up) (.cons (h1.same S2.up) h2) (congrArg (· + 1) l2)
  cases r1 with
  | sc ns =>
    obtain ⟨Hf1, a, S1, rfl, h1⟩ := e1
    refine s2 (B.up Hf1) Hf1 ρ1 σ H1 _ _ Ed S1.raise q1 (fun ags ρ3 H2 Hf2 vs q2 S2 h2 l2 => ?_) (hE.up S1.up)
    exact hQ (.sc ns :: ags) ρ3 H2 Hf2 (_ :: vs) q2 (S2.base S1.up) (.cons ⟨a, rfl, S2.up.seq h1⟩ h2) (congrArg (· + 1) l2)
  | fz d =>
    obtain ⟨Hf1, d, ρ2, S1, h1, q⟩ := e1.frz q1
    exact other d ρ2 Hf1 S1 h1 q
  | ow c =>
    obtain ⟨Hf1, d, ρ2, S1, h1, q⟩ := e1.frz q1
    exact other d ρ2 Hf1 S1 h1 q
  | bw i =>
    obtain ⟨Hf1, d, ρ2, S1, h1, q⟩ := e1.frz q1
    exact other d ρ2 Hf1 S1 h1 q
theorem pcd_bw {e : Expr} {es : List Expr} {te : DE} {ta : DC} (he : PD X W e te) (ha : PCD X W es ta) (hs : starEach (e :: es) X.env = (false, eval e X.env) :: starEach es X.env := by rfl) : PCD X W (e :: es) (cBw te ta) := by
  obtain ⟨t1, p1, s1⟩ := he
  obtain ⟨t2, p2, s2⟩ := ha
  refine ⟨_, pa_cons p1 p2 hs, ?_⟩
  intro B Hf ρ σ H Q Qd Ed S h hQ hE
  refine s1 B Hf ρ σ H _ _ Ed S h (fun r1 ρ1 H1 v1 q1 e1 => ?_) hE
  cases r1 with
  | bw i =>
    obtain ⟨⟨Hf1, S1⟩, h1⟩ := e1
    refine s2 B Hf1 ρ1 σ H1 _ _ Ed S1 q1 (fun ags ρ3 H2 Hf2 vs q2 S2 h2 l2 => ?_) hE
    exact hQ (.bw i :: ags) ρ3 H2 Hf2 (v1 :: vs) q2 S2 (.cons h1 h2) (congrArg (· + 1) l2)
  | _ => exact q1.elim
theorem pcd_ow {e : Expr} {te : DE} (he : PD X W e te) (hs : starEach [e] X.env = (false, eval e X.env) :: starEach [] X.env := by rfl) : PCD X W [e] (cOw te) := by
  obtain ⟨t1, p1, s1⟩ := he
  refine ⟨_, pa_cons p1 pa_nil hs, ?_⟩
  intro B Hf ρ σ H Q Qd Ed S h hQ hE
  refine s1 B Hf ρ σ H _ _ Ed S h (fun r1 ρ1 H1 v1 q1 e1 => ?_) hE
  cases r1 with
  | ow c =>
    obtain ⟨Hf1, S1⟩ := e1
    exact hQ [.ow c] ρ1 H1 Hf1 [v1] q1 S1 (.cons trivial .nil) rfl
  | _ => exact q1.elim

/-- what is handed over is taken out of the slots -/
abbrev resA : List Ag → List Sl → (List Sl → List Sl → List Bk → Prop) → Prop
  | [], ρ, k => k [] ρ []
  | .fz d :: r, ρ, k => resA r ρ fun as ρ' bs => k (.fz d :: as) ρ' (.no :: bs)
  | .sc ns :: r, ρ, k => resA r ρ fun as ρ' bs => k (.sc ns :: as) ρ' (.no :: bs)
  | .ow c :: r, ρ, k => resA r ρ fun as ρ' bs => k (.ow c :: as) ρ' (.no :: bs)
  | .bw i :: r, ρ, k => match getS ρ i with
    | .ow c => resA r (setS ρ i .nil) fun as ρ' bs => k (.ow c :: as) ρ' (.ow i :: bs)
    | .pw a c => resA r (setS ρ i .nil) fun as ρ' bs => k (.ow c :: as) ρ' (.pw i a :: bs)
    | _ => False
abbrev toPw (a : Addr) : Sl → Sl
  | .ow c => .pw a c
  | s => s
abbrev backA : List Bk → List Sl → List Sl → List Sl
  | .ow i :: r, s :: ss, ρ => backA r ss (setS ρ i s)
  | .pw i a :: r, s :: ss, ρ => backA r ss (setS ρ i (toPw a s))
  | .no :: r, _ :: ss, ρ => backA r ss ρ
  | _, _, ρ => ρ
theorem SlsO.split {K : PySem.W.Frag} {Hf H : Hp} : ∀ {ρ1 ρ2 : List Sl} {σ1 σ2 : L2.St} {fp : List Addr}, σ1.length = ρ1.length → SlsO K Hf H (ρ1 ++ ρ2) (σ1 ++ σ2) fp → ∃ f1 f2, fp = f1 ++ f2 ∧ SlsO K Hf H ρ1 σ1 f1 ∧ SlsO K Hf H ρ2 σ2 f2
  | [], _, [], _, fp, _, h => ⟨[], fp, rfl, ⟨rfl, rfl⟩, h⟩
  | [], _, _ :: _, _, _, l, _ => by simp at l
  | _ :: _, _, [], _, _, l, _ => by simp at l
  | s :: ρ1, ρ2, v :: σ1, σ2, _, l, ⟨v', σ', f1, f2, e1, e2, h1, h2⟩ => by
    cases e1; subst e2
    obtain ⟨g1, g2, e, q1, q2⟩ := SlsO.split (ρ1 := ρ1) (σ1 := σ1) (by simpa using l) h2
    subst e
    exact ⟨f1 ++ g1, g2, by rw [List.append_assoc], ⟨v, σ1, f1, g1, rfl, rfl, h1, q1⟩, q2⟩
theorem SlsO.join {K : PySem.W.Frag} {Hf H : Hp} : ∀ {ρ1 ρ2 : List Sl} {σ1 σ2 : L2.St} {f1 f2 : List Addr}, SlsO K Hf H ρ1 σ1 f1 → SlsO K Hf H ρ2 σ2 f2 → SlsO K Hf H (ρ1 ++ ρ2) (σ1 ++ σ2) (f1 ++ f2)
  | [], _, _, _, _, _, ⟨e1, e2⟩, h => by subst e1 e2; exact h
  | s :: ρ1, _, _, _, _, _, ⟨v, σ', g1, g2, e1, e2, h1, h2⟩, h => by
    subst e1 e2
    exact ⟨v, _, g1, _, rfl, by rw [List.append_assoc], h1, SlsO.join h2 h⟩
/-- a borrowed slot stands empty, its value as it was -/
def BkO (σ : L2.St) (ρ : List Sl) : Bk → V → Prop
  | .no, _ => True
  | .ow i, v => σ[i]? = some (some v) ∧ ρ[i]? = some .nil
  | .pw i a, v => σ[i]? = some (some v) ∧ v = .ref a ∧ ρ[i]? = some .nil
def bkIx : List Bk → List Nat
  | [] => []
  | .ow i :: r => i :: bkIx r
  | .pw i _ :: r => i :: bkIx r
  | .no :: r => bkIx r
theorem resA_ok {K : PySem.W.Frag} {Hf H : Hp} {σ : L2.St} : ∀ {ags : List Ag} {ρ : List Sl} {vs : List V} {k : List Sl → List Sl → List Bk → Prop} {f0 f1 : List Addr},
    resA ags ρ k → Paired (AgO K Hf σ) ags vs → SlsO K Hf H (tops ags) (topV ags vs) f0 → SlsO K Hf H ρ σ f1 →
    ∃ as ρ2 bs fa fr, k as ρ2 bs ∧ SlsO K Hf H as (vs.map some) fa ∧ SlsO K Hf H ρ2 σ fr ∧ (f0 ++ f1).Perm (fa ++ fr) ∧ Paired (BkO σ ρ2) bs vs ∧ (bkIx bs).Nodup ∧ (∀ i : Nat, ρ[i]? = some .nil → ρ2[i]? = some .nil ∧ i ∉ bkIx bs)
  | [], ρ, _, k, f0, f1, h, .nil, ⟨_, e⟩, h1 => by
    subst e
    exact ⟨[], ρ, [], [], f1, h, ⟨rfl, rfl⟩, h1, List.Perm.refl _, .nil, List.nodup_nil, fun i e => ⟨e, by simp [bkIx]⟩⟩
  | .fz d :: r, ρ, _, k, f0, f1, h, .cons (b := v) ha hr, h0, h1 => by
    obtain ⟨as, ρ2, bs, fa, fr, q, q1, q2, q3, q4, q5, q6⟩ := resA_ok (ags := r) h hr h0 h1
    exact ⟨_, ρ2, _, fa, fr, q, ⟨some v, _, [], fa, rfl, rfl, ⟨rfl, v, rfl, ha⟩, q1⟩, q2, q3, .cons trivial q4, q5, q6⟩
  | .sc ns :: r, ρ, _, k, f0, f1, h, .cons (b := v) ha hr, h0, h1 => by
    obtain ⟨as, ρ2, bs, fa, fr, q, q1, q2, q3, q4, q5, q6⟩ := resA_ok (ags := r) h hr h0 h1
    obtain ⟨a, e, ha⟩ := ha
    exact ⟨_, ρ2, _, fa, fr, q, ⟨some v, _, [], fa, rfl, rfl, ⟨rfl, a, by rw [e], ha⟩, q1⟩, q2, q3, .cons trivial q4, q5, q6⟩
  | .ow c :: r, ρ, _, k, f0, f1, h, .cons (b := v) ha hr, ⟨w, σ', g1, g2, e1, e2, h0, h0'⟩, h1 => by
    cases e1; subst e2
    obtain ⟨as, ρ2, bs, fa, fr, q, q1, q2, q3, q4, q5, q6⟩ := resA_ok (ags := r) h hr h0' h1
    refine ⟨_, ρ2, _, g1 ++ fa, fr, q, ⟨some v, _, g1, fa, rfl, rfl, h0, q1⟩, q2, ?_, .cons trivial q4, q5, q6⟩
    rw [List.append_assoc, List.append_assoc]
    exact q3.append_left g1
  | .bw i :: r, ρ, _, k, f0, f1, h, .cons (b := v) (l₂ := ws) ha hr, h0, h1 => by
    have ha : σ[i]? = some (some v) := ha
    unfold resA at h
    generalize hs : getS ρ i = s at h
    have core : ∀ (c : Cn) (bk : Bk), (∀ ρ2 : List Sl, ρ2[i]? = some .nil → BkO σ ρ2 bk v) → bkIx [bk] = [i] → ρ[i]? = some s → (∀ fp, SlO K Hf H s (some v) fp → SlO K Hf H (.ow c) (some v) fp) → resA r (setS ρ i .nil) (fun as ρ' bs => k (.ow c :: as) ρ' (bk :: bs)) →
        ∃ as ρ2 bs fa fr, k as ρ2 bs ∧ SlsO K Hf H as (List.map some (v :: ws)) fa ∧ SlsO K Hf H ρ2 σ fr ∧ (f0 ++ f1).Perm (fa ++ fr) ∧ Paired (BkO σ ρ2) bs (v :: ws) ∧ (bkIx bs).Nodup ∧ (∀ i : Nat, ρ[i]? = some .nil → ρ2[i]? = some .nil ∧ i ∉ bkIx bs) := by
      intro c bk hbk hix hi hsl h
      rw [setS_eq] at h
      obtain ⟨v', g1, g2, e1, t1, t2, t3⟩ := h1.take hi
      rw [ha] at e1; cases e1
      obtain ⟨as, ρ2, bs, fa, fr, q, q1, q2, q3, q4, q5, q6⟩ := resA_ok (ags := r) h hr h0 t2
      have lt : i < ρ.length := (List.getElem?_eq_some_iff.mp hi).1
      have nil_i := q6 i (by rw [List.getElem?_set_self lt])
      have hib : bkIx (bk :: bs) = i :: bkIx bs := by
        cases bk with
        | no => cases hix
        | ow j => cases hix; rfl
        | pw j a => cases hix; rfl
      refine ⟨_, ρ2, _, g1 ++ fa, fr, q, ⟨some v, _, g1, fa, rfl, rfl, hsl _ t1, q1⟩, q2, ?_, .cons (hbk ρ2 nil_i.1) q4, ?_, fun j hj => ?_⟩
      · refine (List.Perm.append_left f0 t3).trans ?_
        rw [← List.append_assoc]
        refine (List.Perm.append_right g2 List.perm_append_comm).trans ?_
        rw [List.append_assoc, List.append_assoc]
        exact q3.append_left g1
      · rw [hib]; exact List.nodup_cons.mpr ⟨nil_i.2, q5⟩
      · have ne : j ≠ i := fun z => by
          subst z
          rw [hi] at hj
          have := hsl _ t1
          cases hj
          obtain ⟨a, _, ow⟩ := this
          have t1 : g1 = [] := t1
          subst t1
          cases c with
          | l ds => obtain ⟨z, _⟩ := ow; cases z
        have := q6 j (by rw [List.getElem?_set_ne (Ne.symm ne)]; exact hj)
        rw [hib]
        exact ⟨this.1, fun z => (List.mem_cons.mp z).elim ne this.2⟩
    cases s with
    | ow c => exact core c (.ow i) (fun ρ2 e => ⟨ha, e⟩) rfl (getS_eq hs (fun z => nomatch z)) (fun _ z => z) h
    | pw a c =>
      have hi := getS_eq hs (fun z => nomatch z)
      obtain ⟨v', g1, g2, e1, t1, t2, t3⟩ := h1.take hi
      rw [ha] at e1; cases e1
      obtain ⟨e2, t1⟩ := t1
      cases e2
      exact core c (.pw i a) (fun ρ2 e => ⟨ha, rfl, e⟩) rfl hi (fun fp z => ⟨a, z.1, z.2⟩) h
    | _ => exact h.elim
theorem BkOs_set {σ : L2.St} {ρ : List Sl} {i : Nat} {s : Sl} : ∀ {bs : List Bk} {vs : List V}, i ∉ bkIx bs → Paired (BkO σ ρ) bs vs → Paired (BkO σ (setS ρ i s)) bs vs
  | [], _, _, .nil => .nil
  | .no :: r, _, h, .cons a b => .cons trivial (BkOs_set (bs := r) h b)
  | .ow j :: r, _, h, .cons a b => by
    have hj : i ≠ j := fun z => h (by simp [bkIx, z])
    refine .cons ⟨a.1, ?_⟩ (BkOs_set (bs := r) (fun z => h (List.mem_cons_of_mem _ z)) b)
    rw [setS_eq, List.getElem?_set_ne hj]; exact a.2
  | .pw j c :: r, _, h, .cons a b => by
    have hj : i ≠ j := fun z => h (by simp [bkIx, z])
    refine .cons ⟨a.1, a.2.1, ?_⟩ (BkOs_set (bs := r) (fun z => h (List.mem_cons_of_mem _ z)) b)
    rw [setS_eq, List.getElem?_set_ne hj]; exact a.2.2
theorem backA_ok {K : PySem.W.Frag} {Hf H : Hp} {σ : L2.St} : ∀ {bs : List Bk} {as ρ : List Sl} {vs : List V} {fa fr : List Addr}, SlsO K Hf H as (vs.map some) fa → SlsO K Hf H ρ σ fr → Paired (BkO σ ρ) bs vs → (bkIx bs).Nodup →
    ∃ f g, SlsO K Hf H (backA bs as ρ) σ f ∧ (f ++ g).Perm (fa ++ fr)
  | [], as, ρ, _, fa, fr, h, h1, .nil, _ => by
    refine ⟨fr, fa, ?_, List.perm_append_comm⟩
    cases as <;> exact h1
  | b :: bs, [], ρ, _, fa, fr, ⟨e, _⟩, h1, .cons _ _, _ => by cases e
  | .no :: bs, s :: as, ρ, _, _, fr, ⟨v, σ', g1, g2, e1, e2, h1, h2⟩, h, .cons hb hbs, nd => by
    cases e1; subst e2
    obtain ⟨f, g, q1, q2⟩ := backA_ok (bs := bs) h2 h hbs nd
    refine ⟨f, g1 ++ g, q1, ?_⟩
    rw [List.append_assoc, ← List.append_assoc]
    refine (List.Perm.append_right g List.perm_append_comm).trans ?_
    rw [List.append_assoc]
    exact q2.append_left g1
  | .ow i :: bs, s :: as, ρ, w :: ws, _, fr, ⟨v, σ', g1, g2, e1, e2, h1, h2⟩, h, .cons hb hbs, nd => by
    cases e1; subst e2
    obtain ⟨b1, b2⟩ := hb
    obtain ⟨fp, p1, p2⟩ := h.put b2 h1
    rw [set_self_of b1, ← setS_eq] at p1
    have nd := List.nodup_cons.mp nd
    obtain ⟨f, g, q1, q2⟩ := backA_ok (bs := bs) h2 p1 (BkOs_set nd.1 hbs) nd.2
    refine ⟨f, g, q1, q2.trans ((List.Perm.append_left g2 p2).trans ?_)⟩
    rw [← List.append_assoc]
    exact List.Perm.append_right fr List.perm_append_comm
  | .pw i a :: bs, s :: as, ρ, w :: ws, _, fr, ⟨v, σ', g1, g2, e1, e2, h1, h2⟩, h, .cons hb hbs, nd => by
    cases e1; subst e2
    obtain ⟨b1, b3, b2⟩ := hb
    have h1' : SlO K Hf H (toPw a s) (some w) g1 := by
      cases s with
      | ow c =>
        obtain ⟨a', e, q⟩ := h1
        rw [b3] at e ⊢
        cases e
        exact ⟨rfl, q⟩
      | _ => exact h1
    obtain ⟨fp, p1, p2⟩ := h.put b2 h1'
    rw [set_self_of b1, ← setS_eq] at p1
    have nd := List.nodup_cons.mp nd
    obtain ⟨f, g, q1, q2⟩ := backA_ok (bs := bs) h2 p1 (BkOs_set nd.1 hbs) nd.2
    refine ⟨f, g, q1, q2.trans ((List.Perm.append_left g2 p2).trans ?_)⟩
    rw [← List.append_assoc]
    exact List.Perm.append_right fr List.perm_append_comm

/-! ### the call -/
theorem sub_of {f g l : List Addr} (p : (f ++ g).Perm l) : ∀ b ∈ f, b ∈ l := fun b hb => p.mem_iff.mp (List.mem_append_left _ hb)
def frOf (H fr0 : Hp) (l : List Addr) : Hp := fun b => if b ∈ l then H b else fr0 b
/-- the frame rule: what the callee is given, and what comes back -/
theorem call_frame {K : PySem.W.Frag} {B : Bs} {Hf H : Hp} {σ : L2.St} {ags : List Ag} {ρ : List Sl} {vs : List V} {k : List Sl → List Sl → List Bk → Prop}
    (S : SO K B Hf (tops ags ++ ρ) (topV ags vs ++ σ) H) (ha : Paired (AgO K Hf σ) ags vs) (h : resA ags ρ k) : ∃ as ρ2 bs fr, k as ρ2 bs ∧ SO K ⟨fr, Hf⟩ Hf as (vs.map some) H ∧
      (∀ Hf' H' (r : RR) (v : V) as', SO K ⟨fr, Hf⟩ Hf' (r.sl :: as') (some v :: vs.map some) H' → EV K B (backA bs as' ρ2) σ H' r.vr v) ∧
      (∀ Hf' H' as', SO K ⟨fr, Hf⟩ Hf' as' (vs.map some) H' → ∃ Hf2, SO K B Hf2 (backA bs as' ρ2) σ H') := by
  obtain ⟨fp, s1, s2, s3⟩ := S.sl
  have tl : ∀ (ags : List Ag) (vs : List V), Paired (AgO K Hf σ) ags vs → (topV ags vs).length = (tops ags).length := by
    intro ags vs p
    induction p with
    | nil => rfl
    | @cons a b l1 l2 _ _ ih => cases a <;> simp [topV, tops, ih]
  obtain ⟨f0, f1, rfl, t0, t1⟩ := s1.split (tl ags vs ha)
  obtain ⟨as, ρ2, bs, fa, fr, q, q1, q2, q3, q4, q5, q6⟩ := resA_ok h ha t0 t1
  have nd := q3.nodup_iff.mp s2
  have s3' : ∀ a ∈ fa ++ fr, Hf a = none ∧ B.fr a = none := fun a h => s3 a (q3.mem_iff.mpr h)
  have dj : ∀ b ∈ fr, b ∉ fa := fun b h1 h2 => (List.nodup_append.mp nd).2.2 b h2 b h1 rfl
  refine ⟨as, ρ2, bs, frOf H B.fr fr, q, ⟨Same.refl _, S.sub, fun b o e => ?_, fa, q1, (List.nodup_append.mp nd).1, fun b hb => ⟨(s3' b (List.mem_append_left _ hb)).1, ?_⟩⟩, ?_, ?_⟩
  · have e : (if b ∈ fr then H b else B.fr b) = some o := e
    by_cases hb : b ∈ fr
    · rw [if_pos hb] at e
      exact ⟨e, (s3' b (List.mem_append_right _ hb)).1⟩
    · rw [if_neg hb] at e
      exact S.fr b o e
  · show (if b ∈ fr then H b else B.fr b) = none
    rw [if_neg (fun z => dj b z hb)]
    exact (s3' b (List.mem_append_left _ hb)).2
  all_goals
    have keep : ∀ {Hf' H' : Hp}, (∀ a o, frOf H B.fr fr a = some o → H' a = some o ∧ Hf' a = none) → (∀ b ∈ fr, H' b = H b) ∧ (∀ b ∈ fr, Hf' b = none ∧ B.fr b = none) ∧ (∀ a o, B.fr a = some o → H' a = some o ∧ Hf' a = none) := by
      intro Hf' H' hk
      have h1 : ∀ b ∈ fr, ∃ o, H b = some o ∧ H' b = some o ∧ Hf' b = none := fun b hb => by
        cases e : H b with
        | none => exact absurd e (q2.dom b hb)
        | some o => exact ⟨o, rfl, hk b o (by show (if b ∈ fr then H b else B.fr b) = some o; rw [if_pos hb, e])⟩
      refine ⟨fun b hb => ?_, fun b hb => ⟨?_, (s3' b (List.mem_append_right _ hb)).2⟩, fun a o e => hk a o ?_⟩
      · obtain ⟨o, x, y, _⟩ := h1 b hb
        rw [x, y]
      · obtain ⟨o, x, y, z⟩ := h1 b hb
        exact z
      · show (if a ∈ fr then H a else B.fr a) = some o
        rw [if_neg (fun z => by rw [(s3' a (List.mem_append_right _ z)).2] at e; cases e)]
        exact e
    have outN : ∀ {b : Addr}, frOf H B.fr fr b = none → b ∉ fr ∧ B.fr b = none := by
      intro b e
      have e : (if b ∈ fr then H b else B.fr b) = none := e
      by_cases hb : b ∈ fr
      · rw [if_pos hb] at e; exact absurd e (q2.dom b hb)
      · rw [if_neg hb] at e; exact ⟨hb, e⟩
  · intro Hf' H' r v as' S'
    obtain ⟨k1, k2, k3⟩ := keep S'.fr
    obtain ⟨fq, ⟨v', σ', g1, g2, e1, e2, u1, u2⟩, n1, n2⟩ := S'.sl
    cases e1; subst e2
    obtain ⟨f, g, w1, w2⟩ := backA_ok u2 (q2.mono S'.up k1) q4 q5
    have nall : (g1 ++ (g2 ++ fr)).Nodup := by
      rw [← List.append_assoc]
      exact List.nodup_append.mpr ⟨n1, (List.nodup_append.mp nd).2.1, fun a h1 b h2 e => (outN (n2 a h1).2).1 (e ▸ h2)⟩
    have nf : (g1 ++ f).Nodup := by
      have p2 : (g1 ++ (f ++ g)).Perm (g1 ++ (g2 ++ fr)) := w2.append_left g1
      have := p2.nodup_iff.mpr nall
      rw [← List.append_assoc] at this
      exact (List.nodup_append.mp this).1
    have cond : ∀ a ∈ g1 ++ f, Hf' a = none ∧ B.fr a = none := fun a h => by
      rcases List.mem_append.mp h with h | h
      · exact ⟨(n2 a (List.mem_append_left _ h)).1, (outN (n2 a (List.mem_append_left _ h)).2).2⟩
      · rcases List.mem_append.mp (sub_of w2 a h) with h | h
        · exact ⟨(n2 a (List.mem_append_right _ h)).1, (outN (n2 a (List.mem_append_right _ h)).2).2⟩
        · exact k2 a h
    have S2 : SO K B Hf' (r.sl :: backA bs as' ρ2) (some v :: σ) H' := ⟨S.up.trans S'.up, S'.sub, k3, g1 ++ f, ⟨_, _, g1, f, rfl, rfl, u1, w1⟩, nf, cond⟩
    cases r with
    | fz d =>
      obtain ⟨_, x, e, p⟩ := u1
      cases e
      exact ⟨Hf', S2.drop, p⟩
    | ow c => exact ⟨Hf', S2⟩
  · intro Hf' H' as' S'
    obtain ⟨k1, k2, k3⟩ := keep S'.fr
    obtain ⟨fq, u2, n1, n2⟩ := S'.sl
    obtain ⟨f, g, w1, w2⟩ := backA_ok u2 (q2.mono S'.up k1) q4 q5
    have nall : (fq ++ fr).Nodup := List.nodup_append.mpr ⟨n1, (List.nodup_append.mp nd).2.1, fun a h1 b h2 e => (outN (n2 a h1).2).1 (e ▸ h2)⟩
    exact ⟨Hf', S.up.trans S'.up, S'.sub, k3, f, w1, (List.nodup_append.mp (w2.nodup_iff.mpr nall)).1, fun a h => by
      rcases List.mem_append.mp (sub_of w2 a h) with h | h
      · exact ⟨(n2 a h).1, (outN (n2 a h).2).2⟩
      · exact k2 a h⟩
abbrev eCall (fs : FS) (tc : DC) : DE := fun ρ Q E => tc ρ (fun ags ρ1 => resA ags ρ1 fun as ρ2 bs => fs as (fun r as' => Q r.vr (backA bs as' ρ2)) (fun C as' => E C (backA bs as' ρ2))) E
theorem PA.len {es : List Expr} {t : TA} : True := trivial
theorem pd_call {x : Str} {p : Pos} {e : Expr} {es : List Expr} {k n : Nat} {f : Addr} {fd : FuncData} {ps : List Str} {sp : Spc} {tc : DC} (tk : Takes X W) (F : FnOk X.prog X.w X.K X.mg X.base (L2.CX X.prog X.w) k f fd ps (spOf X.K n sp.fs)) (hr : Room k X.A) (hg : Gl X x) (hm : X.mg x = some (.ref f)) (hk : PySem.W.keepIn X.K (.ref f) = true) (hb : Binds X.K fd ps [])
    (ha : PCD X W (e :: es) tc) (hl : (e :: es).length = n := by rfl) (hdb : (x == ("__debug__" : Str)) = false := by decide) (he : starEach (e :: es) X.env = (false, eval e X.env) :: starEach es X.env := by rfl) (hpl : (backTo pos (starEach es X.env)).any (·.1) = false := by rfl) :
    PD X W (.Call (.Name x p) (e :: es) [] pos) (eCall sp.fs tc) := by
  obtain ⟨ta, pa, sa⟩ := ha
  refine ⟨_, pe_callS (E := WE W) F hr hg hm hk hb (fun σ => passAt tk σ) pa hdb he hpl, ?_⟩
  intro B Hf ρ σ H Q Qd Ed S h hQ hE
  refine sa B Hf ρ σ H _ _ Ed S h (fun ags ρ1 H1 Hf1 vs q S1 h1 l1 => ?_) hE
  obtain ⟨as, ρ2, bs, fr, q2, S2, back, backX⟩ := call_frame S1 h1 q
  refine ⟨l1.trans hl, fr, Hf1, as, S2, ?_⟩
  refine ⟨q2.1, fun r as' p Hf' H' v S3 => hQ _ _ H' v (q2.2.1 r as' p) (back Hf' H' r v as' S3), fun C as' p Hf' H' S3 => ?_⟩
  obtain ⟨Hf2, S4⟩ := backX Hf' H' as' S3
  exact hE C _ σ H' Hf2 (q2.2.2 C as' p) S4

/-! ### a def by its body -/
abbrev startS : List Sl → (Nat → Addr) → Nat → List Sl
  | [], _, _ => []
  | .ow c :: as, ad, i => .pw (ad i) c :: startS as ad (i + 1)
  | s :: as, ad, i => s :: startS as ad (i + 1)
abbrev outs : List Sl → (Nat → Addr) → Nat → List Sl → (List Sl → Prop) → Prop
  | [], _, _, _, k => k []
  | .ow _ :: as, ad, i, .pw a c :: ρ, k => a = ad i ∧ outs as ad (i + 1) ρ fun l => k (.ow c :: l)
  | .fz d :: as, ad, i, _ :: ρ, k => outs as ad (i + 1) ρ fun l => k (.fz d :: l)
  | .sc ns :: as, ad, i, _ :: ρ, k => outs as ad (i + 1) ρ fun l => k (.sc ns :: l)
  | _, _, _, _, _ => False
abbrev endR (as : List Sl) (ad : Nat → Addr) (Q : RR → List Sl → Prop) (r : VR) (ρ : List Sl) : Prop := match r with
  | .fz d => outs as ad 0 ρ fun l => Q (.fz d) l
  | .ow c => outs as ad 0 ρ fun l => Q (.ow c) l
  | .sc _ => False
  | .bw i => match getS ρ i with
    | .ow c => outs as ad 0 (setS ρ i .nil) fun l => Q (.ow c) l
    | .fz d => outs as ad 0 ρ fun l => Q (.fz d) l
    | _ => False
abbrev endsOf (p : Spc) (as : List Sl) (ad : Nat → Addr) : DEnds :=
  { nx := fun ρ => endR as ad (p.post as) (.fz .none) ρ, rt := endR as ad (p.post as), bk := fun _ => False, ct := fun _ => False, ex := fun C ρ => outs as ad 0 ρ fun l => p.exc as C l }
def AdO (as : List Sl) (vs : List V) (ad : Nat → Addr) (i : Nat) : Prop := ∀ (j : Nat) (v : V), vs[j]? = some v → ∀ c : Cn, as[j]? = some (Sl.ow c) → v = V.ref (ad (i + j))
theorem outs_ok {K : PySem.W.Frag} {Hf H Hf' H' : Hp} (e : Same Hf Hf') : ∀ {as : List Sl} {ad : Nat → Addr} {i : Nat} {ρ : List Sl} {k : List Sl → Prop} {vs : List V} {fa fr : List Addr} {σ : L2.St}, outs as ad i ρ k → SlsO K Hf H as (vs.map some) fa → AdO as vs ad i → SlsO K Hf' H' ρ σ fr →
    ∃ l f g, k l ∧ SlsO K Hf' H' l (vs.map some) f ∧ (f ++ g).Perm fr
  | [], ad, i, ρ, k, vs, fa, fr, σ, h, ⟨e1, _⟩, _, _ => ⟨[], [], fr, h, ⟨e1, rfl⟩, List.Perm.refl _⟩
  | .ow c0 :: as, ad, i, .pw a c :: ρ, k, vs, _, _, σ, ⟨ea, h⟩, ⟨v0, σ0, g1, g2, e1, e2, p1, p2⟩, hv, ⟨v1, σ1, q1, q2, e3, e4, r1, r2⟩ => by
    match vs, e1 with
    | v :: vs, e1 =>
      cases e1
      subst e4
      have ev : v = .ref a := by
        have := hv 0 v rfl c0 rfl
        rw [this, ea]; rfl
      obtain ⟨l, f, g, k1, k2, k3⟩ := outs_ok e (as := as) h p2 (fun j w hj c hc => by
        have := hv (j + 1) w (by simpa using hj) c (by simpa using hc)
        rw [this]; congr 2; omega) r2
      refine ⟨_, q1 ++ f, g, k1, ⟨_, _, q1, f, rfl, rfl, ⟨a, by rw [ev], r1.2⟩, k2⟩, ?_⟩
      rw [List.append_assoc]
      exact k3.append_left q1
  | .fz d :: as, ad, i, s :: ρ, k, vs, _, _, σ, h, ⟨v0, σ0, g1, g2, e1, e2, p1, p2⟩, hv, ⟨v1, σ1, q1, q2, e3, e4, r1, r2⟩ => by
    match vs, e1 with
    | v :: vs, e1 =>
      cases e1
      subst e4
      obtain ⟨l, f, g, k1, k2, k3⟩ := outs_ok e (as := as) h p2 (fun j w hj c hc => by
        have := hv (j + 1) w (by simpa using hj) c (by simpa using hc)
        rw [this]; congr 2; omega) r2
      obtain ⟨_, x, ex, rx⟩ := p1
      refine ⟨_, f, g ++ q1, k1, ⟨_, _, [], f, rfl, rfl, ⟨rfl, x, ex, rx.same e⟩, k2⟩, ?_⟩
      rw [← List.append_assoc]
      exact (List.Perm.append_right q1 k3).trans List.perm_append_comm
  | .sc ns :: as, ad, i, s :: ρ, k, vs, _, _, σ, h, ⟨v0, σ0, g1, g2, e1, e2, p1, p2⟩, hv, ⟨v1, σ1, q1, q2, e3, e4, r1, r2⟩ => by
    match vs, e1 with
    | v :: vs, e1 =>
      cases e1
      subst e4
      obtain ⟨l, f, g, k1, k2, k3⟩ := outs_ok e (as := as) h p2 (fun j w hj c hc => by
        have := hv (j + 1) w (by simpa using hj) c (by simpa using hc)
        rw [this]; congr 2; omega) r2
      obtain ⟨_, x, ex, rx⟩ := p1
      refine ⟨_, f, g ++ q1, k1, ⟨_, _, [], f, rfl, rfl, ⟨rfl, x, ex, e.seq rx⟩, k2⟩, ?_⟩
      rw [← List.append_assoc]
      exact (List.Perm.append_right q1 k3).trans List.perm_append_comm
theorem start_ok {K : PySem.W.Frag} {Hf H : Hp} : ∀ {as : List Sl} {vs : List V} {fa : List Addr} (ad : Nat → Addr) (i : Nat), SlsO K Hf H as (vs.map some) fa → AdO as vs ad i → SlsO K Hf H (startS as ad i) (vs.map some) fa
  | [], vs, fa, ad, i, h, _ => h
  | s :: as, vs, fa, ad, i, ⟨v0, σ0, g1, g2, e1, e2, p1, p2⟩, hv => by
    match vs, e1 with
    | v :: vs, e1 =>
      cases e1
      subst e2
      have ih := start_ok ad (i + 1) p2 (fun j w hj c hc => by
        have := hv (j + 1) w (by simpa using hj) c (by simpa using hc)
        rw [this]; congr 2; omega)
      cases s with
      | ow c =>
        have ev : v = .ref (ad i) := hv 0 v rfl c rfl
        obtain ⟨a, ea, q⟩ := p1
        rw [ev] at ea
        cases ea
        exact ⟨_, _, g1, g2, rfl, rfl, ⟨by rw [ev], q⟩, ih⟩
      | _ => exact ⟨_, _, g1, g2, rfl, rfl, p1, ih⟩
theorem nils_ok {K : PySem.W.Frag} {Hf H : Hp} : ∀ m : Nat, SlsO K Hf H (List.replicate m .nil) (List.replicate m none) []
  | 0 => ⟨rfl, rfl⟩
  | m + 1 => ⟨none, _, [], [], rfl, rfl, rfl, nils_ok m⟩
theorem ow_ref {K : PySem.W.Frag} {Hf H : Hp} : ∀ {as : List Sl} {vs : List V} {fa : List Addr} {j : Nat} {v : V} {c : Cn}, SlsO K Hf H as (vs.map some) fa → vs[j]? = some v → as[j]? = some (.ow c) → ∃ a, v = .ref a
  | [], _, _, _, _, _, _, _, h => by simp at h
  | s :: as, vs, fa, j, v, c, ⟨v0, σ0, g1, g2, e1, e2, p1, p2⟩, h1, h2 => by
    match vs, e1 with
    | w :: vs, e1 =>
      cases e1
      cases j with
      | zero =>
        cases h1
        have h2 : some s = some (.ow c) := h2
        cases h2
        obtain ⟨a, ea, _⟩ := p1
        cases ea
        exact ⟨a, rfl⟩
      | succ j => exact ow_ref p2 (by simpa using h1) (by simpa using h2)
def adOf (vs : List V) (j : Nat) : Addr := match vs[j]? with
  | some (.ref a) => a
  | _ => 0
theorem def_ok {P : Program} {w : World} {K : PySem.W.Frag} {mg : Str → Option Value} {base : Heap} {x qual : Str} {st : Stmt} {f : Addr} {fd : FuncData} {N ps : List Str} {k : Nat} (F : Fun K x qual st f fd) (S : FnScope N ps (defScope st)) (sp : Spc)
    (hbody : ∀ (cdv : Value) (A : Around) (outer : List Env) (s : Shared) (H : Hp) (E : XK), Room k (A.deeper (envOfC qual (defScope st) s.heap.objs.size f cdv)) →
      ∃ t, PBD (cxOf (L2.CX P w) P w K mg base N qual (defScope st) f cdv A outer s H E) (fun cls d _ H => E cls d H) (defBody st) t ∧ ∀ as ad, sp.pre as → as.length = ps.length → t (endsOf sp as ad) (startS as ad 0 ++ List.replicate (N.length - ps.length) .nil)) :
    FnOk P w K mg base (L2.CX P w) (k + 1) f fd ps (spOf K ps.length sp.fs) := by
  refine F.okX S (fun vs H Q E h => h.1) (fun cdv A outer s H vs Q E hr h => ?_)
  obtain ⟨t, ⟨ts, p, sem⟩, rd⟩ := hbody cdv A outer s H E hr
  refine ⟨ts, p, ?_⟩
  obtain ⟨hl, fr, Hf, as, S0, pre, post, exc⟩ := h
  obtain ⟨fa, s1, s2, s3⟩ := S0.sl
  have la : as.length = ps.length := by have := s1.length; rw [List.length_map] at this; omega
  have hv : AdO as vs (adOf vs) 0 := fun j v h1 c h2 => by
    obtain ⟨a, e⟩ := ow_ref s1 h1 h2
    subst e
    rw [Nat.zero_add]
    unfold adOf
    rw [h1]
  have q0 := rd as (adOf vs) pre la
  have st0 : SlsO K Hf H (startS as (adOf vs) 0 ++ List.replicate (N.length - ps.length) .nil) (L2.start N vs) fa := by
    have := (start_ok (adOf vs) 0 s1 hv).join (nils_ok (K := K) (Hf := Hf) (H := H) (N.length - ps.length))
    rw [List.append_nil] at this
    unfold L2.start
    rw [hl]; exact this
  have S1 : SO K ⟨fr, Hf⟩ Hf (startS as (adOf vs) 0 ++ List.replicate (N.length - ps.length) .nil) (L2.start N vs) H := ⟨S0.up, S0.sub, S0.fr, fa, st0, s2, s3⟩
  -- behind the body
  have endO : ∀ {Hf' H' : Hp} {ρ : List Sl} {σ : L2.St} {k : List Sl → Prop}, outs as (adOf vs) 0 ρ k → SO K ⟨fr, Hf⟩ Hf' ρ σ H' → ∃ l, k l ∧ SO K ⟨fr, Hf⟩ Hf' l (vs.map some) H' := by
    intro Hf' H' ρ σ k h S'
    obtain ⟨fp, t1, t2, t3⟩ := S'.sl
    obtain ⟨l, f, g, k1, k2, k3⟩ := outs_ok S'.up h s1 hv t1
    exact ⟨l, k1, S'.up, S'.sub, S'.fr, f, k2, (List.nodup_append.mp (k3.nodup_iff.mpr t2)).1, fun a ha => t3 a (sub_of k3 a ha)⟩
  have endW : ∀ {Hf' H' : Hp} {ρ : List Sl} {σ : L2.St} {k : List Sl → Prop} {s : Sl} {v : Option V}, outs as (adOf vs) 0 ρ k → SO K ⟨fr, Hf⟩ Hf' (s :: ρ) (v :: σ) H' → ∃ l, k l ∧ SO K ⟨fr, Hf⟩ Hf' (s :: l) (v :: vs.map some) H' := by
    intro Hf' H' ρ σ k s v h S'
    obtain ⟨fp, ⟨v', σ', u1, u2, e1, e2, w1, w2⟩, t2, t3⟩ := S'.sl
    cases e1; subst e2
    obtain ⟨l, f, g, k1, k2, k3⟩ := outs_ok S'.up h s1 hv w2
    have p : ((u1 ++ f) ++ g).Perm (u1 ++ u2) := by rw [List.append_assoc]; exact k3.append_left u1
    exact ⟨l, k1, S'.up, S'.sub, S'.fr, u1 ++ f, ⟨_, _, u1, f, rfl, rfl, w1, k2⟩, (List.nodup_append.mp (p.nodup_iff.mpr t2)).1, fun a ha => t3 a (sub_of p a ha)⟩
  have addFz : ∀ {Hf' H' : Hp} {ρ : List Sl} {σ : L2.St} {v : V} {d : D}, SO K ⟨fr, Hf⟩ Hf' ρ σ H' → Rep K Hf' v d → SO K ⟨fr, Hf⟩ Hf' (.fz d :: ρ) (some v :: σ) H' := by
    intro Hf' H' ρ σ v d S' r
    obtain ⟨fp, t1, t2, t3⟩ := S'.sl
    exact ⟨S'.up, S'.sub, S'.fr, fp, ⟨_, _, [], fp, rfl, rfl, ⟨rfl, v, rfl, r⟩, t1⟩, t2, t3⟩
  have endE : ∀ {r : VR} {ρ : List Sl} {σ : L2.St} {H' : Hp} {v : V}, endR as (adOf vs) (sp.post as) r ρ → EV K ⟨fr, Hf⟩ ρ σ H' r v → Q v H' := by
    intro r ρ σ H' v q ev
    cases r with
    | fz d =>
      obtain ⟨Hf', S', rv⟩ := ev
      obtain ⟨l, k1, S2⟩ := endW q (addFz S' rv)
      exact post (.fz d) l k1 Hf' H' v S2
    | ow c =>
      obtain ⟨Hf', S'⟩ := ev
      obtain ⟨l, k1, S2⟩ := endW q S'
      exact post (.ow c) l k1 Hf' H' v S2
    | sc ns => exact q.elim
    | bw i =>
      obtain ⟨⟨Hf', S'⟩, e⟩ := ev
      unfold endR at q
      dsimp only at q
      generalize hs : getS ρ i = s at q
      cases s with
      | ow c =>
        obtain ⟨w, e1, S2⟩ := S'.takeSl (getS_eq hs (fun z => nomatch z))
        rw [e] at e1; cases e1
        rw [setS_eq] at q
        obtain ⟨l, k1, S3⟩ := endW q S2
        exact post (.ow c) l k1 Hf' H' v S3
      | fz d =>
        obtain ⟨w, fp, e1, e2, y, e3, rv⟩ := S'.get (getS_eq hs (fun z => nomatch z))
        rw [e] at e1; cases e1; cases e3
        obtain ⟨l, k1, S2⟩ := endW q (addFz S' rv)
        exact post (.fz d) l k1 Hf' H' v S2
      | _ => exact q.elim
  refine sem ⟨fr, Hf⟩ Hf _ _ H (endsOf sp as (adOf vs)) _ S1 ⟨fun ρ σ H' Hf' q S' => ?_, fun r ρ σ H' v q ev => endE q ev, fun _ _ _ _ q _ => q.elim, fun _ _ _ _ q _ => q.elim, fun C ρ σ H' Hf' q S' => ?_⟩ q0
  · exact endE (r := .fz .none) (σ := σ) q ⟨Hf', S', .non⟩
  · obtain ⟨l, k1, S2⟩ := endO q S'
    exact exc C l k1 Hf' H' S2
end
end DL
set_option Elab.async false
set_option linter.all false
set_option maxRecDepth 100000
set_option maxHeartbeats 1000000
/-! DLf: comprehensions in place, what is walked, slices, isinstance, stores, methods. -/
namespace DL
open PySem PySem.Spec PyProof.Rows L2
section
variable {X : Cx} {W : WX} {pos : Pos} {tg iter : Expr}

/-! ### comprehensions in place -/
theorem pg_all {ι : Type} {X : ι → Cx} {tg : Expr} {t : DG} {ix : List Nat} {K : PySem.W.Frag} (hK : ∀ c, (X c).K = K) (h : ∀ c, PGD (X c) tg t ix) : ∃ g, (∀ c, PG (X c) tg g) ∧ SemG K g t ix := by
  have h' : ∀ c, ∃ g, PG (X c) tg g ∧ SemG K g t ix := fun c => by
    have q := (h c).ex
    rw [hK c] at q
    exact q
  refine ⟨fun v σ H Q => ∀ c, (Classical.choose (h' c)) v σ H Q, fun c => ⟨fun pins s σ H v u Q I r q => (Classical.choose_spec (h' c)).1.run pins s σ H v u Q I r (q c)⟩, ?_⟩
  intro B Hf ρ σ H v d Q Qd S r q k c
  exact (Classical.choose_spec (h' c)).2 B Hf ρ σ H v d Q Qd S r q k
theorem pe_all {ι : Type} {X : ι → Cx} {W : WX} {e : Expr} {t : DE} {K : PySem.W.Frag} (hK : ∀ c, (X c).K = K) (h : ∀ c, PD (X c) W e t) : ∃ te, (∀ c, PE (X c) e te) ∧ Sem1 K W te t := by
  have h' : ∀ c, ∃ te, PE (X c) e te ∧ Sem1 K W te t := fun c => by
    have q := (h c).ex
    rw [hK c] at q
    exact q
  refine ⟨fun σ H Q => ∀ c, (Classical.choose (h' c)) σ H Q, fun c => ⟨fun pins s σ H Q I q => (Classical.choose_spec (h' c)).1.run pins s σ H Q I (q c)⟩, ?_⟩
  intro B Hf ρ σ H Q Qd Ed S q hQ hE c
  exact (Classical.choose_spec (h' c)).2 B Hf ρ σ H Q Qd Ed S q hQ hE
theorem pts_all {ι : Type} {X : ι → Cx} {W : WX} {e : List Expr} {t : DT} {K : PySem.W.Frag} (hK : ∀ c, (X c).K = K) (h : ∀ c, PTsD (X c) W e t) : ∃ te, (∀ c, PTs (X c) e te) ∧ SemT K W te t := by
  have h' : ∀ c, ∃ te, PTs (X c) e te ∧ SemT K W te t := fun c => by
    have q := (h c).ex
    rw [hK c] at q
    exact q
  refine ⟨fun σ H Q => ∀ c, (Classical.choose (h' c)) σ H Q, fun c => ⟨fun pins s σ H Q I q => (Classical.choose_spec (h' c)).1.run pins s σ H Q I (q c)⟩, ?_⟩
  intro B Hf ρ σ H Q Qd Ed S q hQ hE c
  exact (Classical.choose_spec (h' c)).2 B Hf ρ σ H Q Qd Ed S q hQ hE
abbrev BlkI := Shared × Hp × Addr × List (Str × Addr) × List Addr
abbrev blkX (X : Cx) (scope : Scope) (c : BlkI) : Cx := X.blk c.1 c.2.1 scope (compEnvC scope c.2.2.2.1 c.2.2.1 X.env) c.2.2.2.2
theorem pd_lc {elt : Expr} {ifs : List Expr} {scope : Scope} {own : List (Str × Nat)} {src : DI} {gd : DG} {td : DT} {ed : DE} {ix : List Nat} (hc : X.calm = true) (hN : X.N.Nodup) (hi : PID X W tg iter src) (ok : BlkOk X.N X.env.scope scope own)
    (hg : ∀ c : BlkI, PGD (blkX X scope c) tg gd ix) (ht : ∀ c : BlkI, PTsD (blkX X scope c) W0 ifs td) (he : ∀ c : BlkI, PD (blkX X scope c) W0 elt ed) (hv : ∀ i ∈ ix, i ∈ own.map (·.2) := by decide)
    (hs : ∀ x, foldedSetIterable iter X.env x = pure x := by intro _; rfl) : PD X W (.ListComp elt [⟨tg, iter, ifs, 0⟩] scope pos) (eLc src gd td ed (own.map (·.2))) := by
  obtain ⟨wi, p1, s1⟩ := hi
  obtain ⟨g, p2, s2⟩ := pg_all (K := X.K) (X := blkX X scope) (fun _ => rfl) hg
  obtain ⟨tt, p3, s3⟩ := pts_all (K := X.K) (X := blkX X scope) (fun _ => rfl) ht
  obtain ⟨te, p4, s4⟩ := pe_all (K := X.K) (X := blkX X scope) (fun _ => rfl) he
  exact ⟨_, pe_lc hc hN p1 ok (fun s H C cl fp => p2 (s, H, C, cl, fp)) (fun s H C cl fp => p3 (s, H, C, cl, fp)) (fun s H C cl fp => p4 (s, H, C, cl, fp)) hs, sem_lc s1 s2 s3 s4 hv⟩
theorem psd_setLc (i : Nat) {y : Str} {py spos : Pos} {elt : Expr} {ifs : List Expr} {scope : Scope} {own : List (Str × Nat)} {src : DI} {gd : DG} {td : DT} {ed : DE} {ix : List Nat} (hc : X.calm = true) (hN : X.N.Nodup) (hi : PID X W tg iter src) (ok : BlkOk X.N X.env.scope scope own)
    (hg : ∀ c : BlkI, PGD (blkX X scope c) tg gd ix) (ht : ∀ c : BlkI, PTsD (blkX X scope c) W0 ifs td) (he : ∀ c : BlkI, PD (blkX X scope c) W0 elt ed)
    (hsw : swapsWith (.ListComp elt [⟨tg, iter, ifs, 0⟩] scope pos) (some (.Name y py)) spos.line X.env = pure true) (hy : X.N[i]? = some y := by rfl) (hyl : X.env.scope.names.lookup y = some .local := by rfl) (hv : ∀ i ∈ ix, i ∈ own.map (·.2) := by decide)
    (hs : ∀ x, foldedSetIterable iter X.env x = pure x := by intro _; rfl) : PSD X W (.Assign [.Name y py] (.ListComp elt [⟨tg, iter, ifs, 0⟩] scope pos) spos) (sSet i (eLc src gd td ed (own.map (·.2)))) := by
  obtain ⟨wi, p1, s1⟩ := hi
  obtain ⟨g, p2, s2⟩ := pg_all (K := X.K) (X := blkX X scope) (fun _ => rfl) hg
  obtain ⟨tt, p3, s3⟩ := pts_all (K := X.K) (X := blkX X scope) (fun _ => rfl) ht
  obtain ⟨te, p4, s4⟩ := pe_all (K := X.K) (X := blkX X scope) (fun _ => rfl) he
  exact ⟨_, ps_setLc hc hN hy hyl hsw p1 ok (fun s H C cl fp => p2 (s, H, C, cl, fp)) (fun s H C cl fp => p3 (s, H, C, cl, fp)) (fun s H C cl fp => p4 (s, H, C, cl, fp)) hs, sem_set (sem_lc s1 s2 s3 s4 hv)⟩

/-! ### a list or a tuple is walked -/
def iSeqW (K : PySem.W.Frag) (tl : TE) : TI := fun σ H R => tl σ H fun x H1 => ∃ a, x = .ref a ∧ (((∃ xs, SqL K H1 a xs) ∧ R (Itl K a) H1) ∨ ((∃ xs, SqT K H1 a xs) ∧ R (Itt K a) H1))
theorem pi_seqW {l : Expr} {tl : TE} (hl : PE X l tl) : PI X tg l (iSeqW X.K tl) := by
  refine ⟨fun pins s σ H R I h => ?_⟩
  refine thn (hl.run pins s σ H _ I h) fun v s1 hh => ?_
  obtain ⟨x, H1, I1, r1, a, rfl, q1⟩ := hh
  cases r1
  rcases q1 with ⟨⟨xs, hq⟩, q⟩ | ⟨⟨xs, hq⟩, q⟩
  · obtain ⟨its, rv, p, hz⟩ := I1.list hq
    refine wpAny_pyIter_list p.isList ⟨s1.heap.objs.size, [s1.heap.objs.size], _, _, H1, rfl, I1.kept (t' := s1.toks) fun b o e => Heap.get?_push_of_some _ e, turn_list a _, ⟨_, Heap.get?_push_size _ rfl, rfl, rfl⟩, fun b hb => ?_, q⟩
    rw [show b = s1.heap.objs.size by simpa using hb]
    exact I1.fpOk (Nat.le_refl _) (I1.hok.fresh (Nat.le_refl _))
  · obtain ⟨its, rv, p, hz⟩ := I1.tuple hq
    refine wpAny_pyIter_tuple (show s1.heap.IsTuple a its.toArray from p) ⟨s1.heap.objs.size, [s1.heap.objs.size], _, _, H1, rfl, I1.kept (t' := s1.toks) fun b o e => Heap.get?_push_of_some _ e, turn_tuple a _, ⟨_, Heap.get?_push_size _ rfl, rfl, rfl⟩, fun b hb => ?_, q⟩
    rw [show b = s1.heap.objs.size by simpa using hb]
    exact I1.fpOk (Nat.le_refl _) (I1.hok.fresh (Nat.le_refl _))
abbrev iSeq (te : DE) : DI := fun ρ R E => te ρ (fun r ρ1 => match r with
  | .sc ns => R (ns.map .int) ρ1 ∧ ns.length ≤ sizeLine
  | r => frz r ρ1 fun d ρ2 => match d with
    | .list ds => R ds ρ2
    | .tuple ds => R ds ρ2
    | _ => False) E
theorem iter_list {K : PySem.W.Frag} {Hf : Hp} {a : Addr} {vs : List V} {ds : List D} (h : SqL K Hf a vs) (r : Reps K Hf vs ds) : IterOk K Hf (Itl K a) ds := by
  refine ⟨_, _, by rw [← r.length]; exact walk_list (K := K) (a := a) (xs := vs), fun H e => e.seq h, fun i H v H' hi e y => ?_⟩
  obtain ⟨rfl, y⟩ := y
  obtain ⟨d, e1, rd⟩ := r.get y
  exact ⟨d, e1, .inl ⟨rfl, rd⟩⟩
theorem iter_tup {K : PySem.W.Frag} {Hf : Hp} {a : Addr} {vs : List V} {ds : List D} (h : SqT K Hf a vs) (r : Reps K Hf vs ds) : IterOk K Hf (Itt K a) ds := by
  refine ⟨_, _, by rw [← r.length]; exact walk_tup (K := K) (a := a) (xs := vs), fun H e => sqT_same e h, fun i H v H' hi e y => ?_⟩
  obtain ⟨rfl, y⟩ := y
  obtain ⟨d, e1, rd⟩ := r.get y
  exact ⟨d, e1, .inl ⟨rfl, rd⟩⟩
theorem pid_seq {te : DE} (he : PD X W iter te) : PID X W tg iter (iSeq te) := by
  obtain ⟨t, p, s⟩ := he
  refine ⟨_, pi_seqW p, ?_⟩
  intro B Hf ρ σ H R Rd Ed S h hR hE
  refine s B Hf ρ σ H _ _ Ed S h (fun r ρ1 H1 v q e => ?_) hE
  have other : (∃ Hf1 d ρ2, SO X.K B Hf1 ρ2 σ H1 ∧ Rep X.K Hf1 v d ∧ match d with | .list ds => Rd ds ρ2 | .tuple ds => Rd ds ρ2 | _ => False) → ∃ a, v = .ref a ∧ (((∃ xs, SqL X.K H1 a xs) ∧ R (Itl X.K a) H1) ∨ ((∃ xs, SqT X.K H1 a xs) ∧ R (Itt X.K a) H1)) := by
    rintro ⟨Hf1, d, ρ2, S1, rv, q⟩
    cases rv with
    | lst h r z => exact ⟨_, rfl, .inl ⟨⟨_, SqL.of (S1.sub _ _ h)⟩, hR _ ρ2 H1 Hf1 _ q S1 (iter_list (SqL.of h) r) z⟩⟩
    | tup h r z => exact ⟨_, rfl, .inr ⟨⟨_, sqT_same S1.sub h⟩, hR _ ρ2 H1 Hf1 _ q S1 (iter_tup h r) z⟩⟩
    | _ => exact q.elim
  cases r with
  | sc ns =>
    obtain ⟨Hf1, a, S1, rfl, h1⟩ := e
    exact ⟨a, rfl, .inl ⟨⟨_, S1.sub.seq h1⟩, hR _ ρ1 H1 Hf1 _ q.1 S1 (iter_list h1 (Reps.ofInts ns)) (by rw [List.length_map]; exact q.2)⟩⟩
  | fz d => exact other (e.frz q)
  | ow c => exact other (e.frz q)
  | bw i => exact other (e.frz q)

/-! ### range -/
def rgD (lo c : Int) (n : Nat) : List D := (List.range n).map fun i => .int (lo + (i : Nat) * c)
theorem rgD_len (lo c : Int) (n : Nat) : (rgD lo c n).length = n := by simp [rgD]
theorem rgD_get {lo c : Int} {n i : Nat} (h : i < n) : (rgD lo c n)[i]? = some (.int (lo + (i : Nat) * c)) := by simp [rgD, h]
theorem iter_range {K : PySem.W.Frag} {Hf : Hp} {lo : Int} {n : Nat} : IterOk K Hf (Itr lo n) (rgD lo 1 n) := by
  refine ⟨_, _, by rw [rgD_len]; exact walk_range (lo := lo) (n := n), fun _ _ => trivial, fun i H v H' hi e y => ?_⟩
  obtain ⟨rfl, rfl⟩ := y
  rw [rgD_len] at hi
  exact ⟨_, rgD_get hi, .inl ⟨rfl, by rw [Int.mul_one]; exact .int _⟩⟩
theorem iter_rangeC {K : PySem.W.Frag} {Hf : Hp} {lo c : Int} {n : Nat} : IterOk K Hf (Itc lo c n) (rgD lo c n) := by
  refine ⟨_, _, by rw [rgD_len]; exact walk_rangeC (lo := lo) (c := c) (n := n), fun _ _ => trivial, fun i H v H' hi e y => ?_⟩
  obtain ⟨rfl, rfl⟩ := y
  rw [rgD_len] at hi
  exact ⟨_, rgD_get hi, .inl ⟨rfl, .int _⟩⟩
/-- range(j), range(i, j), range(i, j, -1): at most sizeLine turns -/
abbrev rgK : List SD → (List D → Prop) → Prop
  | [.d (.int j)], R => (-(2305843009213693952 : Int) ≤ j ∧ j ≤ 16777216) ∧ R (rgD 0 1 j.toNat)
  | [.d (.int i), .d (.int j)], R => (-(2305843009213693952 : Int) ≤ i ∧ i ≤ 2305843009213693952 ∧ j - i ≤ 16777216 ∧ -(2305843009213693952 : Int) ≤ j ∧ j ≤ 2305843009213693952) ∧ R (rgD i 1 (j - i).toNat)
  | [.d (.int i), .d (.int j), .d (.int c)], R => c = -1 ∧ (-(2305843009213693952 : Int) ≤ i ∧ i ≤ 2305843009213693952 ∧ i - j ≤ 16777216 ∧ -(2305843009213693952 : Int) ≤ j ∧ j ≤ 2305843009213693952) ∧ R (rgD i (-1) (i - j).toNat)
  | _, _ => False
abbrev iRg (ta : DA) : DI := fun ρ R E => ta ρ (fun rs ρ1 => match peeks rs ρ1 with
  | some as => rgK as fun ds => R ds ρ1
  | none => False) E
theorem three_of {K : PySem.W.Frag} {Hf H : Hp} {xs : List V} {a b c : SD} (r : Paired (RepS K Hf H) xs [a, b, c]) : ∃ x y z, xs = [x, y, z] ∧ RepS K Hf H x a ∧ RepS K Hf H y b ∧ RepS K Hf H z c := by
  cases r with
  | cons h r =>
    obtain ⟨y, z, rfl, h2, h3⟩ := two_of r
    exact ⟨_, y, z, rfl, h, h2, h3⟩
theorem pid_range1 {a : Expr} {ta : DA} {p : Pos} (hg : Gl X "range") (hm : X.mg "range" = none) (ha : PAD X W [a] ta) (hs : starEach [a] X.env = [(false, eval a X.env)] := by rfl) : PID X W tg (.Call (.Name "range" p) [a] [] pos) (iRg ta) := by
  obtain ⟨t, p1, s⟩ := ha
  refine ⟨_, pi_range1 hg hm p1 hs, ?_⟩
  intro B Hf ρ σ H R Rd Ed S h hR hE
  refine s B Hf ρ σ H _ _ Ed S h (fun rs ρ1 H1 Hf1 vs q S1 h1 hlen => ?_) hE
  simp only [List.length_cons, List.length_nil] at hlen
  cases e : peeks rs ρ1 with
  | none => rw [e] at q; exact q.elim
  | some as =>
    rw [e] at q
    have pr := h1.peeks S1 e
    have l1 := h1.length
    have l2 := pr.length
    have la : as.length = 1 := by omega
    match as, la, pr, q with
    | [.d (.int j)], _, pr, q =>
      obtain ⟨x, rfl, r1⟩ := one_of (P := fun _ _ => True) pr
      obtain ⟨qb, q⟩ := q
      refine ⟨j, by rw [r1.int], by omega, by omega, hR _ ρ1 H1 Hf1 _ q S1 iter_range ?_⟩
      rw [rgD_len, sizeLine_eq]; omega
theorem pid_range2 {a b : Expr} {ta : DA} {p : Pos} (hg : Gl X "range") (hm : X.mg "range" = none) (ha : PAD X W [a, b] ta)
    (hs : starEach [a, b] X.env = [(false, eval a X.env), (false, eval b X.env)] := by rfl) (hs2 : starEach [b] X.env = [(false, eval b X.env)] := by rfl) : PID X W tg (.Call (.Name "range" p) [a, b] [] pos) (iRg ta) := by
  obtain ⟨t, p1, s⟩ := ha
  refine ⟨_, pi_range2 hg hm p1 hs hs2, ?_⟩
  intro B Hf ρ σ H R Rd Ed S h hR hE
  refine s B Hf ρ σ H _ _ Ed S h (fun rs ρ1 H1 Hf1 vs q S1 h1 hlen => ?_) hE
  simp only [List.length_cons, List.length_nil] at hlen
  cases e : peeks rs ρ1 with
  | none => rw [e] at q; exact q.elim
  | some as =>
    rw [e] at q
    have pr := h1.peeks S1 e
    have l1 := h1.length
    have l2 := pr.length
    have la : as.length = 2 := by omega
    match as, la, pr, q with
    | [.d (.int i), .d (.int j)], _, pr, q =>
      obtain ⟨x, y, rfl, r1, r2⟩ := two_of pr
      obtain ⟨qb, q⟩ := q
      refine ⟨i, j, by rw [r1.int, r2.int], ⟨by omega, by omega, by omega, by omega⟩, hR _ ρ1 H1 Hf1 _ q S1 iter_range ?_⟩
      rw [rgD_len, sizeLine_eq]; omega
theorem pid_range3 {a b c : Expr} {ta : DA} {p : Pos} (hg : Gl X "range") (hm : X.mg "range" = none) (ha : PAD X W [a, b, c] ta)
    (hs : starEach [a, b, c] X.env = (false, eval a X.env) :: starEach [b, c] X.env := by rfl) (hpl : (backTo pos (starEach [b, c] X.env)).any (·.1) = false := by rfl) : PID X W tg (.Call (.Name "range" p) [a, b, c] [] pos) (iRg ta) := by
  obtain ⟨t, p1, s⟩ := ha
  refine ⟨_, pi_range3 hg hm p1 hs hpl, ?_⟩
  intro B Hf ρ σ H R Rd Ed S h hR hE
  refine s B Hf ρ σ H _ _ Ed S h (fun rs ρ1 H1 Hf1 vs q S1 h1 hlen => ?_) hE
  simp only [List.length_cons, List.length_nil] at hlen
  cases e : peeks rs ρ1 with
  | none => rw [e] at q; exact q.elim
  | some as =>
    rw [e] at q
    have pr := h1.peeks S1 e
    have l1 := h1.length
    have l2 := pr.length
    have la : as.length = 3 := by omega
    match as, la, pr, q with
    | [.d (.int i), .d (.int j), .d (.int c)], _, pr, q =>
      obtain ⟨x, y, z, rfl, r1, r2, r3⟩ := three_of pr
      obtain ⟨rfl, q1, q⟩ := q
      refine ⟨i, j, -1, (i - j).toNat, by rw [r1.int, r2.int, r3.int], RgC.neg (by omega) (by omega) (by omega) (by omega), hR _ ρ1 H1 Hf1 _ q S1 iter_rangeC ?_⟩
      rw [rgD_len, sizeLine_eq]; omega
end
end DL
set_option Elab.async false
set_option linter.all false
set_option maxRecDepth 100000
set_option maxHeartbeats 1000000
/-! DLg: slices, isinstance, stores, methods, keywords, raise, try, the law's end. -/
namespace DL
open PySem PySem.Spec PyProof.Rows L2
section
variable {X : Cx} {W : WX} {pos : Pos}

/-! ### slices -/
abbrev DO := List Sl → (Option Int → List Sl → Prop) → XD → Prop
def SemO (K : PySem.W.Frag) (W : WX) (to : TO) (t : DO) : Prop := ∀ B Hf ρ σ H (Q : Option Int → Hp → Prop) Qd Ed, SO K B Hf ρ σ H → t ρ Qd Ed → (∀ o ρ' H' Hf', Qd o ρ' → SO K B Hf' ρ' σ H' → Q o H') → XL K B W Ed → to σ H Q
structure POD (X : Cx) (W : WX) (e : Option Expr) (t : DO) : Prop where
  ex : ∃ to, PO X e to ∧ SemO X.K W to t
abbrev oNone : DO := fun ρ Q _ => Q none ρ
abbrev oSome (te : DE) : DO := fun ρ Q E => te ρ (fun r ρ1 => match peek (stl r) ρ1 with
  | some (.d (.int i)) => Q (some i) ρ1
  | _ => False) E
theorem pod_none : POD X W none oNone := ⟨_, po_none, fun B Hf ρ σ H Q Qd Ed S h hQ hE => hQ _ _ _ _ h S⟩
theorem pod_some {e : Expr} {te : DE} (he : PD X W e te) : POD X W (some e) (oSome te) := by
  obtain ⟨t, p, s⟩ := he
  refine ⟨_, po_some p, ?_⟩
  intro B Hf ρ σ H Q Qd Ed S h hQ hE
  refine s B Hf ρ σ H _ _ Ed S h (fun r1 ρ1 H1 v1 q1 e1 => ?_) hE
  obtain ⟨Hf1, S1, h1⟩ := e1.settle
  cases p : peek (stl r1) ρ1 with
  | none => rw [p] at q1; exact q1.elim
  | some a =>
    rw [p] at q1
    have R := h1.peek S1 p
    cases a with
    | sc ns => exact q1.elim
    | d d =>
      cases d with
      | int i => exact ⟨i, R.int, hQ _ ρ1 H1 Hf1 q1 S1⟩
      | _ => exact q1.elim
def cutA {α : Type} (xs : List α) (lo hi : Option Int) : List α := (xs.drop (HT.sIx xs.length 0 lo)).take (HT.sIx xs.length xs.length hi - HT.sIx xs.length 0 lo)
theorem cutA_le {α : Type} (xs : List α) (lo hi : Option Int) : (cutA xs lo hi).length ≤ xs.length := by
  unfold cutA
  rw [List.length_take, List.length_drop]
  omega
theorem Reps.cut {K : PySem.W.Frag} {H : Hp} {vs : List V} {ds : List D} (r : Reps K H vs ds) (lo hi : Option Int) : Reps K H (cutV vs lo hi) (cutA ds lo hi) := by
  unfold cutV cutA
  rw [r.length]
  exact (r.drop _).take _
abbrev dSl : SD → Option Int → Option Int → (VR → Prop) → Prop
  | .d (.list ds), lo, hi, Q => Q (.ow (.l (cutA ds lo hi)))
  | .d (.tuple ds), lo, hi, Q => Q (.fz (.tuple (cutA ds lo hi)))
  | .sc ns, lo, hi, Q => ns.length ≤ sizeLine ∧ Q (.ow (.l ((cutA ns lo hi).map .int)))
  | .d (.str x), lo, hi, Q => x.length ≤ sizeLine ∧ Q (.fz (.str (cutS x lo hi)))
  | _, _, _, _ => False
abbrev eSl (te : DE) (tl th : DO) : DE := fun ρ Q E => te ρ (fun x ρ1 => tl ρ1 (fun l ρ2 => th ρ2 (fun u ρ3 => match peek (stl x) ρ3 with
  | some a => dSl a l u fun z => Q z ρ3
  | none => False) E) E) E
theorem cut_whole {α : Type} {xs : List α} {lo hi : Option Int} (h : HT.sIx xs.length 0 lo = 0 ∧ HT.sIx xs.length xs.length hi = xs.length) : cutA xs lo hi = xs := by
  unfold cutA
  rw [h.1, h.2]
  simp
def rSlX3 (K : PySem.W.Frag) : V → Option Int → Option Int → Hp → VK → Prop := fun x lo hi H Q => rSlL K x lo hi H Q ∨ rSlA K x lo hi H Q ∨ rSlS x lo hi H Q
theorem pd_slice {e : Expr} {lo hi : Option Expr} {te : DE} {tl th : DO} {p2 : Pos} (he : PD X W e te) (hl : POD X W lo tl) (hh : POD X W hi th) : PD X W (.Subscript e (.Slice lo hi none p2) pos) (eSl te tl th) := by
  obtain ⟨t1, p1, s1⟩ := he
  obtain ⟨t2, p2, s2⟩ := hl
  obtain ⟨t3, p3, s3⟩ := hh
  refine ⟨_, pe_slice (r := rSlX3 X.K) (SlR.or sl_list (SlR.or sl_tupA sl_str)) p1 p2 p3, ?_⟩
  intro B Hf ρ σ H Q Qd Ed S h hQ hE
  refine s1 B Hf ρ σ H _ _ Ed S h (fun r1 ρ1 H1 v1 q1 e1 => ?_) hE
  obtain ⟨Hf1, S1, h1⟩ := e1.settle
  refine s2 (B.up Hf1) Hf1 ρ1 σ H1 _ _ Ed S1.raise q1 (fun l ρ2 H2 Hf2 q2 S2 => ?_) (hE.up S1.up)
  refine s3 (B.up Hf1) Hf2 ρ2 σ H2 _ _ Ed S2 q2 (fun u ρ3 H3 Hf3 q3 S3 => ?_) (hE.up S1.up)
  have S4 := S3.base S1.up
  cases p : peek (stl r1) ρ3 with
  | none => rw [p] at q3; exact q3.elim
  | some a =>
    rw [p] at q3
    have R := (h1.mono S3.up).peek S4 p
    cases a with
    | sc ns =>
      obtain ⟨a, rfl, h⟩ := R
      refine .inl ⟨a, _, rfl, h, fun p hp => hQ _ ρ3 _ _ q3.2 ⟨Hf3, S4.allocL hp ?_ ?_⟩⟩
      · have := (Reps.ofInts (K := X.K) (H := Hf3) ns).cut l u
        have e : cutA (ns.map PyData.int) l u = (cutA ns l u).map .int := by unfold cutA; rw [List.length_map, List.map_take, List.map_drop]
        rw [e] at this; exact this
      · have := cutA_le ns l u
        have hz := q3.1
        rw [List.length_map]; omega
    | d d =>
      cases d with
      | list ds =>
        obtain ⟨a, vs, rfl, h, r, z⟩ := R
        have := cutA_le ds l u
        exact .inl ⟨a, vs, rfl, SqL.of h, fun p hp => hQ _ ρ3 _ _ q3 ⟨Hf3, S4.allocL hp (r.cut l u) (by omega)⟩⟩
      | tuple ds =>
        obtain ⟨a, vs, rfl, h, r, z⟩ := R.tup
        have := cutA_le ds l u
        refine .inr (.inl ⟨a, vs, rfl, sqT_same S4.sub h, fun w => ?_, fun w p hp => ?_⟩)
        · rw [r.length] at w
          have q3 : Qd (.fz (.tuple (cutA ds l u))) ρ3 := q3
          rw [cut_whole w] at q3
          exact hQ _ ρ3 _ _ q3 ⟨Hf3, S4, .tup h r z⟩
        · exact hQ _ ρ3 _ _ q3 ⟨_, S4.alloc hp _, .tup (SqT.of upd_same) ((r.cut l u).same (same_upd (S4.sub.free hp))) (by omega)⟩
      | str x => exact .inr (.inr ⟨x, R.str, q3.1, hQ _ ρ3 _ _ q3.2 ⟨Hf3, S4, .str _⟩⟩)
      | _ => exact q3.elim

/-! ### isinstance of data -/
def tyD : D → String
  | .none => "NoneType" | .bool _ => "bool" | .int _ => "int" | .str _ => "str" | .list _ => "list" | .tuple _ => "tuple" | .dict _ => "dict"
abbrev isInt : D → Bool | .int _ => true | .bool _ => true | _ => false
abbrev isBool : D → Bool | .bool _ => true | _ => false
abbrev isStr : D → Bool | .str _ => true | _ => false
abbrev isList : D → Bool | .list _ => true | _ => false
abbrev isTuple : D → Bool | .tuple _ => true | _ => false
/-- an exception object's class is asked of the built-in types: never one of these -/
def ExcNo (K : PySem.W.Frag) (C : Addr) (T : String) : Prop := ExcC K C ∧ PySem.W.kitOne K (.ref C) (.type T) = some false
theorem kt_int : (["NoneType", "bool", "int", "str", "list", "tuple"].all fun a => kitB a "int" == some (a == "int" || a == "bool")) = true := by decide +kernel
theorem is_int : ∀ d : D, (∀ k, d ≠ .dict k) → kitB (tyD d) "int" = some (isInt d)
  | .none, _ => (eq_of_beq (List.all_eq_true.mp kt_int "NoneType" (by decide))).trans (congrArg some (by decide : (("NoneType" : String) == "int" || ("NoneType" : String) == "bool") = false))
  | .bool _, _ => (eq_of_beq (List.all_eq_true.mp kt_int "bool" (by decide))).trans (congrArg some (by decide : (("bool" : String) == "int" || ("bool" : String) == "bool") = true))
  | .int _, _ => (eq_of_beq (List.all_eq_true.mp kt_int "int" (by decide))).trans (congrArg some (by decide : (("int" : String) == "int" || ("int" : String) == "bool") = true))
  | .str _, _ => (eq_of_beq (List.all_eq_true.mp kt_int "str" (by decide))).trans (congrArg some (by decide : (("str" : String) == "int" || ("str" : String) == "bool") = false))
  | .list _, _ => (eq_of_beq (List.all_eq_true.mp kt_int "list" (by decide))).trans (congrArg some (by decide : (("list" : String) == "int" || ("list" : String) == "bool") = false))
  | .tuple _, _ => (eq_of_beq (List.all_eq_true.mp kt_int "tuple" (by decide))).trans (congrArg some (by decide : (("tuple" : String) == "int" || ("tuple" : String) == "bool") = false))
  | .dict k, h => absurd rfl (h k)
theorem kt_bool : (["NoneType", "bool", "int", "str", "list", "tuple"].all fun a => kitB a "bool" == some (a == "bool")) = true := by decide +kernel
theorem is_bool : ∀ d : D, (∀ k, d ≠ .dict k) → kitB (tyD d) "bool" = some (isBool d)
  | .none, _ => (eq_of_beq (List.all_eq_true.mp kt_bool "NoneType" (by decide))).trans (congrArg some (by decide : (("NoneType" : String) == "bool") = false))
  | .bool _, _ => (eq_of_beq (List.all_eq_true.mp kt_bool "bool" (by decide))).trans (congrArg some (by decide : (("bool" : String) == "bool") = true))
  | .int _, _ => (eq_of_beq (List.all_eq_true.mp kt_bool "int" (by decide))).trans (congrArg some (by decide : (("int" : String) == "bool") = false))
  | .str _, _ => (eq_of_beq (List.all_eq_true.mp kt_bool "str" (by decide))).trans (congrArg some (by decide : (("str" : String) == "bool") = false))
  | .list _, _ => (eq_of_beq (List.all_eq_true.mp kt_bool "list" (by decide))).trans (congrArg some (by decide : (("list" : String) == "bool") = false))
  | .tuple _, _ => (eq_of_beq (List.all_eq_true.mp kt_bool "tuple" (by decide))).trans (congrArg some (by decide : (("tuple" : String) == "bool") = false))
  | .dict k, h => absurd rfl (h k)
theorem kt_str : (["NoneType", "bool", "int", "str", "list", "tuple"].all fun a => kitB a "str" == some (a == "str")) = true := by decide +kernel
theorem is_str : ∀ d : D, (∀ k, d ≠ .dict k) → kitB (tyD d) "str" = some (isStr d)
  | .none, _ => (eq_of_beq (List.all_eq_true.mp kt_str "NoneType" (by decide))).trans (congrArg some (by decide : (("NoneType" : String) == "str") = false))
  | .bool _, _ => (eq_of_beq (List.all_eq_true.mp kt_str "bool" (by decide))).trans (congrArg some (by decide : (("bool" : String) == "str") = false))
  | .int _, _ => (eq_of_beq (List.all_eq_true.mp kt_str "int" (by decide))).trans (congrArg some (by decide : (("int" : String) == "str") = false))
  | .str _, _ => (eq_of_beq (List.all_eq_true.mp kt_str "str" (by decide))).trans (congrArg some (by decide : (("str" : String) == "str") = true))
  | .list _, _ => (eq_of_beq (List.all_eq_true.mp kt_str "list" (by decide))).trans (congrArg some (by decide : (("list" : String) == "str") = false))
  | .tuple _, _ => (eq_of_beq (List.all_eq_true.mp kt_str "tuple" (by decide))).trans (congrArg some (by decide : (("tuple" : String) == "str") = false))
  | .dict k, h => absurd rfl (h k)
theorem kt_list : (["NoneType", "bool", "int", "str", "list", "tuple"].all fun a => kitB a "list" == some (a == "list")) = true := by decide +kernel
theorem is_list : ∀ d : D, (∀ k, d ≠ .dict k) → kitB (tyD d) "list" = some (isList d)
  | .none, _ => (eq_of_beq (List.all_eq_true.mp kt_list "NoneType" (by decide))).trans (congrArg some (by decide : (("NoneType" : String) == "list") = false))
  | .bool _, _ => (eq_of_beq (List.all_eq_true.mp kt_list "bool" (by decide))).trans (congrArg some (by decide : (("bool" : String) == "list") = false))
  | .int _, _ => (eq_of_beq (List.all_eq_true.mp kt_list "int" (by decide))).trans (congrArg some (by decide : (("int" : String) == "list") = false))
  | .str _, _ => (eq_of_beq (List.all_eq_true.mp kt_list "str" (by decide))).trans (congrArg some (by decide : (("str" : String) == "list") = false))
  | .list _, _ => (eq_of_beq (List.all_eq_true.mp kt_list "list" (by decide))).trans (congrArg some (by decide : (("list" : String) == "list") = true))
  | .tuple _, _ => (eq_of_beq (List.all_eq_true.mp kt_list "tuple" (by decide))).trans (congrArg some (by decide : (("tuple" : String) == "list") = false))
  | .dict k, h => absurd rfl (h k)
theorem kt_tuple : (["NoneType", "bool", "int", "str", "list", "tuple"].all fun a => kitB a "tuple" == some (a == "tuple")) = true := by decide +kernel
theorem is_tuple : ∀ d : D, (∀ k, d ≠ .dict k) → kitB (tyD d) "tuple" = some (isTuple d)
  | .none, _ => (eq_of_beq (List.all_eq_true.mp kt_tuple "NoneType" (by decide))).trans (congrArg some (by decide : (("NoneType" : String) == "tuple") = false))
  | .bool _, _ => (eq_of_beq (List.all_eq_true.mp kt_tuple "bool" (by decide))).trans (congrArg some (by decide : (("bool" : String) == "tuple") = false))
  | .int _, _ => (eq_of_beq (List.all_eq_true.mp kt_tuple "int" (by decide))).trans (congrArg some (by decide : (("int" : String) == "tuple") = false))
  | .str _, _ => (eq_of_beq (List.all_eq_true.mp kt_tuple "str" (by decide))).trans (congrArg some (by decide : (("str" : String) == "tuple") = false))
  | .list _, _ => (eq_of_beq (List.all_eq_true.mp kt_tuple "list" (by decide))).trans (congrArg some (by decide : (("list" : String) == "tuple") = false))
  | .tuple _, _ => (eq_of_beq (List.all_eq_true.mp kt_tuple "tuple" (by decide))).trans (congrArg some (by decide : (("tuple" : String) == "tuple") = true))
  | .dict k, h => absurd rfl (h k)
theorem RepS.ty {K : PySem.W.Frag} {Hf H : Hp} {v : V} {d : D} (e : Same Hf H) (h : RepS K Hf H v (.d d)) (hd : ∀ k, d ≠ .dict k) : TyX K H v (.type (tyD d)) := by
  cases d with
  | none => rw [h.non]; exact .base .non
  | bool b => rw [h.bool]; exact .base (.bl _)
  | int i => rw [h.int]; exact .base (.int _)
  | str x => rw [h.str]; exact .base (.str _)
  | list ds => obtain ⟨a, vs, rfl, h, _⟩ := h; exact .base (.lst h)
  | tuple ds =>
    obtain ⟨a, vs, rfl, h, _⟩ := h.tup
    rcases h with (h | ⟨o, h⟩) | ⟨o, its, n, h1, h2, _⟩
    · exact .base (.tup (e _ _ h))
    · exact .fTuple (e _ _ h)
    · exact .kTuple h1 h2
  | dict k => exact absurd rfl (hd k)
/-- isinstance(x, T), isinstance(x, (T, U)) of data, T and U built-in types; exD: what is answered of exception objects -/
abbrev eIs (f : D → Bool) (ta : DE) : DE := fun ρ Q E => ta ρ (fun r ρ1 => match peek (stl r) ρ1 with
  | some (.d (.dict _)) => False
  | some (.d d) => Q (.fz (.bool (f d))) ρ1
  | _ => False) E
structure IsT (T : String) (f : D → Bool) : Prop where
  h : ∀ d : D, (∀ k, d ≠ .dict k) → kitB (tyD d) T = some (f d)
theorem ist_int : IsT "int" isInt := ⟨is_int⟩
theorem ist_bool : IsT "bool" isBool := ⟨is_bool⟩
theorem ist_str : IsT "str" isStr := ⟨is_str⟩
theorem ist_list : IsT "list" isList := ⟨is_list⟩
theorem ist_tuple : IsT "tuple" isTuple := ⟨is_tuple⟩
theorem eis_of {P : D → Prop} {a : SD} (q : match (some a : Option SD) with | some (.d (.dict _)) => False | some (.d d) => P d | _ => False) : ∃ d, a = .d d ∧ (∀ k, d ≠ .dict k) ∧ P d := by
  cases a with
  | sc _ => exact q.elim
  | d d => cases d with
    | dict k => exact q.elim
    | _ => exact ⟨_, rfl, fun k z => (nomatch z), q⟩
theorem pd_is {y : Str} {p p2 : Pos} {a : Expr} {T : String} {f : D → Bool} {ta : DE} (it : IsT T f) (hg : Gl X "isinstance") (hm : X.mg "isinstance" = none) (hg2 : Gl X y) (hm2 : X.mg y = none) (hv2 : bootBuiltins y = some (.type T)) (ha : PD X W a ta)
    (hn : y ≠ "__name__" := by decide) (hd : (y == ("__debug__" : Str)) = false := by decide)
    (he : starEach [a, .Name y p2] X.env = (false, eval a X.env) :: starEach [.Name y p2] X.env := by rfl) (hpl : (backTo pos (starEach [.Name y p2] X.env)).any (·.1) = false := by rfl) (he2 : starEach [.Name y p2] X.env = (false, eval (.Name y p2) X.env) :: starEach [] X.env := by rfl) :
    PD X W (.Call (.Name "isinstance" p) [a, .Name y p2] [] pos) (eIs f ta) := by
  obtain ⟨t, p1, s⟩ := ha
  refine ⟨_, pe_callB call_isi hg hm PyProof.Rows.boot_isinstance (pa_cons p1 (pa_cons (pe_bltn (v := .ty T) hg2 hm2 hv2 rfl hn hd) pa_nil he2) he) (by decide) (by decide) he hpl, ?_⟩
  intro B Hf ρ σ H Q Qd Ed S h hQ hE
  refine s B Hf ρ σ H _ _ Ed S h (fun r1 ρ1 H1 v1 q1 e1 => ?_) hE
  obtain ⟨Hf1, S1, h1⟩ := e1.settle
  cases pk : peek (stl r1) ρ1 with
  | none => rw [pk] at q1; exact q1.elim
  | some a =>
    rw [pk] at q1
    obtain ⟨d, rfl, hd, q⟩ := eis_of (P := fun d => Qd (.fz (.bool (f d))) ρ1) q1
    exact ⟨v1, .ty T, _, .type T, f d, rfl, .ty T, (h1.peek S1 pk).ty S1.sub hd, kit_ty (it.h d hd), hQ _ ρ1 H1 _ q ⟨Hf1, S1, .bl _⟩⟩
theorem pd_is2 {y z : Str} {p p2 p3 pt : Pos} {x1 : Nat} {a : Expr} {T U : String} {f g : D → Bool} {ta : DE} (it : IsT T f) (iu : IsT U g) (hg : Gl X "isinstance") (hm : X.mg "isinstance" = none) (hg2 : Gl X y) (hm2 : X.mg y = none) (hv2 : bootBuiltins y = some (.type T)) (hg3 : Gl X z) (hm3 : X.mg z = none) (hv3 : bootBuiltins z = some (.type U)) (ha : PD X W a ta)
    (hn : y ≠ "__name__" := by decide) (hd : (y == ("__debug__" : Str)) = false := by decide) (hn3 : z ≠ "__name__" := by decide) (hd3 : (z == ("__debug__" : Str)) = false := by decide)
    (he : starEach [a, .Tuple [.Name y p2, .Name z p3] x1 pt] X.env = (false, eval a X.env) :: starEach [.Tuple [.Name y p2, .Name z p3] x1 pt] X.env := by rfl) (hpl : (backTo pos (starEach [.Tuple [.Name y p2, .Name z p3] x1 pt] X.env)).any (·.1) = false := by rfl)
    (he2 : starEach [.Tuple [.Name y p2, .Name z p3] x1 pt] X.env = (false, eval (.Tuple [.Name y p2, .Name z p3] x1 pt) X.env) :: starEach [] X.env := by rfl)
    (he3 : starEach [.Name y p2, .Name z p3] X.env = (false, eval (.Name y p2) X.env) :: starEach [.Name z p3] X.env := by rfl) (he4 : starEach [.Name z p3] X.env = (false, eval (.Name z p3) X.env) :: starEach [] X.env := by rfl) :
    PD X W (.Call (.Name "isinstance" p) [a, .Tuple [.Name y p2, .Name z p3] x1 pt] [] pos) (eIs (fun d => f d || g d) ta) := by
  obtain ⟨t, p1, s⟩ := ha
  refine ⟨_, pe_callB call_isiT hg hm PyProof.Rows.boot_isinstance (pa_cons p1 (pa_cons (pe_tup (pa_cons (pe_bltn (v := .ty T) hg2 hm2 hv2 rfl hn hd) (pa_cons (pe_bltn (v := .ty U) hg3 hm3 hv3 rfl hn3 hd3) pa_nil he4) he3)) pa_nil he2) he) (by decide) (by decide) he hpl, ?_⟩
  intro B Hf ρ σ H Q Qd Ed S h hQ hE
  refine s B Hf ρ σ H _ _ Ed S h (fun r1 ρ1 H1 v1 q1 e1 => ?_) hE
  obtain ⟨Hf1, S1, h1⟩ := e1.settle
  cases pk : peek (stl r1) ρ1 with
  | none => rw [pk] at q1; exact q1.elim
  | some a =>
    rw [pk] at q1
    obtain ⟨d, rfl, hd, q⟩ := eis_of (P := fun d => Qd (.fz (.bool (f d || g d))) ρ1) q1
    refine ⟨by show 2 ≤ sizeLine; decide, fun p hp => ?_⟩
    have S2 := S1.junk (same_upd (o := .tup [.ty T, .ty U]) hp)
    refine ⟨v1, p, [.ty T, .ty U], _, [.type T, .type U], f d || g d, rfl, upd_same, .cons (.ty T) (.cons (.ty U) .nil), (h1.peek S2 pk).ty S2.sub hd, ?_, hQ _ ρ1 _ _ q ⟨Hf1, S2, .bl _⟩⟩
    refine kitAny_cons (kit_ty (it.h d hd)) (fun e => ?_) (fun e => by rw [e]; rfl)
    refine kitAny_cons (kit_ty (iu.h d hd)) (fun e2 => ?_) (fun e2 => by rw [e, e2]; rfl)
    rw [e, e2]; exact kitAny_nil

/-! ### stores into an owned list, methods of one -/
abbrev conL : Sl → Option (List D)
  | .ow (.l ds) => some ds
  | .pw _ (.l ds) => some ds
  | _ => none
abbrev wrL (s : Sl) (es : List D) : Sl := match s with
  | .pw a _ => .pw a (.l es)
  | _ => .ow (.l es)
theorem SO.wr {K : PySem.W.Frag} {B : Bs} {Hf H : Hp} {ρ : List Sl} {σ : L2.St} {i : Nat} {ds : List D} {v : V} (S : SO K B Hf ρ σ H) (hc : conL (getS ρ i) = some ds) (hv : σ[i]? = some (some v)) : ∃ p vs, v = .ref p ∧ H p = some (.lst vs) ∧ Reps K Hf vs ds ∧ ds.length ≤ sizeLine ∧
    ∀ us es, Reps K Hf us es → es.length ≤ sizeLine → SO K B Hf (setS ρ i (wrL (getS ρ i) es)) σ (upd H p (.lst us)) := by
  generalize hs : getS ρ i = s at hc
  have hn : s ≠ .nil := fun z => by rw [z] at hc; cases hc
  have hi := getS_eq hs hn
  have lt := S.lt hi
  obtain ⟨w, e1, S1⟩ := S.takeSl hi
  rw [hv] at e1; cases e1
  obtain ⟨fp, ⟨v', σ', f1, f2, e2, e3, h1, h2⟩, n1, n2⟩ := S1.sl
  cases e2; subst e3
  have key : ∃ p, v = .ref p ∧ OwnR K Hf H (.l ds) p f1 ∧ ∀ (H' : Hp) (es : List D), OwnR K Hf H' (.l es) p f1 → SlO K Hf H' (wrL s es) (some v) f1 := by
    cases s with
    | ow c =>
      cases c with
      | l ds' =>
        cases hc
        obtain ⟨p, e, q⟩ := h1
        cases e
        exact ⟨p, rfl, q, fun H' es q' => ⟨p, rfl, q'⟩⟩
    | pw a c =>
      cases c with
      | l ds' =>
        cases hc
        obtain ⟨e, q⟩ := h1
        cases e
        exact ⟨a, rfl, q, fun H' es q' => ⟨rfl, q'⟩⟩
    | _ => cases hc
  obtain ⟨p, rfl, ⟨rfl, z, vs, q1, q2⟩, back⟩ := key
  refine ⟨p, vs, rfl, q1, q2, z, fun us es r ze => ?_⟩
  have hp := n2 p (by simp)
  have nd := List.nodup_cons.mp n1
  have ne : ∀ b ∈ f2, b ≠ p := fun b hb e => nd.1 (e ▸ hb)
  have S2 : SO K B Hf (wrL s es :: ρ.set i .nil) (some (.ref p) :: σ) (upd H p (.lst us)) := by
    refine ⟨S1.up, fun b o e => ?_, fun b o e => ?_, [p] ++ f2, ⟨_, _, [p], f2, rfl, rfl, back _ es ⟨rfl, ze, us, upd_same, r⟩, h2.mono (Same.refl _) fun b hb => upd_ne (ne b hb)⟩, n1, n2⟩
    · rw [upd_ne (fun z => by rw [z, hp.1] at e; cases e)]
      exact S1.sub _ _ e
    · rw [upd_ne (fun z => by rw [z, hp.2] at e; cases e)]
      exact S1.fr b o e
  have S3 := S2.putSl (i := i) (by rw [List.getElem?_set_self lt])
  rw [List.set_set, set_self_of hv] at S3
  rw [setS_eq]
  exact S3
/-- xs[k] = e, xs an owned list at a name -/
abbrev sSt (i : Nat) (te ti : DE) : DS := fun D ρ => te ρ (fun r ρ1 => frz r ρ1 fun d ρ2 => (conL (getS ρ2 i)).isSome = true ∧ ti ρ2 (fun r2 ρ3 => match peek (stl r2) ρ3, conL (getS ρ3 i) with
  | some (.d (.int k)), some ds => ∃ j, ixN ds.length k = some j ∧ D.nx (setS ρ3 i (wrL (getS ρ3 i) (ds.set j d)))
  | _, _ => False) D.ex) D.ex
theorem conL_var {K : PySem.W.Frag} {B : Bs} {Hf H : Hp} {ρ : List Sl} {σ : L2.St} {i : Nat} (S : SO K B Hf ρ σ H) (h : (conL (getS ρ i)).isSome = true) : ∃ p, σ[i]? = some (some (.ref p)) := by
  generalize hs : getS ρ i = s at h
  have hn : s ≠ .nil := fun z => by rw [z] at h; cases h
  obtain ⟨w, fp, e, q⟩ := S.get (getS_eq hs hn)
  cases s with
  | ow c => obtain ⟨a, e2, _⟩ := q; subst e2; exact ⟨a, e⟩
  | pw a c => obtain ⟨e2, _⟩ := q; subst e2; exact ⟨a, e⟩
  | _ => cases h
theorem psd_st (i : Nat) {x : Str} {e ie : Expr} {te ti : DE} {p1 p2 : Pos} (he : PD X W e te) (hi : PD X W ie ti) (hN : X.N[i]? = some x := by rfl) (hv : Vis X.env.scope x := by first | exact Or.inl rfl | exact Or.inr (Or.inl rfl) | exact Or.inr (Or.inr rfl))
    (ha : ∀ v, assign (.Subscript (.Name x p1) ie p2) X.env v = (do
      let ov ← holding [v] (eval (.Name x p1) X.env)
      let iv ← holding [v, ov] (eval ie X.env)
      standAt p2
      holding [v, ov, iv] (setItem ov iv v)
      release [v, ov, iv] []) := by intro _; rfl)
    (hs : swapsWithSole [.Subscript (.Name x p1) ie p2] e pos.line X.env = pure false := by rfl) (hw : swappedStores [.Subscript (.Name x p1) ie p2] e X.env = pure none := by rfl)
    (h1 : (assignEach [.Subscript (.Name x p1) ie p2] X.env).map (·.2) = [assign (.Subscript (.Name x p1) ie p2) X.env] := by rfl)
    (hd : (x == ("__debug__" : Str)) = false := by decide) (hcd : (x == ("__classdict__" : Str)) = false := by decide) : PSD X W (.Assign [.Subscript (.Name x p1) ie p2] e pos) (sSt i te ti) := by
  obtain ⟨t, p, s⟩ := he
  obtain ⟨t2, q2, s2⟩ := hi
  refine ⟨_, ps_asg p (pg_sub (pv i hN hv hd hcd) q2 set_list ha) hs hw h1, ?_⟩
  intro B Hf ρ σ H D D' S L h
  refine s B Hf ρ σ H _ _ _ S h (fun r ρ' H' v q e => ?_) L.ex
  obtain ⟨Hf', d, ρ2, S2, rv, hc, q⟩ := e.frz q
  obtain ⟨pp, hp⟩ := conL_var S2 hc
  refine ⟨_, hp, ?_⟩
  refine s2 (B.up Hf') Hf' ρ2 σ H' _ _ _ S2.raise q (fun r2 ρ3 H3 v3 q3 e3 => ?_) (L.ex.up S2.up)
  obtain ⟨Hf3, S3, h3⟩ := e3.settle
  cases pk : peek (stl r2) ρ3 with
  | none => rw [pk] at q3; exact q3.elim
  | some a =>
    cases ck : conL (getS ρ3 i) with
    | none => rw [pk, ck] at q3; cases a with | sc _ => exact q3.elim | d d => cases d <;> exact q3.elim
    | some ds =>
      rw [pk, ck] at q3
      cases a with
      | sc _ => exact q3.elim
      | d d0 =>
        cases d0 with
        | int k =>
          obtain ⟨j, hj, q3⟩ := q3
          obtain ⟨p3, vs, e4, w1, w2, w3, w4⟩ := S3.wr ck hp
          cases e4
          refine ⟨pp, vs, k, j, rfl, (h3.peek S3 pk).int, w1, by rw [w2.length]; exact hj, ?_⟩
          exact L.nx _ _ _ _ q3 ((w4 (vs.set j v) (ds.set j d) (w2.set (rv.same S3.up) j) (by rw [List.length_set]; exact w3)).base S2.up)
        | _ => exact q3.elim

abbrev OpM := List D → List D → (D → List D → Prop) → Prop
def ConnM (r : V → List V → Hp → VK → Prop) (op : OpM) : Prop := ∀ (K : PySem.W.Frag) (Hf H : Hp) (p : Addr) (vs : List V) (ds : List D) (xs : List V) (args : List D) (Q : VK) (P : D → List D → Prop), H p = some (.lst vs) → Reps K Hf vs ds → ds.length ≤ sizeLine → Reps K Hf xs args → op ds args P → Same Hf H →
  (∀ res es v us, P res es → Rep K Hf v res → Reps K Hf us es → es.length ≤ sizeLine → Q v (upd H p (.lst us))) → r (.ref p) xs H Q
abbrev eMt (i : Nat) (op : OpM) (ta : DF) : DE := fun ρ Q E => (conL (getS ρ i)).isSome = true ∧ ta ρ (fun args ρ1 => match conL (getS ρ1 i) with
  | some ds => op ds args fun res es => Q (.fz res) (setS ρ1 i (wrL (getS ρ1 i) es))
  | none => False) E
theorem tyv_list {K : PySem.W.Frag} {B : Bs} {Hf H : Hp} {ρ : List Sl} {σ : L2.St} {i : Nat} {p : Addr} (S : SO K B Hf ρ σ H) (h : (conL (getS ρ i)).isSome = true) (hp : σ[i]? = some (some (.ref p))) : tyV K "list" (.ref p) H := by
  cases ck : conL (getS ρ i) with
  | none => rw [ck] at h; cases h
  | some ds =>
    obtain ⟨p', vs, e, w1, _⟩ := S.wr ck hp
    cases e
    exact .inl ⟨rfl, vs, SqL.of w1⟩
theorem pd_mt (i : Nat) {x name : Str} {id : String} {r : V → List V → Hp → VK → Prop} {op : OpM} {e : Expr} {es : List Expr} {ta : DF} {px apos : Pos} (hm : MtR X id r) (c : ConnM r op) (slot : Slot "list" name id) (hty : typeOf (.builtin id) = pure (.type "method_descriptor")) (ha : PFD X W (e :: es) ta)
    (hN : X.N[i]? = some x := by rfl) (hv : Vis X.env.scope x := by first | exact Or.inl rfl | exact Or.inr (Or.inl rfl) | exact Or.inr (Or.inr rfl))
    (hbase : attributeBase (.Name x px) name X.env (eval (.Name x px) X.env) = eval (.Name x px) X.env := by rfl)
    (hfew : ((backTo pos (starEach (e :: es) X.env)).all (fun x => !x.1) && (backToKw pos (keywordEach [] X.env)).all (fun x => x.1.isSome)
      && decide ((e :: es).length + ([] : List Keyword).length + (if ([] : List Keyword).isEmpty then 0 else 1) < 30)) = true := by rfl)
    (hline : (apos.endLine == pos.line) = true := by rfl) (hs : starEach (e :: es) X.env = (false, eval e X.env) :: starEach es X.env := by rfl) (hplain : (backTo pos (starEach es X.env)).any (·.1) = false := by rfl)
    (hd : (x == ("__debug__" : Str)) = false := by decide) (hcd : (x == ("__classdict__" : Str)) = false := by decide) : PD X W (.Call (.Attribute (.Name x px) name apos) (e :: es) [] pos) (eMt i op ta) := by
  obtain ⟨t, p, s⟩ := ha
  refine ⟨_, pe_bm PySem.F.plainAttrs_list slot hty hm (pv i hN hv hd hcd) p hbase hfew hline hs hplain, ?_⟩
  intro B Hf ρ σ H Q Qd Ed S h hQ hE
  obtain ⟨hc, h⟩ := h
  obtain ⟨pp, hp⟩ := conL_var S hc
  refine ⟨_, hp, tyv_list S hc hp, ?_⟩
  refine s B Hf ρ σ H _ _ _ S h (fun args ρ1 H1 Hf1 xs q S1 r1 _ => ?_) hE
  cases ck : conL (getS ρ1 i) with
  | none => rw [ck] at q; exact q.elim
  | some ds =>
    rw [ck] at q
    obtain ⟨p', vs, e, w1, w2, w3, w4⟩ := S1.wr ck hp
    cases e
    exact c X.K Hf1 H1 pp vs ds xs args Q _ w1 w2 w3 r1 q S1.sub fun res es v us qr rr ru z => hQ _ _ _ _ qr ⟨Hf1, w4 us es ru z, rr⟩
theorem pd_mt0 (i : Nat) {x name : Str} {id : String} {r : V → List V → Hp → VK → Prop} {op : OpM} {px apos : Pos} (hm : MtR X id r) (c : ConnM r op) (slot : Slot "list" name id) (hty : typeOf (.builtin id) = pure (.type "method_descriptor"))
    (hN : X.N[i]? = some x := by rfl) (hv : Vis X.env.scope x := by first | exact Or.inl rfl | exact Or.inr (Or.inl rfl) | exact Or.inr (Or.inr rfl))
    (hbase : attributeBase (.Name x px) name X.env (eval (.Name x px) X.env) = eval (.Name x px) X.env := by rfl) (hline : (apos.endLine == pos.line) = true := by rfl)
    (hd : (x == ("__debug__" : Str)) = false := by decide) (hcd : (x == ("__classdict__" : Str)) = false := by decide) : PD X W (.Call (.Attribute (.Name x px) name apos) [] [] pos) (eMt i op fNil) := by
  refine ⟨_, pe_bm0 PySem.F.plainAttrs_list slot hty hm (pv i hN hv hd hcd) hbase hline, ?_⟩
  intro B Hf ρ σ H Q Qd Ed S h hQ hE
  obtain ⟨hc, h⟩ := h
  obtain ⟨pp, hp⟩ := conL_var S hc
  refine ⟨_, hp, tyv_list S hc hp, ?_⟩
  have q : match conL (getS ρ i) with | some ds => op ds [] fun res es => Qd (.fz res) (setS ρ i (wrL (getS ρ i) es)) | none => False := h
  cases ck : conL (getS ρ i) with
  | none => rw [ck] at q; exact q.elim
  | some ds =>
    rw [ck] at q
    obtain ⟨p', vs, e, w1, w2, w3, w4⟩ := S.wr ck hp
    cases e
    exact c X.K Hf H pp vs ds [] [] Q _ w1 w2 w3 .nil q S.sub fun res es v us qr rr ru z => hQ _ _ _ _ qr ⟨Hf, w4 us es ru z, rr⟩
abbrev mAppend : OpM := fun ds args P => match args with
  | [d] => ds.length < sizeLine ∧ P .none (ds ++ [d])
  | _ => False
theorem cm_append : ConnM rAppend mAppend := by
  intro K Hf H p vs ds xs args Q P hp r z ra op e k
  match args, ra, op with
  | [d], .cons (v := y) h .nil, op =>
    exact ⟨p, vs, y, rfl, rfl, hp, by rw [r.length]; exact op.1, k _ _ _ _ op.2 .non (r.append (.cons h .nil)) (by rw [List.length_append, List.length_singleton]; exact op.1)⟩
abbrev mPop : OpM := fun ds args P => match args with
  | [] => ∃ d, ds[ds.length - 1]? = some d ∧ P d ds.dropLast
  | _ => False
theorem cm_pop : ConnM rPop mPop := by
  intro K Hf H p vs ds xs args Q P hp r z ra op e k
  match args, ra, op with
  | [], .nil, op =>
    obtain ⟨d, hd, op⟩ := op
    rw [← r.length] at hd
    obtain ⟨y, hy, ry⟩ := r.get' hd
    exact ⟨p, vs, y, rfl, rfl, hp, hy, k _ _ _ _ op ry r.dropLast (by rw [List.length_dropLast]; omega)⟩
abbrev mPopAt : OpM := fun ds args P => match args with
  | [.int i] => -(2 ^ 63) ≤ i ∧ i < 2 ^ 63 ∧ ∃ j d, seqIndex? i ds.length = some j ∧ ds[j]? = some d ∧ P d (ds.eraseIdx j)
  | _ => False
theorem cm_popAt : ConnM rPopAt mPopAt := by
  intro K Hf H p vs ds xs args Q P hp r z ra op e k
  match args, ra, op with
  | [.int i], .cons (v := y) h .nil, op =>
    obtain ⟨b1, b2, j, d, hj, hd, op⟩ := op
    cases h
    obtain ⟨y, hy, ry⟩ := r.get' hd
    exact ⟨p, vs, i, j, y, rfl, rfl, hp, b1, b2, by rw [r.length]; exact hj, hy, k _ _ _ _ op ry (r.eraseIdx j) (Nat.le_trans (len_erase ds j) z)⟩
abbrev mInsert : OpM := fun ds args P => match args with
  | [.int i, d] => ds.length < sizeLine ∧ 0 ≤ i ∧ i < 2 ^ 63 ∧ P .none (ds.take i.toNat ++ [d] ++ ds.drop i.toNat)
  | _ => False
theorem cm_insert : ConnM (fun x vs H Q => ∃ (l : Addr) (xs : List V) (i : Int) (y : V), x = .ref l ∧ vs = [.int i, y] ∧ H l = some (.lst xs) ∧ xs.length < sizeLine ∧ 0 ≤ i ∧ i < 2 ^ 63 ∧
    Q .non (upd H l (.lst (xs.take i.toNat ++ [y] ++ xs.drop i.toNat)))) mInsert := by
  intro K Hf H p vs ds xs args Q P hp r z ra op e k
  match args, ra, op with
  | [.int i, d], .cons h0 (.cons (v := y) h .nil), op =>
    obtain ⟨b0, b1, b2, op⟩ := op
    cases h0
    refine ⟨p, vs, i, y, rfl, rfl, hp, by rw [r.length]; exact b0, b1, b2, k _ _ _ _ op .non (((r.take _).append (.cons h .nil)).append (r.drop _)) ?_⟩
    simp only [List.length_append, List.length_take, List.length_drop, List.length_cons, List.length_nil]
    omega
abbrev mExtend : OpM := fun ds args P => match args with
  | [.list es] => ds.length + es.length ≤ sizeLine ∧ P .none (ds ++ es)
  | _ => False
theorem cm_extend : ConnM rExtend mExtend := by
  intro K Hf H p vs ds xs args Q P hp r z ra op e k
  match args, ra, op with
  | [.list es], .cons (v := y) h .nil, op =>
    cases h with
    | lst h rs z2 => exact ⟨p, _, vs, _, rfl, rfl, hp, e _ _ h, by rw [r.length, rs.length]; exact op.1, k _ _ _ _ op.2 .non (r.append rs) (by rw [List.length_append]; exact op.1)⟩
abbrev mReverse : OpM := fun ds args P => match args with
  | [] => P .none ds.reverse
  | _ => False
theorem cm_reverse : ConnM rReverse mReverse := by
  intro K Hf H p vs ds xs args Q P hp r z ra op e k
  match args, ra, op with
  | [], .nil, op => exact ⟨p, vs, rfl, rfl, hp, k _ _ _ _ op .non r.reverse (by rw [List.length_reverse]; exact z)⟩
end
end DL
set_option Elab.async false
set_option linter.all false
set_option maxRecDepth 100000
set_option maxHeartbeats 1000000
/-! DLh: the text's defs, keywords, raise, try, the law's end. -/
namespace DL
open PySem PySem.Spec PyProof.Rows L2

/-! ### the defs of the text -/
structure Has (K : PySem.W.Frag) (mg : Str → Option Value) (x : Str) (st : Stmt) : Prop where
  ex : ∃ f fd, Fun K x x st f fd ∧ mg x = some (.ref f)
theorem has_mk {K : PySem.W.Frag} {h : Heap} {mg : Str → Option Value} {x : Str} {st : Stmt} {f : Addr} {oc : Value} {od an : Option Addr} {osl : Array (Option Value)} {kV doc pm cdv ct : Value} (X : K.In h) (G : h.Ns mainGlobals mg) (a : PySem.W.nsIn K mainGlobals x = some (some (.ref f)))
    (l : K.lookup f = some ⟨oc, od, .func (PySem.W.fnOf x x (defArgs st) (defBody st) (defScope st) .none kV doc pm an cdv ct), osl⟩) (c : PySem.W.codeIn K cdv x = true) (k : PySem.W.keepIn K (.ref f) = true) : Has K mg x st :=
  ⟨f, _, fun_mk l c k, PySem.W.mg_of X G a⟩
/-- a def that may be called: its promise -/
structure FnC (P : Program) (w : World) (K : PySem.W.Frag) (mg : Str → Option Value) (base : Heap) (k : Nat) (x : Str) (ps : List Str) (st : Stmt) (sp : Spc) : Prop where
  ex : ∃ f fd, Fun K x x st f fd ∧ mg x = some (.ref f) ∧ FnOk P w K mg base (L2.CX P w) k f fd ps (spOf K ps.length sp.fs)
section
variable {P : Program} {w : World} {K : PySem.W.Frag} {mg : Str → Option Value} {base : Heap}
theorem FnC.mono {j k : Nat} {x : Str} {ps : List Str} {st : Stmt} {sp : Spc} (F : FnC P w K mg base j x ps st sp) (h : j ≤ k) : FnC P w K mg base k x ps st sp := let ⟨f, fd, a, b, c⟩ := F; ⟨f, fd, a, b, c.mono h⟩
/-- THE RULE for a def of the text -/
theorem defC {x : Str} {st : Stmt} {N ps : List Str} {k : Nat} (Hs : Has K mg x st) (S : FnScope N ps (defScope st)) (sp : Spc)
    (hbody : ∀ (cdv : Value) (f : Addr) (A : Around) (outer : List Env) (s : Shared) (H : Hp) (E : XK), Room k (A.deeper (envOfC x (defScope st) s.heap.objs.size f cdv)) →
      ∃ t, PBD (cxOf (L2.CX P w) P w K mg base N x (defScope st) f cdv A outer s H E) (fun cls d _ H => E cls d H) (defBody st) t ∧ ∀ as ad, sp.pre as → as.length = ps.length → t (endsOf sp as ad) (startS as ad 0 ++ List.replicate (N.length - ps.length) .nil)) :
    FnC P w K mg base (k + 1) x ps st sp := by
  obtain ⟨f, fd, F, gm⟩ := Hs
  exact ⟨f, fd, F, gm, def_ok F S sp fun cdv A outer s H E hr => hbody cdv f A outer s H E hr⟩
end
section
variable {X : Cx} {W : WX} {pos : Pos}
/-- how the arguments of a text's def bind: by place -/
structure BindP (st : Stmt) (x : Str) (ps : List Str) : Prop where
  h : ∀ (kV doc pm : Value) (an : Option Addr) (cdv ct : Value) (us : List Value), us.length = ps.length → bindArgs (PySem.W.fnOf x x (defArgs st) (defBody st) (defScope st) .none kV doc pm an cdv ct) ⟨us, []⟩ = pure (ps.zip us)
/-- .. by keywords alone, ks in the call's sequence, g puts them in the parameters' -/
structure BindK (st : Stmt) (x : Str) (ps ks : List Str) (pm : List Nat) : Prop where
  h : ∀ (kV doc pmv : Value) (an : Option Addr) (cdv ct : Value) (us : List Value), us.length = ks.length → bindArgs (PySem.W.fnOf x x (defArgs st) (defBody st) (defScope st) .none kV doc pmv an cdv ct) ⟨[], ks.zip us⟩ = pure (ps.zip (pm.filterMap (us[·]?)))
theorem pd_callC {x : Str} {p : Pos} {e : Expr} {es : List Expr} {k j : Nat} {ps : List Str} {st : Stmt} {sp : Spc} {tc : DC} (tk : Takes X W) (F : FnC X.prog X.w X.K X.mg X.base k x ps st sp) (hr : Room j X.A) (hj : k ≤ j) (bp : BindP st x ps) (hg : Gl X x)
    (ha : PCD X W (e :: es) tc) (hl : (e :: es).length = ps.length := by rfl) (hdb : (x == ("__debug__" : Str)) = false := by decide) (he : starEach (e :: es) X.env = (false, eval e X.env) :: starEach es X.env := by rfl) (hpl : (backTo pos (starEach es X.env)).any (·.1) = false := by rfl) :
    PD X W (.Call (.Name x p) (e :: es) [] pos) (eCall sp.fs tc) := by
  obtain ⟨f, fd, F1, gm, F2⟩ := F
  exact pd_call tk F2 (hr.mono hj) hg gm F1.kp (F1.binds bp.h) ha hl hdb he hpl
abbrev permL {α : Type} (pm : List Nat) (l : List α) : List α := pm.filterMap (l[·]?)
theorem paired_perm {α β : Type} {F : α → β → Prop} {as : List α} {bs : List β} (h : Paired F as bs) : ∀ pm : List Nat, Paired F (permL pm as) (permL pm bs)
  | [] => .nil
  | i :: pm => by
    have get : ∀ {as : List α} {bs : List β} {i : Nat}, Paired F as bs → (as[i]? = none ∧ bs[i]? = none) ∨ ∃ a b, as[i]? = some a ∧ bs[i]? = some b ∧ F a b := by
      intro as bs i p
      induction p generalizing i with
      | nil => exact .inl ⟨by simp, by simp⟩
      | @cons a b l1 l2 h t ih =>
        cases i with
        | zero => exact .inr ⟨a, b, rfl, rfl, h⟩
        | succ i => simpa using ih (i := i)
    unfold permL
    rcases get (i := i) h with ⟨e1, e2⟩ | ⟨a, b, e1, e2, q⟩
    · rw [List.filterMap_cons, List.filterMap_cons, e1, e2]
      exact paired_perm h pm
    · rw [List.filterMap_cons, List.filterMap_cons, e1, e2]
      exact .cons q (paired_perm h pm)
/-- f(k = v, ..), every parameter by its name -/
theorem pe_callKw {x : Str} {p : Pos} {kws : List Keyword} {k : Nat} {f : Addr} {fd : FuncData} {ps ks : List Str} {s0 : Sp} {tk : TA} {CX : CXT} {E : L2.St → XK} {pm : List Nat}
    (F : FnOk X.prog X.w X.K X.mg X.base CX k f fd ps s0) (hr : Room k X.A) (hg : Gl X x) (hm : X.mg x = some (.ref f)) (hk : PySem.W.keepIn X.K (.ref f) = true)
    (hb : ∀ (s : Shared) (ws : List Value), ws.length = ks.length → BindsTo s fd ⟨[], ks.zip ws⟩ (ps.zip (permL pm ws))) (hx : ∀ σ, PassesAt CX X σ (E σ))
    (hkw : PK X kws tk) (hall : (backToKw pos (keywordEach kws X.env)).all (·.1.isSome) = true := by rfl) (hks : (backToKw pos (keywordEach kws X.env)).filterMap (·.1) = ks := by rfl) (hdb : (x == ("__debug__" : Str)) = false := by decide)
    (hpl : ((backTo pos (starEach [] X.env)).any (·.1) || (backToKw pos (keywordEach kws X.env)).any (·.1.isNone)) = false := by rfl) :
    PE X (.Call (.Name x p) [] kws pos) (fun σ H Q => tk σ H fun zs H2 => zs.length = ks.length ∧ s0 (permL pm zs) H2 Q (E σ)) := by
  refine ⟨fun pins s σ H Q I h => ?_⟩
  refine wpAny_Call_Name_kw (ld_glob I hg hm ?_ hdb)
  refine PySem.W.callWith_KW0 (h₀ := X.base) I.ok.mod.kin hk hall (thn (hkw.run pos pins s σ H _ I h) fun ws s2 hh => ?_) hpl
  obtain ⟨zs, H2, I2, rz, lz, q2⟩ := hh
  refine ⟨I2.kIn, ?_⟩
  rw [hks]
  have r2 : Vals (permL pm zs) (permL pm ws) := paired_perm rz pm
  have lw := rz.length
  refine wpAny_call (codeAny_mono (F.run X.A X.stack s2 H2 ⟨[], ks.zip ws⟩ (permL pm ws) (permL pm zs) Q (E σ) hr I2.env0 (hb s2 ws (by omega)) r2 q2) fun r s' hq => ?_)
  cases r with
  | error e => exact hx σ pins H2 s2 e s' I2 hq
  | ok fl =>
    cases fl with
    | ret u => exact I2.after hq
    | next => exact False.elim hq
    | brk => exact False.elim hq
    | cont => exact False.elim hq
structure PKD (X : Cx) (W : WX) (kws : List Keyword) (t : DC) : Prop where
  ex : ∃ ta, PK X kws ta ∧ SemC X.K W ta kws.length t
theorem pkd_nil : PKD X W [] cNil := ⟨_, pk_nil, fun B Hf ρ σ H Q Qd Ed S h hQ hE => hQ [] _ _ Hf _ h S .nil rfl⟩
theorem pkd_cons {nm : Option Str} {kpos : Pos} {e : Expr} {kws : List Keyword} {te : DE} {ta : DC} (he : PD X W e te) (ha : PKD X W kws ta) : PKD X W (⟨nm, e, kpos⟩ :: kws) (cFz te ta) := by
  obtain ⟨t1, p1, s1⟩ := he
  obtain ⟨t2, p2, s2⟩ := ha
  refine ⟨_, pk_cons p1 p2, ?_⟩
  intro B Hf ρ σ H Q Qd Ed S h hQ hE
  refine s1 B Hf ρ σ H _ _ Ed S h (fun r1 ρ1 H1 v1 q1 e1 => ?_) hE
  have other : ∀ d ρ2 Hf1, SO X.K B Hf1 ρ2 σ H1 → Rep X.K Hf1 v1 d → ta ρ2 (fun ags ρ3 => Qd (.fz d :: ags) ρ3) Ed → t2 σ H1 fun xs H2 => Q (v1 :: xs) H2 := by
    intro d ρ2 Hf1 S1 h1 q
    refine s2 (B.up Hf1) Hf1 ρ2 σ H1 _ _ Ed S1.raise q (fun ags ρ3 H2 Hf2 vs q2 S2 h2 l2 => ?_) (hE.up S1.up)
    exact hQ (.fz d :: ags) ρ3 H2 Hf2 (v1 :: vs) q2 (S2.base S1.up) (.cons (h1.same S2.up) h2) (congrArg (· + 1) l2)
  cases r1 with
  | sc ns =>
    obtain ⟨Hf1, a, S1, rfl, h1⟩ := e1
    refine s2 (B.up Hf1) Hf1 ρ1 σ H1 _ _ Ed S1.raise q1 (fun ags ρ3 H2 Hf2 vs q2 S2 h2 l2 => ?_) (hE.up S1.up)
    exact hQ (.sc ns :: ags) ρ3 H2 Hf2 (_ :: vs) q2 (S2.base S1.up) (.cons ⟨a, rfl, S2.up.seq h1⟩ h2) (congrArg (· + 1) l2)
  | fz d =>
    obtain ⟨Hf1, d, ρ2, S1, h1, q⟩ := e1.frz q1
    exact other d ρ2 Hf1 S1 h1 q
  | ow c =>
    obtain ⟨Hf1, d, ρ2, S1, h1, q⟩ := e1.frz q1
    exact other d ρ2 Hf1 S1 h1 q
  | bw i =>
    obtain ⟨Hf1, d, ρ2, S1, h1, q⟩ := e1.frz q1
    exact other d ρ2 Hf1 S1 h1 q
abbrev noOw : List Ag → Bool
  | [] => true
  | .fz _ :: r => noOw r
  | .sc _ :: r => noOw r
  | _ :: _ => false
abbrev nthR {α : Type} : List α → Nat → Option α
  | [], _ => none
  | a :: _, 0 => some a
  | _ :: l, i + 1 => nthR l i
abbrev permR {α : Type} : List Nat → List α → List α
  | [], _ => []
  | i :: pm, l => match nthR l i with
    | some x => x :: permR pm l
    | none => permR pm l
theorem nthR_eq {α : Type} : ∀ (l : List α) (i : Nat), nthR l i = l[i]?
  | [], _ => by simp [nthR]
  | _ :: _, 0 => rfl
  | _ :: l, i + 1 => by simpa [nthR] using nthR_eq l i
theorem permR_eq {α : Type} : ∀ (pm : List Nat) (l : List α), permR pm l = permL pm l
  | [], _ => rfl
  | i :: pm, l => by
    unfold permL
    rw [List.filterMap_cons]
    have ih := permR_eq pm l
    unfold permL at ih
    show (match nthR l i with | some x => x :: permR pm l | none => permR pm l) = _
    rw [nthR_eq, ih]
    cases l[i]? <;> rfl
/-- the keywords' values in the parameters' sequence -/
abbrev cPerm (pm : List Nat) (tc : DC) : DC := fun ρ Q E => tc ρ (fun ags ρ1 => noOw ags = true ∧ Q (permR pm ags) ρ1) E
theorem noOw_tops : ∀ {ags : List Ag}, noOw ags = true → tops ags = []
  | [], _ => rfl
  | .fz _ :: r, h => noOw_tops (ags := r) h
  | .sc _ :: r, h => noOw_tops (ags := r) h
  | .bw _ :: _, h => by cases h
  | .ow _ :: _, h => by cases h
theorem noOw_topV : ∀ {ags : List Ag} {vs : List V}, noOw ags = true → topV ags vs = []
  | [], [], _ => rfl
  | [], _ :: _, _ => rfl
  | .fz _ :: r, _ :: vs, h => noOw_topV (ags := r) (vs := vs) h
  | .fz _ :: r, [], h => rfl
  | .sc _ :: r, [], h => rfl
  | .sc _ :: r, _ :: vs, h => noOw_topV (ags := r) (vs := vs) h
  | .bw _ :: _, _, h => by cases h
  | .ow _ :: _, _, h => by cases h
theorem permL_ow {pm : List Nat} {ags : List Ag} (h : noOw ags = true) : noOw (permL pm ags) = true := by
  have mem : ∀ {l : List Ag}, noOw l = true ↔ ∀ a ∈ l, (∃ d, a = .fz d) ∨ ∃ ns, a = .sc ns := by
    intro l
    induction l with
    | nil => simp [noOw]
    | cons a r ih =>
      cases a with
      | fz d => simp [noOw, ih]
      | sc ns => simp [noOw, ih]
      | bw i => simp [noOw]
      | ow c => simp [noOw]
  refine mem.mpr fun a ha => ?_
  unfold permL at ha
  obtain ⟨i, _, hi⟩ := List.mem_filterMap.mp ha
  exact mem.mp h a (List.mem_of_getElem? hi)
theorem pd_callKw {x : Str} {p : Pos} {kws : List Keyword} {k j : Nat} {ps ks : List Str} {st : Stmt} {sp : Spc} {tc : DC} (pm : List Nat) (tk : Takes X W) (F : FnC X.prog X.w X.K X.mg X.base k x ps st sp) (hr : Room j X.A) (hj : k ≤ j) (bp : BindK st x ps ks pm) (hg : Gl X x)
    (ha : PKD X W kws tc) (hn : ∀ (l : List V), l.length = ks.length → (permL pm l).length = ps.length) (hkl : kws.length = ks.length := by rfl) (hdb : (x == ("__debug__" : Str)) = false := by decide) (hall : (backToKw pos (keywordEach kws X.env)).all (·.1.isSome) = true := by rfl) (hks : (backToKw pos (keywordEach kws X.env)).filterMap (·.1) = ks := by rfl)
    (hpl : ((backTo pos (starEach [] X.env)).any (·.1) || (backToKw pos (keywordEach kws X.env)).any (·.1.isNone)) = false := by rfl) :
    PD X W (.Call (.Name x p) [] kws pos) (eCall sp.fs (cPerm pm tc)) := by
  obtain ⟨f, fd, F1, gm, F2⟩ := F
  obtain ⟨ta, pa, sa⟩ := ha
  have hb : ∀ (s : Shared) (ws : List Value), ws.length = ks.length → BindsTo s fd ⟨[], ks.zip ws⟩ (ps.zip (permL pm ws)) := by
    intro s ws hl
    obtain ⟨oc, od, kV, doc, pmv, an, cdv, ct, osl, rfl, lk, hcd⟩ := F1.ex
    exact .of_eq (bp.h kV doc pmv an cdv ct ws hl)
  refine ⟨_, pe_callKw (E := WE W) F2 (hr.mono hj) hg gm F1.kp hb (fun σ => passAt tk σ) pa hall hks hdb hpl, ?_⟩
  intro B Hf ρ σ H Q Qd Ed S h hQ hE
  refine sa B Hf ρ σ H _ _ Ed S h (fun ags ρ1 H1 Hf1 vs q S1 h1 l1 => ?_) hE
  obtain ⟨hno, q⟩ := q
  rw [permR_eq] at q
  have hp := permL_ow (pm := pm) hno
  have S1' : SO X.K B Hf1 (tops (permL pm ags) ++ ρ1) (topV (permL pm ags) (permL pm vs) ++ σ) H1 := by
    rw [noOw_tops hno, noOw_topV hno] at S1
    rw [noOw_tops hp, noOw_topV hp]
    exact S1
  obtain ⟨as, ρ2, bs, fr, q2, S2, back, backX⟩ := call_frame S1' (paired_perm h1 pm) q
  refine ⟨l1.trans hkl, hn vs (l1.trans hkl), fr, Hf1, as, S2, ?_⟩
  refine ⟨q2.1, fun r as' p Hf' H' v S3 => hQ _ _ H' v (q2.2.1 r as' p) (back Hf' H' r v as' S3), fun C as' p Hf' H' S3 => ?_⟩
  obtain ⟨Hf2, S4⟩ := backX Hf' H' as' S3
  exact hE C _ σ H' Hf2 (q2.2.2 C as' p) S4

/-! ### raise, try -/
/-- an exception class of the text without an __init__ of its own -/
structure ExT (K : PySem.W.Frag) (mg : Str → Option Value) (x : Str) (C : Addr) : Prop where
  g : mg x = some (.ref C)
  x : PySem.W.excIn K C [.type "ValueError", .type "Exception", .type "BaseException", .type "object"] "ValueError.__new__" = true
  k : PySem.W.keepIn K (.ref C) = true
  b : PySem.W.subIn K (.ref C) (.type "BaseException") = some true
  t : PySem.W.typeIn K (.ref C) = some (.type "type")
abbrev sRaise (C : Addr) : DS := fun D ρ => D.ex C ρ
theorem psd_raise {x m : Str} {j : Nat} {p p2 pos2 : Pos} {C : Addr} (tk : Takes X W) (hc : X.calm = true) (T : ExT X.K X.mg x C) (hg : Gl X x) (hdb : (x == ("__debug__" : Str)) = false := by decide) : PSD X W (.Raise (some (.Call (.Name x p) [.Constant (.str m) j p2] [] pos)) none pos2) (sRaise C) := by
  refine ⟨_, ps_raise hc tk (pmk_own PySem.F.excBase_ValueError T.x T.g T.k (raises_own T.b T.t) hg hdb), ?_⟩
  intro B Hf ρ σ H D D' S L h
  exact L.ex C ρ σ H Hf h S
/-- try .. except x (as n): m tells which classes are caught, su the suite -/
abbrev tryX (i : Option Nat) (m : Addr → Option Bool) (su : Addr → Addr → DS) (D : DEnds) : XD := fun C ρ1 => match m C with
  | some true => ∀ a, (match i with
    | some i => su a C { nx := fun ρ2 => D.nx (setS ρ2 i .nil), rt := D.rt, bk := fun ρ2 => D.bk (setS ρ2 i .nil), ct := fun ρ2 => D.ct (setS ρ2 i .nil), ex := noX } (setS ρ1 i (.xa a))
    | none => su a C { D with ex := noX } ρ1)
  | some false => D.ex C ρ1
  | none => False
abbrev sTry (i : Option Nat) (m : Addr → Option Bool) (body : DS) (su : Addr → Addr → DS) : DS := fun D ρ => body { D with ex := tryX i m su D } ρ
/-- the suites, whatever the exception -/
structure SuD (X : Cx) (b₀ : Stmt) (suite : List Stmt) (m : Addr → Option Bool) (su : Addr → Addr → DS) : Prop where
  h : ∀ (a : Addr) (oe : Obj) (C : Addr) (pn : List (Addr × Obj)), m C = some true → Zc (.ref C) none oe → (∃ vs, oe.data = .fields vs) → PBD (X.suite a ((a, oe) :: pn)) W0 (b₀ :: suite) (su a C)
theorem SuD.all {b₀ : Stmt} {suite : List Stmt} {m : Addr → Option Bool} {su : Addr → Addr → DS} (h : SuD X b₀ suite m su) : ∃ ts : Addr → Value → Option Addr → TS,
    (∀ (a : Addr) (oe : Obj) (cls : Value) (d : Option Addr) (pn : List (Addr × Obj)), Zc cls d oe → (∃ vs, oe.data = .fields vs) → PSs (X.suite a ((a, oe) :: pn)) (b₀ :: suite) (ts a cls d)) ∧
    ∀ a C, m C = some true → SemS X.K W0 (ts a (.ref C) none) (su a C) := by
  refine ⟨fun a cls d D σ H => (∃ C, cls = .ref C ∧ d = none ∧ m C = some true) ∧ ∀ (C : Addr) (hC : m C = some true), cls = .ref C → ∀ (oe : Obj) (pn : List (Addr × Obj)) (hz : Zc (.ref C) none oe) (hf : ∃ vs, oe.data = .fields vs), (Classical.choose (h.h a oe C pn hC hz hf).ex) D σ H, ?_, ?_⟩
  · intro a oe cls d pn hz hf
    refine ⟨fun pins s σ H D I q => ?_⟩
    obtain ⟨⟨C, rfl, rfl, hC⟩, q⟩ := q
    exact (Classical.choose_spec (h.h a oe C pn hC hz hf).ex).1.run pins s σ H D I (q C hC rfl oe pn hz hf)
  · intro a C hC B Hf ρ σ H D D' S L q
    refine ⟨⟨C, rfl, rfl, hC⟩, fun C' hC' e oe pn hz hf => ?_⟩
    cases e
    exact (Classical.choose_spec (h.h a oe C pn hC hz hf).ex).2 B Hf ρ σ H D D' S L q
theorem body_all {body : List Stmt} {t : DS} (hb : ∀ (W : WX) (pn : List (Addr × Obj)) (xe : Value → Shared → Prop), Takes (X.tr pn xe) W → PassesOwn (model X.prog X.w) X.A X.env xe → PBD (X.tr pn xe) W body t) :
    ∃ tb : WX → TS, (∀ (W : WX) (pn : List (Addr × Obj)) (xe : Value → Shared → Prop), Takes (X.tr pn xe) W → PassesOwn (model X.prog X.w) X.A X.env xe → PSs (X.tr pn xe) body (tb W)) ∧ ∀ W, SemS X.K W (tb W) t := by
  refine ⟨fun W D σ H => ∀ (pn : List (Addr × Obj)) (xe : Value → Shared → Prop) (tk : Takes (X.tr pn xe) W) (po : PassesOwn (model X.prog X.w) X.A X.env xe), (Classical.choose (hb W pn xe tk po).ex) D σ H, ?_, ?_⟩
  · intro W pn xe tk po
    exact ⟨fun pins s σ H D I q => (Classical.choose_spec (hb W pn xe tk po).ex).1.run pins s σ H D I (q pn xe tk po)⟩
  · intro W B Hf ρ σ H D D' S L q pn xe tk po
    exact (Classical.choose_spec (hb W pn xe tk po).ex).2 B Hf ρ σ H D D' S L q
theorem xa_set {K : PySem.W.Frag} {B : Bs} {Hf H : Hp} {ρ : List Sl} {σ : L2.St} (S : SO K B Hf ρ σ H) (i : Nat) (a : Addr) : SO K B Hf (setS ρ i (.xa a)) (σ.set i (some (.ref a))) H := S.setFz i (s := .xa a) ⟨rfl, rfl⟩
theorem psd_try {x : Str} {c : Value} {body suite : List Stmt} {b₀ : Stmt} {np pos' : Pos} {m : Addr → Option Bool} {t : DS} {su : Addr → Addr → DS} (hs : X.stack = X.env :: X.outer) (hf : X.env.frame = some X.env.locals) (hc : Names X x c) (tk : Takes X W)
    (hm : ∀ C b, m C = some b → PySem.W.exmOne X.K (.ref C) c = some b)
    (hb : ∀ (W : WX) (pn : List (Addr × Obj)) (xe : Value → Shared → Prop), Takes (X.tr pn xe) W → PassesOwn (model X.prog X.w) X.A X.env xe → PBD (X.tr pn xe) W body t) (hsu : SuD X b₀ suite m su) :
    PSD X W (.Try body [.ExceptHandler (some (.Name x np)) none (b₀ :: suite) pos'] [] [] pos) (sTry none m t su) := by
  obtain ⟨tb, p1, s1⟩ := body_all hb
  obtain ⟨ts, p2, s2⟩ := hsu.all
  refine ⟨_, ps_try_only (tb := tb) (ts := ts) hs hf hc tk p1 p2, ?_⟩
  intro B Hf ρ σ H D D' S L h
  refine s1 _ B Hf ρ σ H { D with ex := tryX none m su D } D' S ⟨L.nx, L.rt, L.bk, L.ct, ?_⟩ h
  intro C ρ1 σ1 H1 Hf1 q S1
  have q : tryX none m su D C ρ1 := q
  unfold tryX at q
  cases e : m C with
  | none => rw [e] at q; exact q.elim
  | some b =>
    rw [e] at q
    refine ⟨b, hm C b e, fun hb a ha => ?_, fun hb => ?_⟩
    · subst hb
      exact s2 a C e B Hf1 ρ1 σ1 H1 { D with ex := noX } D' S1 ⟨L.nx, L.rt, L.bk, L.ct, xl_no⟩ (q a)
    · subst hb
      exact L.ex C ρ1 σ1 H1 Hf1 q S1
theorem psd_tryAs (i : Nat) {x n : Str} {c : Value} {body suite : List Stmt} {b₀ : Stmt} {np pos' : Pos} {m : Addr → Option Bool} {t : DS} {su : Addr → Addr → DS} (hs : X.stack = X.env :: X.outer) (hf : X.env.frame = some X.env.locals) (hN : X.N.Nodup) (hi : X.N[i]? = some n) (hln : X.env.kindOf n = some .local) (hc : Names X x c) (tk : Takes X W)
    (hm : ∀ C b, m C = some b → PySem.W.exmOne X.K (.ref C) c = some b)
    (hb : ∀ (W : WX) (pn : List (Addr × Obj)) (xe : Value → Shared → Prop), Takes (X.tr pn xe) W → PassesOwn (model X.prog X.w) X.A X.env xe → PBD (X.tr pn xe) W body t) (hsu : SuD X b₀ suite m su) :
    PSD X W (.Try body [.ExceptHandler (some (.Name x np)) (some n) (b₀ :: suite) pos'] [] [] pos) (sTry (some i) m t su) := by
  obtain ⟨tb, p1, s1⟩ := body_all hb
  obtain ⟨ts, p2, s2⟩ := hsu.all
  refine ⟨_, ps_try_as (tb := tb) (ts := ts) hs hf hN hi hln hc tk p1 p2, ?_⟩
  intro B Hf ρ σ H D D' S L h
  refine s1 _ B Hf ρ σ H { D with ex := tryX (some i) m su D } D' S ⟨L.nx, L.rt, L.bk, L.ct, ?_⟩ h
  intro C ρ1 σ1 H1 Hf1 q S1
  have q : tryX (some i) m su D C ρ1 := q
  unfold tryX at q
  cases e : m C with
  | none => rw [e] at q; exact q.elim
  | some b =>
    rw [e] at q
    refine ⟨b, hm C b e, fun hb a ha => ?_, fun hb => ?_⟩
    · subst hb
      refine s2 a C e B Hf1 _ _ H1 { nx := fun ρ2 => D.nx (setS ρ2 i .nil), rt := D.rt, bk := fun ρ2 => D.bk (setS ρ2 i .nil), ct := fun ρ2 => D.ct (setS ρ2 i .nil), ex := noX } _ (xa_set S1 i a) ⟨fun ρ σ H Hf q S => L.nx _ _ _ _ q (S.setNone i), L.rt, fun ρ σ H Hf q S => L.bk _ _ _ _ q (S.setNone i), fun ρ σ H Hf q S => L.ct _ _ _ _ q (S.setNone i), xl_no⟩ (q a)
    · subst hb
      exact L.ex C ρ1 σ1 H1 Hf1 q S1
end

/-! ### the law's end -/
theorem law_end {l : PySem.W.OpenLaw} {q : Program} {loose : List Str} {XP : (Str → Option Value) → Heap → Prop} {YP : World → Heap → Prop} {d : DefRec} {K : Params → PySem.W.Frag} {st : Stmt} {k : Nat} {x : Str} {sp : Spc} (hn : l.most = some 63) (hdf : d.params.defaults = []) (hr : Room k callerA)
    (hY : ∀ (w : World) (h : Heap), YP w h → (K w.params).In h) (bp : BindP st d.name [x])
    (F : ∀ (w : World) (mg : Str → Option Value) (h : Heap), (K w.params).In h → h.Ns mainGlobals mg → ∀ base : Heap, (K w.params).In base → base.Ns mainGlobals mg → FnC l.prog w (K w.params) mg base k d.name [x] st sp)
    (hp : ∀ ns : List Int, ns.length ≤ 63 → (∀ z ∈ ns, Builtin.Int.intBits z ≤ 1048576) → sp.pre [.sc ns] ∧ (∀ r as', sp.post [.sc ns] r as' → r = .fz (.bool true)) ∧ ∀ C as', ¬ sp.exc [.sc ns] C as') :
    PySem.W.WalkO q loose XP YP l.row.toRowW d [] (fun f vs => PySem.call f vs) := by
  refine L2.walk_ofB (n := 63) (k := k) (x := x) (CX := fun w => L2.CX l.prog w) (sp := fun w => spOf (K w.params) 1 sp.fs) hn (by decide) hdf hr hY (fun w mg fa h KX G hfa => ?_) (fun w H a ns hl hb hO hS => ?_) fun w H s e s' h => ?_
  · obtain ⟨f, fd, F1, gm, _⟩ := F w mg h KX G h KX G
    refine ⟨fd, fun s v => ?_, fun base Kb Gb => ?_⟩
    · obtain ⟨oc, od, kV, doc, pmv, an, cdv, ct, osl, rfl, lk, hcd⟩ := F1.ex
      exact .of_eq (bp.h kV doc pmv an cdv ct [v] rfl)
    · obtain ⟨f', fd', F1', gm', F2'⟩ := F w mg h KX G base Kb Gb
      have e1 : f' = fa := by rw [hfa] at gm'; cases gm'; rfl
      have e2 : f = fa := by rw [hfa] at gm; cases gm; rfl
      subst e1
      subst e2
      obtain ⟨oc, od, kV, doc, pmv, an, cdv, ct, osl, e3, lk, hcd⟩ := F1.ex
      obtain ⟨oc', od', kV', doc', pmv', an', cdv', ct', osl', e4, lk', hcd'⟩ := F1'.ex
      rw [lk] at lk'
      have : fd = fd' := by cases lk'; rfl
      rw [this]
      exact F2'
  · obtain ⟨h1, h2, h3⟩ := hp ns hl hb
    refine ⟨rfl, fun _ => none, H, [.sc ns], ⟨Same.refl _, Same.refl _, fun _ _ e => (by cases e), [], ⟨_, _, [], [], rfl, rfl, ⟨rfl, a, rfl, hS⟩, rfl, rfl⟩, List.nodup_nil, fun _ h => by simp at h⟩, h1, fun r as' p Hf' H' v S' => ?_, fun C as' p => absurd p (h3 C as')⟩
    have e := h2 r as' p
    subst e
    obtain ⟨v', fp, e1, e2, y, e3, rv⟩ := S'.get (i := 0) rfl
    cases e1
    cases e3
    cases rv
    rfl
  · obtain ⟨_, _, _, _, _, _, _, _, _, _, _, _, z⟩ := h
    exact z
end DL
set_option Elab.async false
set_option linter.all false
set_option maxRecDepth 100000
set_option maxHeartbeats 1000000
/-! DLi: chains, in, divmod, a caught exception's class. -/
namespace DL
open PySem PySem.Spec PyProof.Rows L2
section
variable {X : Cx} {W : WX} {pos : Pos}

/-! ### a constant of the text -/
theorem pd_globI {x : Str} {i : Int} (hg : Gl X x) (h : ∃ t, X.mg x = some (.int i t)) (hd : (x == ("__debug__" : Str)) = false := by decide) : PD X W (.Name x pos) (eC (.int i)) := by
  obtain ⟨t, h⟩ := h
  exact pd_glob (v := .int i) hg h ⟨t, rfl⟩ (fun _ => .int i) hd
theorem pd_globR {x : Str} {d : D} (hg : Gl X x) (h : ∃ a, X.mg x = some (.ref a) ∧ ∀ H, Rep X.K H (.ref a) d) (hd : (x == ("__debug__" : Str)) = false := by decide) : PD X W (.Name x pos) (eC d) := by
  obtain ⟨a, h, r⟩ := h
  exact pd_glob (v := .ref a) hg h rfl r hd
theorem u65 {k : Nat} {A : Around} (r : Room k A) : A.units + 65 < cLine := by have := r.un; omega

/-! ### a op b op2 c -/
abbrev eChain (rd rd' : DE2) (ta tb tc : DE) : DE := fun ρ Q E => ta ρ (fun x ρ1 => tb ρ1 (fun y ρ2 => pk2 (stl x) (stl y) ρ2 fun a b => rd a b fun z => match z with
  | .fz (.bool k) => if k = true then tc ρ2 (fun w ρ3 => pk2 (stl y) (stl w) ρ3 fun b c => rd' b c fun z => Q z ρ3) E else Q (.fz (.bool false)) ρ2
  | _ => False) E) E
theorem sem_chain {r r' : R2} {rd rd' : DE2} {ta tb tc : TE} {da db dc : DE} (c : Conn X.K r rd) (c' : Conn X.K r' rd') (ha : Sem1 X.K W ta da) (hb : Sem1 X.K W tb db) (hc : Sem1 X.K W tc dc) : Sem1 X.K W (tChain r r' ta tb tc) (eChain rd rd' da db dc) := by
  intro B Hf ρ σ H Q Qd Ed S h hQ hE
  refine ha B Hf ρ σ H _ _ Ed S h (fun r1 ρ1 H1 v1 q1 e1 => ?_) hE
  obtain ⟨Hf1, S1, h1⟩ := e1.settle
  refine hb (B.up Hf1) Hf1 ρ1 σ H1 _ _ Ed S1.raise q1 (fun r2 ρ2 H2 v2 q2 e2 => ?_) (hE.up S1.up)
  obtain ⟨Hf2, S2, h2⟩ := e2.settle
  have S3 := S2.base S1.up
  obtain ⟨a, b, p1, p2, q⟩ := pk2_of q2
  refine c (B.up Hf2) Hf2 ρ2 σ H2 v1 v2 a b _ _ S3.raise ((h1.mono S2.up).peek S3 p1) (h2.peek S3 p2) q fun z H3 v qz ez => ?_
  match z, qz with
  | .fz (.bool k), qz =>
    obtain ⟨Hf3, S4, rv⟩ := ez
    have ev : v = .bl k := by cases rv; rfl
    refine ⟨k, ev, ?_⟩
    cases k with
    | false => exact hQ _ _ H3 _ qz ⟨Hf3, S4.base S3.up, .bl _⟩
    | true =>
      refine hc (B.up Hf3) Hf3 ρ2 σ H3 _ _ Ed (S4.base S3.up).raise qz (fun r4 ρ4 H4 v4 q4 e4 => ?_) (hE.up (S4.base S3.up).up)
      obtain ⟨Hf5, S5, h5⟩ := e4.settle
      have S6 := S5.base (S4.base S3.up).up
      obtain ⟨b', c'', p3, p4, q5⟩ := pk2_of q4
      exact c' B Hf5 ρ4 σ H4 v2 v4 b' c'' Q _ S6 (((h2.mono S4.up).mono S5.up).peek S6 p3) (h5.peek S6 p4) q5 fun z H' v qz ez => hQ z ρ4 H' v qz ez
theorem pd_chain {op op' : CmpOp} {r r' : R2} {rd rd' : DE2} {a b c : Expr} {ta tb tc : DE} (ho : OpR X (compareOp op) r) (cn : Conn X.K r rd) (ho' : OpR X (compareOp op') r') (cn' : Conn X.K r' rd') (ha : PD X W a ta) (hb : PD X W b tb) (hc : PD X W c tc)
    (hm : lastMarks [op, op'] [b, c] = false := by with_unfolding_all rfl) : PD X W (.Compare a [op, op'] [b, c] pos) (eChain rd rd' ta tb tc) := by
  obtain ⟨t1, p1, s1⟩ := ha
  obtain ⟨t2, p2, s2⟩ := hb
  obtain ⟨t3, p3, s3⟩ := hc
  exact ⟨_, pe_chain ho ho' p1 p2 p3 hm, sem_chain cn cn' s1 s2 s3⟩
theorem ptd_chain {op op' : CmpOp} {r r' : R2} {rd rd' : DE2} {a b c : Expr} {ta tb tc : DE} (ho : OpR X (compareOp op) r) (cn : Conn X.K r rd) (ho' : OpR X (compareOp op') r') (cn' : Conn X.K r' rd') (ha : PD X W a ta) (hb : PD X W b tb) (hc : PD X W c tc)
    (hm : lastMarks [op, op'] [b, c] = false := by with_unfolding_all rfl) : PTD X W (.Compare a [op, op'] [b, c] pos) (dB (eChain rd rd' ta tb tc)) := by
  obtain ⟨t1, p1, s1⟩ := ha
  obtain ⟨t2, p2, s2⟩ := hb
  obtain ⟨t3, p3, s3⟩ := hc
  refine ⟨_, pt_chain ho ho' p1 p2 p3 hm, ?_⟩
  exact sem_b (sem_chain cn cn' s1 s2 s3)

/-! ### in -/
def flatD : D → Bool
  | .none => true
  | .bool _ => true
  | .int _ => true
  | .str _ => true
  | _ => false
abbrev dInn (n : Bool) : DE2
  | .d a, .d (.tuple ds), Q => flatD a = true ∧ ds.all flatD = true ∧ Q (.fz (.bool (n.xor (ds.any fun y => PyData.eqv y a))))
  | .d a, .d (.list ds), Q => SeqAt.shaped a = true ∧ SeqAt.shaped (.list ds) = true ∧ Q (.fz (.bool (n.xor (ds.any fun y => PyData.eqv y a))))
  | _, _, _ => False
theorem Rep.flat {K : PySem.W.Frag} {H : Hp} {v : V} {d : D} (h : Rep K H v d) (f : flatD d = true) : flatV v = true := by
  cases h <;> first | rfl | cases f
theorem Reps.flat {K : PySem.W.Frag} {H : Hp} : ∀ {vs : List V} {ds : List D}, Reps K H vs ds → ds.all flatD = true → vs.all flatV = true
  | _, _, .nil, _ => rfl
  | _, _, .cons h r, f => by
    rw [List.all_cons, Bool.and_eq_true] at f ⊢
    exact ⟨h.flat f.1, Reps.flat r f.2⟩
theorem Rep.eqV {K : PySem.W.Frag} {H : Hp} {v u : V} {d e : D} (h : Rep K H v d) (k : Rep K H u e) (f : flatD d = true) (g : flatD e = true) : eqV v u = PyData.eqv d e := by
  cases h <;> cases k <;> first | rfl | cases f | cases g
theorem Reps.inVr {K : PySem.W.Frag} {H : Hp} {x : V} {d : D} (hx : Rep K H x d) (fx : flatD d = true) : ∀ {vs : List V} {ds : List D}, Reps K H vs ds → ds.all flatD = true → inV x vs = ds.any fun y => PyData.eqv y d
  | _, _, .nil, _ => rfl
  | _, _, .cons h r, f => by
    rw [List.all_cons, Bool.and_eq_true] at f
    show (eqV _ _ || inV _ _) = (PyData.eqv _ _ || _)
    rw [h.eqV hx f.1 fx, Reps.inVr hx fx r f.2]
def rInA (K : PySem.W.Frag) (n : Bool) : R2 := fun x y H Q => rIn K n x y H Q ∨ (if n then rNotInD K x y H Q else rInD K x y H Q)
theorem op_inA (hu : X.A.units + 65 < cLine) : OpR X (compareOp .In) (rInA X.K false) := OpR.or op_in_seq (op_inD hu)
theorem op_notInA (hu : X.A.units + 65 < cLine) : OpR X (compareOp .NotIn) (rInA X.K true) := OpR.or op_notIn_seq (op_notInD hu)
theorem c_inn {K : PySem.W.Frag} (n : Bool) : Conn K (rInA K n) (dInn n) := by
  intro B Hf ρ σ H x y a b Q Qd S ra rb q k
  cases a with
  | sc _ => exact q.elim
  | d a =>
    cases b with
    | sc _ => exact q.elim
    | d b =>
      cases b with
      | tuple ds =>
        obtain ⟨f1, f2, q⟩ := q
        obtain ⟨p, vs, rfl, h1, r1, z1⟩ := rb.tup
        have rx := ra.rep S.sub
        have r1 := r1.same S.sub
        refine .inl ⟨p, vs, rfl, .inr (sqT_same S.sub h1), rx.flat f1, r1.flat f2, ?_⟩
        rw [Reps.inVr rx f1 r1 f2]
        refine k _ _ _ q ⟨Hf, S, ?_⟩
        cases n
        · rw [Bool.false_xor]; exact .bl _
        · rw [Bool.true_xor]; exact .bl _
      | list ds =>
        obtain ⟨f1, f2, q⟩ := q
        refine .inr ?_
        have d1 := (ra.rep S.sub).dp _ _ (SeqAt.canLay_of_shaped f1)
        have d2 := (rb.rep S.sub).dp _ _ (SeqAt.canLay_of_shaped f2)
        cases n
        · exact ⟨a, ds, d1, d2, f1, f2, k _ _ _ q ⟨Hf, S, by rw [Bool.false_xor]; exact .bl _⟩⟩
        · exact ⟨a, ds, d1, d2, f1, f2, k _ _ _ q ⟨Hf, S, by rw [Bool.true_xor]; exact .bl _⟩⟩
      | _ => exact q.elim

/-! ### divmod -/
abbrev dDivmod : DEn
  | [.d (.int i), .d (.int j)], Q => CDivP i j ∧ Q (.fz (.tuple [.int (i / j), .int (i % j)]))
  | _, _ => False
theorem c_divmod {K : PySem.W.Frag} : ConnN K (fun xs H Q => ∃ i j, xs = [.int i, .int j] ∧ CDivP i j ∧ ∀ p, H p = none → Q (.ref p) (upd H p (.tup [.int (i / j), .int (i % j)]))) dDivmod := by
  intro B Hf ρ σ H xs as Q Qd S r q k
  match as, q with
  | [.d (.int i), .d (.int j)], q =>
    obtain ⟨x, y, rfl, r1, r2⟩ := two_of r
    refine ⟨i, j, by rw [r1.int, r2.int], q.1, fun p hp => k _ _ _ q.2 ⟨_, S.alloc hp _, ?_⟩⟩
    exact .tup (SqT.of upd_same) (.cons (.int _) (.cons (.int _) .nil)) (by show 2 ≤ sizeLine; decide)
theorem divp_small {i j : Int} (hj : 0 < j) (h : i.natAbs < 2 ^ 4000) : CDivP i j := divp_ok hj (by
  have := PyProof.Rows.intBits_le h
  omega)

/-! ### isinstance of what a suite caught -/
abbrev eIsE (i : Nat) (a : Addr) (o : Option Bool) : DE := fun ρ Q _ => match o with
  | some b => getS ρ i = .xa a ∧ Q (.fz (.bool b)) ρ
  | none => False
theorem pd_isE (i : Nat) {a C : Addr} {oe : Obj} {pn : List (Addr × Obj)} {x y : Str} {p p1 p2 : Pos} {o : Option Bool} {te : V} {cv : Value} (E : ExcC X.K C) (hz : Zc (.ref C) none oe) (hf : ∃ vs, oe.data = .fields vs)
    (hg : Gl X "isinstance") (hm : X.mg "isinstance" = none) (hN : X.N[i]? = some x) (hv : Vis X.env.scope x) (hd : (x == ("__debug__" : Str)) = false) (hcd : (x == ("__classdict__" : Str)) = false)
    (hy : PE (X.suite a ((a, oe) :: pn)) (.Name y p2) (tC te)) (hcv : ∀ u, RelV te u → u = cv) (hb : ∀ b, o = some b → PySem.W.kitOne X.K (.ref C) cv = some b)
    (he : starEach [.Name x p1, .Name y p2] (X.suite a ((a, oe) :: pn)).env = (false, eval (.Name x p1) (X.suite a ((a, oe) :: pn)).env) :: starEach [.Name y p2] (X.suite a ((a, oe) :: pn)).env := by rfl) (he2 : starEach [.Name y p2] (X.suite a ((a, oe) :: pn)).env = (false, eval (.Name y p2) (X.suite a ((a, oe) :: pn)).env) :: starEach [] (X.suite a ((a, oe) :: pn)).env := by rfl)
    (hpl : (backTo pos (starEach [.Name y p2] (X.suite a ((a, oe) :: pn)).env)).any (·.1) = false := by rfl) :
    PD (X.suite a ((a, oe) :: pn)) W (.Call (.Name "isinstance" p) [.Name x p1, .Name y p2] [] pos) (eIsE i a o) := by
  refine ⟨_, pe_callB (X := X.suite a ((a, oe) :: pn)) (call_isE E hz hf) hg hm PyProof.Rows.boot_isinstance (pa_cons (pe_var (X := X.suite a ((a, oe) :: pn)) (i := i) hN hv hd hcd) (pa_cons hy pa_nil he2) he) (by decide) (by decide) he hpl, ?_⟩
  intro B Hf ρ σ H Q Qd Ed S h hQ hE
  cases o with
  | none => exact h.elim
  | some b =>
    obtain ⟨h1, h2⟩ := h
    obtain ⟨w, fp, e1, e2, e3⟩ := S.get (getS_eq h1 (fun z => nomatch z))
    refine ⟨.ref a, ?_, te, cv, b, rfl, hcv, hb b rfl, hQ _ ρ H _ h2 ⟨Hf, S, .bl _⟩⟩
    rw [e1, e3]
end
end DL
set_option Elab.async false
set_option linter.all false
set_option maxRecDepth 100000
set_option maxHeartbeats 1000000
/-! DLj: enumerate, zip, op=, exceptions as data. -/
namespace DL
open PySem PySem.Spec PyProof.Rows L2
/-! ### enumerate over a tuple -/
theorem meets_enum1 {v : Value} {o : Obj} {H : Heap → Prop} (B : Begins v o H) :
    Meets (Builtin.«enumerate.__new__» ⟨[.type "enumerate", v], []⟩) (fun _ R s => H s.heap ∧
      R (.ok (.ret (.ref (s.heap.push o).objs.size))) { s with heap := (s.heap.push o).push { cls := .type "enumerate", data := .fields #[.none, .bool false, .ref s.heap.objs.size, rawInt 0, .none, .none] } }) :=
  .of_wp fun prog w A R s h => by
    obtain ⟨hp, g, d, tk, os⟩ := s; obtain ⟨h1, h⟩ := h
    have hsub := sub_enumerate
    have q1 : ∀ {A' : Around} {E : Value → Shared → Prop} {Q : Value → Shared → Prop}, Q (.ref hp.objs.size) ⟨hp.push o, g, d, tk, os⟩ → wpAny (model prog w) A' (pyIter v) Q E ⟨hp, g, d, tk, os⟩ :=
      fun q => B.iter prog w _ _ ⟨hp, g, d, tk, os⟩ _ h1 q
    wp_walk using q1
    refine wpAny_stack_any fun st => wpAny_pure ?_
    split
    · rename_i c _ _ _ _ _
      cases (c == Value.type "enumerate")
      · wp_walk using q1
        exact ⟨_, rfl, h⟩
      · wp_walk using q1
        exact ⟨_, rfl, h⟩
    · wp_walk using q1
      exact ⟨_, rfl, h⟩
theorem enum_begins1 {prog : Program} {w : World} {A : Around} {E : Value → Shared → Prop} {s : Shared} {v : Value} {o : Obj} {H : Heap → Prop} {Q : Value → Shared → Prop} (B : Begins v o H) (h1 : H s.heap)
    (h : ∀ h', IsEnum h' (s.heap.objs.size + 1) s.heap.objs.size 0 .none → h'.get? s.heap.objs.size = some o → h'.objs.size = s.heap.objs.size + 2 →
      (∀ b o, s.heap.get? b = some o → h'.get? b = some o) → Q (.ref (s.heap.objs.size + 1)) { s with heap := h' }) :
    wpAny (model prog w) A (call (.type "enumerate") [v]) Q E s := by
  refine callType_new F.called_enumerate (by decide) (F.typeCall_enumerate_1 _) (F.newCall_enumerate_1 _) (fun obj => F.args_object_init_2 obj _) F.entry_enumerate_new
    (meets_enum1 B) ⟨h1, ?_⟩
  have hz : (s.heap.push o).objs.size = s.heap.objs.size + 1 := Heap.size_push ..
  show _ ∧ _
  rw [hz]
  have he : IsEnum ((s.heap.push o).push { cls := .type "enumerate", data := .fields #[.none, .bool false, .ref s.heap.objs.size, rawInt 0, .none, .none] }) (s.heap.objs.size + 1) s.heap.objs.size 0 .none := by
    have := Heap.get?_push_size (s.heap.push o) (o := { cls := .type "enumerate", data := .fields #[.none, .bool false, .ref s.heap.objs.size, rawInt 0, .none, .none] }) rfl
    rw [hz] at this; exact this
  refine ⟨⟨_, he, rfl⟩, h _ he (Heap.get?_push_of_some _ (Heap.get?_push_size _ B.free)) (by rw [Heap.size_push, hz]) fun b o x => Heap.get?_push_of_some _ (Heap.get?_push_of_some _ x)⟩
def IteT (K : PySem.W.Frag) (a : Addr) : It :=
  ⟨fun i H => ∃ (xs : List V) (x : V), SqT K H a xs ∧ xs[i]? = some x, fun i H v H' => ∃ T x, v = .ref T ∧ H T = none ∧ H' = upd H T (.tup [.int (i : Nat), x]) ∧ ∀ xs, SqT K H a xs → xs[i]? = some x, fun i H => ∃ xs : List V, SqT K H a xs ∧ xs.length ≤ i⟩
theorem turn_enumT {P : Program} {w : World} {K : PySem.W.Frag} {elts : List Expr} {kk : Nat} {tpos : Pos} (a e it : Addr) :
    Turn P w K (.Tuple elts kk tpos) (IteT K a) [e, it] e (fun i h => (∃ old, IsEnum h e it ((i : Nat) : Int) old) ∧ h.IsTupleIter it a i ∧ e ≠ it ∧ e ≠ a ∧ a ≠ it) where
  mem := by simp
  obj := fun i h st b hb => by
    obtain ⟨⟨old, he⟩, ⟨o, ho, hc, hd⟩, _⟩ := st
    have e' : b = e ∨ b = it := by simpa using hb
    rcases e' with z | z
    · rw [z]; exact ⟨_, he, fun v q => nomatch q⟩
    · rw [z]; exact ⟨o, ho, fun v q => by rw [hd] at q; cases q⟩
  keep := fun i h h' st k => let ⟨⟨old, he⟩, hi, hne⟩ := st; ⟨⟨old, k e (by simp) _ he⟩, hi.at fun o q => k it (by simp) o q, hne⟩
  item := by
    intro X hP hw hK hc i pins s σ H E I hf st hg
    subst hP hw hK
    obtain ⟨⟨old, he⟩, hit, hne, hea, hai⟩ := st
    obtain ⟨xs, x, hq, hx⟩ := hg
    obtain ⟨its, rv, p, hz⟩ := I.tuple hq
    obtain ⟨u, hu, ru⟩ := rv.get hx
    have hel : e < s.heap.objs.size := Heap.lt_size he
    have hil : it < s.heap.objs.size := by obtain ⟨_, q, _⟩ := hit; exact Heap.lt_size q
    have pt : s.heap.IsTuple a its.toArray := p
    have hlen : i < its.toArray.size := by
      have := (List.getElem?_eq_some_iff.mp hu).1
      simpa using this
    refine wpAny_pyNext_enum_itemD (D := Draws.tuple (A := X.A.in1) (I.ok.hd hc) it a hai its.toArray) he ⟨hit, pt⟩ hlen hne (by simp [hne, hea]) fun y h' tk hy ho hst' hT hsz hk => ?_
    have ey : y = u := by
      have hy : its.toArray[i]? = some y := hy
      rw [show its.toArray[i]? = some u by simpa using hu] at hy
      exact (Option.some.inj hy).symm
    subst ey
    refine ⟨_, rfl, wpAny_letOwnedTupleGo_enum (s := { s with heap := h', toks := tk + 1 }) ho fun h'' he' sb => ?_⟩
    have hT2 : h''.get? s.heap.objs.size = some { cls := .type "tuple", data := .seq #[.int i tk, y] } := (sb.2 _ (Nat.ne_of_gt hel)).trans hT
    have new : ObjOk X.prog X.w (upd H s.heap.objs.size (.tup [.int (i : Nat), x])) h'' s.heap.objs.size (.tup [.int (i : Nat), x]) :=
      ⟨by show 2 ≤ sizeLine; decide, [.int i tk, y], .cons ⟨_, rfl⟩ (.cons ru .nil), ⟨_, hT2, rfl, _, rfl⟩⟩
    have I1 : Inv X pins σ (upd H s.heap.objs.size (.tup [.int (i : Nat), x])) { s with heap := h'', toks := tk + 1 } :=
      I.turnedNew (ch := [e, it]) (fun b ob hb q => (sb.2 b (fun z => hb (by simp [z]))).trans (hk b ob (fun z => hb (by simp [z])) (fun z => hb (by simp [z])) q)) hf (Nat.le_refl _) new
    refine ⟨.ref s.heap.objs.size, _, I1, rfl, ⟨_, x, rfl, I.hok.fresh (Nat.le_refl _), rfl, fun ys hy => by rw [I.tuple_inj hy hq]; exact hx⟩, ⟨⟨y, ?_⟩, hst'.1.at fun o q => (sb.2 it (Ne.symm hne)).trans q, hne, hea, hai⟩, fun b hb => ?_⟩
    · have e1 : ((i + 1 : Nat) : Int) = (i : Int) + 1 := by omega
      rw [e1]; exact he'
    · have hb' : b < s.heap.objs.size := by
        have e' : b = e ∨ b = it := by simpa using hb
        rcases e' with z | z
        · rw [z]; exact hel
        · rw [z]; exact hil
      rw [upd_ne (Nat.ne_of_lt hb')]
      exact (hf b hb).1
  done := by
    intro X hP hw hK hc i pins s σ H E I hf st hg
    subst hP hw hK
    obtain ⟨⟨old, he⟩, hit, hne, hea, hai⟩ := st
    obtain ⟨xs, hq, hx⟩ := hg
    obtain ⟨its, rv, p, hz⟩ := I.tuple hq
    obtain ⟨f0, f1, f2, f3, f4, f5⟩ := hf it (by simp)
    have hl := rv.length
    have pt : s.heap.IsTuple a its.toArray := p
    unfold pyNext
    have hT : s.TypeIs (.ref e) "enumerate" := ⟨_, he, rfl⟩
    refine wpAny_bind (wpAny_attempt (wpAny_callSpecial?_slot (name := Str.ofString "__next__") hT F.slot_enumerate_next
      (wpAny_call_entry F.slot_enumerate_next hT F.entry_enumerate_next ?_ (F.args_enumerate_next_1 _))))
    show wpAny _ _ (field (.ref e) 2 >>= _) _ _ _
    refine wpAny_bind (wpAny_field he rfl (x := .ref it) rfl ?_)
    refine wpAny_bind (wpAny_nextOf_tuple_end (A := X.A.in1) (I.ok.hd hc) hit pt (by simp; omega) fun h' x he' hx' => ?_)
    obtain ⟨o, ho, hcc⟩ := hx'
    refine wpAny_bind (wpAny_isInstance (T := "StopIteration") (b := true) ⟨o, ho, hcc⟩ isSubtype_stop ?_)
    exact wpAny_pure ⟨rfl, I.turned (t' := s.toks) (fun b o hb q => he' b o hb q) f0 f1 f3 f4 f5⟩
  self := fun A i s Q E st h => let ⟨⟨_, he⟩, _⟩ := st; wpAny_pyIter_enum he h
def iEnumW (K : PySem.W.Frag) (ta : TA) : TI := fun σ H R => ta σ H fun vs H1 => ∃ a xs, vs = [.ref a] ∧ ((SqL K H1 a xs ∧ R (Ite K a) H1) ∨ (SqT K H1 a xs ∧ R (IteT K a) H1))
theorem pi_enumW {X : Cx} {e : Expr} {ta : TA} {p pos tpos : Pos} {elts : List Expr} {kk : Nat} (hg : Gl X "enumerate") (hm : X.mg "enumerate" = none) (ha : PA X [e] ta) (hs : starEach [e] X.env = [(false, eval e X.env)] := by rfl) :
    PI X (.Tuple elts kk tpos) (.Call (.Name "enumerate" p) [e] [] pos) (iEnumW X.K ta) := by
  refine ⟨fun pins s σ H R I h => ?_⟩
  refine Call_ (ld_blt I hg hm boot_enumerate (PyProof.Rows.callWith_type1 (thn (ha.run pos pins s σ H _ I h) fun us s1 ⟨vs, H1, I1, r1, q1⟩ => ?_) hs rfl))
  obtain ⟨a, xs, ex, q⟩ := q1
  subst ex
  cases r1 with
  | cons r rr =>
    cases rr
    cases r
    have fp2 : ∀ b, b ∈ [s1.heap.objs.size + 1, s1.heap.objs.size] → FpOk X pins H1 b := fun b hb => by
      have e' : b = s1.heap.objs.size + 1 ∨ b = s1.heap.objs.size := by simpa using hb
      have hle : s1.heap.objs.size ≤ b := by
        rcases e' with z | z
        · rw [z]; exact Nat.le_add_right _ _
        · rw [z]; exact Nat.le_refl _
      exact I1.fpOk hle (I1.hok.fresh hle)
    rcases q with ⟨hq, q⟩ | ⟨hq, q⟩
    · obtain ⟨its, rv, p', hz⟩ := I1.list hq
      refine call_enumerate_list p'.isList fun h' he hit hsz hk => wpAny_pyIter_enum he ?_
      have I2 : Inv X pins σ H1 { s1 with heap := h' } := I1.kept (t' := s1.toks) hk
      exact ⟨s1.heap.objs.size + 1, [s1.heap.objs.size + 1, s1.heap.objs.size], _, _, H1, rfl, I2, turn_enum a (s1.heap.objs.size + 1) s1.heap.objs.size, ⟨⟨.none, he⟩, hit, Nat.succ_ne_self _⟩, fp2, q⟩
    · obtain ⟨its, rv, p', hz⟩ := I1.tuple hq
      have pt : s1.heap.IsTuple a its.toArray := p'
      have hal : a < s1.heap.objs.size := by obtain ⟨o, ho, _⟩ := id p'; exact Heap.lt_size ho
      refine enum_begins1 (begins_tuple a its.toArray) pt fun h' he hit hsz hk => wpAny_pyIter_enum he ?_
      have I2 : Inv X pins σ H1 { s1 with heap := h' } := I1.kept (t' := s1.toks) hk
      exact ⟨s1.heap.objs.size + 1, [s1.heap.objs.size + 1, s1.heap.objs.size], _, _, H1, rfl, I2, turn_enumT a (s1.heap.objs.size + 1) s1.heap.objs.size, ⟨⟨.none, he⟩, ⟨_, hit, rfl, rfl⟩, Nat.succ_ne_self _, Nat.ne_of_gt (Nat.lt_succ_of_lt hal), Nat.ne_of_lt hal⟩, fp2, q⟩
/-! the walks as data -/
theorem walk_enumT {K : PySem.W.Frag} {a : Addr} {xs : List V} : Walk (IteT K a) xs.length (fun H => SqT K H a xs) (YPair (fun i => some (.int (i : Nat))) (fun i => xs[i]?)) := by
  refine ⟨fun i _ hi q => ⟨xs, xs[i], q, by simp [hi]⟩, fun _ q => ⟨xs, q, Nat.le_refl _⟩, fun i H v H' _ q y => ?_⟩
  obtain ⟨T, x, h1, h2, h3, h4⟩ := y
  exact ⟨T, .int (i : Nat), x, h1, h2, h3, rfl, h4 xs q⟩
/-- each item with its place -/
def enumD (ds : List D) : List D := (List.range ds.length).map fun i => .tuple [.int (i : Nat), ds.getD i .none]
theorem enumD_len (ds : List D) : (enumD ds).length = ds.length := by simp [enumD]
theorem enumD_get {ds : List D} {i : Nat} {d : D} (h : ds[i]? = some d) : (enumD ds)[i]? = some (.tuple [.int (i : Nat), d]) := by
  have hl := (List.getElem?_eq_some_iff.mp h).1
  unfold enumD
  rw [List.getElem?_map, List.getElem?_range hl]
  have e : ds.getD i PyData.none = d := by simp [List.getD, h]
  show some (PyData.tuple [.int (i : Nat), ds.getD i PyData.none]) = some _
  rw [e]
theorem pair_item {K : PySem.W.Frag} {Hf H H' : Hp} {v x y : V} {d e : D} {T : Addr} (h1 : v = .ref T) (h2 : H T = none) (h3 : H' = upd H T (.tup [x, y])) (r1 : Rep K Hf x d) (r2 : Rep K Hf y e) :
    (H' = H ∧ Rep K Hf v (.tuple [d, e])) ∨ ∃ T vs ds, v = .ref T ∧ H T = none ∧ H' = upd H T (.tup vs) ∧ PyData.tuple [d, e] = .tuple ds ∧ Reps K Hf vs ds ∧ ds.length ≤ sizeLine :=
  .inr ⟨T, [x, y], [d, e], h1, h2, h3, rfl, .cons r1 (.cons r2 .nil), by show 2 ≤ sizeLine; decide⟩
theorem iter_enumL {K : PySem.W.Frag} {Hf : Hp} {a : Addr} {vs : List V} {ds : List D} (h : SqL K Hf a vs) (r : Reps K Hf vs ds) : IterOk K Hf (Ite K a) (enumD ds) := by
  refine ⟨_, _, by rw [enumD_len, ← r.length]; exact walk_enum (K := K) (a := a) (xs := vs), fun H e => e.seq h, fun i H v H' hi e y => ?_⟩
  obtain ⟨T, x, y, h1, h2, h3, h4, h5⟩ := y
  cases h4
  obtain ⟨d, e1, rd⟩ := r.get h5
  exact ⟨_, enumD_get e1, pair_item h1 h2 h3 (.int _) rd⟩
theorem iter_enumT {K : PySem.W.Frag} {Hf : Hp} {a : Addr} {vs : List V} {ds : List D} (h : SqT K Hf a vs) (r : Reps K Hf vs ds) : IterOk K Hf (IteT K a) (enumD ds) := by
  refine ⟨_, _, by rw [enumD_len, ← r.length]; exact walk_enumT (K := K) (a := a) (xs := vs), fun H e => sqT_same e h, fun i H v H' hi e y => ?_⟩
  obtain ⟨T, x, y, h1, h2, h3, h4, h5⟩ := y
  cases h4
  obtain ⟨d, e1, rd⟩ := r.get h5
  exact ⟨_, enumD_get e1, pair_item h1 h2 h3 (.int _) rd⟩
section
variable {X : Cx} {W : WX} {pos : Pos}
abbrev iEnum (te : DE) : DI := fun ρ R E => te ρ (fun r ρ1 => frz r ρ1 fun d ρ2 => match d with
    | .list ds => R (enumD ds) ρ2
    | .tuple ds => R (enumD ds) ρ2
    | _ => False) E
theorem pid_enum {e : Expr} {te : DE} {p tpos : Pos} {elts : List Expr} {kk : Nat} (hg : Gl X "enumerate") (hm : X.mg "enumerate" = none) (he : PD X W e te) (hs : starEach [e] X.env = [(false, eval e X.env)] := by rfl) :
    PID X W (.Tuple elts kk tpos) (.Call (.Name "enumerate" p) [e] [] pos) (iEnum te) := by
  obtain ⟨t, pe, s⟩ := he
  refine ⟨_, pi_enumW hg hm (pa_cons pe pa_nil hs) hs, ?_⟩
  intro B Hf ρ σ H R Rd Ed S h hR hE
  refine s B Hf ρ σ H _ _ Ed S h (fun r ρ1 H1 v q e => ?_) hE
  obtain ⟨Hf1, d, ρ2, S1, rv, q⟩ := e.frz q
  cases rv with
  | lst h r z => exact ⟨_, _, rfl, .inl ⟨SqL.of (S1.sub _ _ h), hR _ ρ2 H1 Hf1 _ q S1 (iter_enumL (SqL.of h) r) (by rw [enumD_len]; exact z)⟩⟩
  | tup h r z => exact ⟨_, _, rfl, .inr ⟨sqT_same S1.sub h, hR _ ρ2 H1 Hf1 _ q S1 (iter_enumT h r) (by rw [enumD_len]; exact z)⟩⟩
  | _ => exact q.elim

/-! ### zip of two lists, of two tuples -/
def zipD : List D → List D → List D
  | d :: ds, e :: es => .tuple [d, e] :: zipD ds es
  | _, _ => []
theorem zipD_len : ∀ ds es : List D, (zipD ds es).length = min ds.length es.length
  | [], [] => rfl
  | [], _ :: _ => by simp [zipD]
  | _ :: _, [] => by simp [zipD]
  | d :: ds, e :: es => by simp [zipD, zipD_len ds es]
theorem zipD_get : ∀ {ds es : List D} {i : Nat} {d e : D}, ds[i]? = some d → es[i]? = some e → (zipD ds es)[i]? = some (.tuple [d, e])
  | [], _, _, _, _, h, _ => by simp at h
  | _ :: _, [], _, _, _, _, h => by simp at h
  | d :: ds, e :: es, 0, _, _, h, h' => by simp at h h'; subst h h'; rfl
  | d :: ds, e :: es, i + 1, _, _, h, h' => by
    show (zipD ds es)[i]? = _
    exact zipD_get (by simpa using h) (by simpa using h')
theorem walk_zipT {K : PySem.W.Frag} {a b : Addr} {xs ys : List V} {n : Nat} (hn : n = min xs.length ys.length) : Walk (RZ.ItzT K a b) n (fun H => SqT K H a xs ∧ SqT K H b ys) (YPair (fun i => xs[i]?) (fun i => ys[i]?)) := by
  subst hn
  refine ⟨fun i _ hi q => ?_, fun _ q => ⟨xs, ys, q.1, q.2, by omega⟩, fun i H v H' _ q y => ?_⟩
  · have h1 : i < xs.length := by omega
    have h2 : i < ys.length := by omega
    exact ⟨xs, ys, xs[i], ys[i], q.1, q.2, by simp [h1], by simp [h2]⟩
  · obtain ⟨T, x, z, h1, h2, h3, h4, h5⟩ := y
    exact ⟨T, x, z, h1, h2, h3, h4 xs q.1, h5 ys q.2⟩
theorem iter_zipL {K : PySem.W.Frag} {Hf : Hp} {a b : Addr} {vs us : List V} {ds es : List D} (h : SqL K Hf a vs) (r : Reps K Hf vs ds) (h' : SqL K Hf b us) (r' : Reps K Hf us es) : IterOk K Hf (Itz K a b) (zipD ds es) := by
  refine ⟨_, _, walk_zip (K := K) (a := a) (b := b) (xs := vs) (ys := us) (by rw [zipD_len, r.length, r'.length]), fun H e => ⟨e.seq h, e.seq h'⟩, fun i H v H' hi e y => ?_⟩
  obtain ⟨T, x, y, h1, h2, h3, h4, h5⟩ := y
  obtain ⟨d, e1, rd⟩ := r.get h4
  obtain ⟨d', e2, rd'⟩ := r'.get h5
  exact ⟨_, zipD_get e1 e2, pair_item h1 h2 h3 rd rd'⟩
theorem iter_zipT {K : PySem.W.Frag} {Hf : Hp} {a b : Addr} {vs us : List V} {ds es : List D} (h : SqT K Hf a vs) (r : Reps K Hf vs ds) (h' : SqT K Hf b us) (r' : Reps K Hf us es) : IterOk K Hf (RZ.ItzT K a b) (zipD ds es) := by
  refine ⟨_, _, walk_zipT (K := K) (a := a) (b := b) (xs := vs) (ys := us) (by rw [zipD_len, r.length, r'.length]), fun H e => ⟨sqT_same e h, sqT_same e h'⟩, fun i H v H' hi e y => ?_⟩
  obtain ⟨T, x, y, h1, h2, h3, h4, h5⟩ := y
  obtain ⟨d, e1, rd⟩ := r.get h4
  obtain ⟨d', e2, rd'⟩ := r'.get h5
  exact ⟨_, zipD_get e1 e2, pair_item h1 h2 h3 rd rd'⟩
abbrev iZip (ta : DF) : DI := fun ρ R E => ta ρ (fun ds ρ1 => match ds with
    | [.list ds, .list es] => R (zipD ds es) ρ1
    | [.tuple ds, .tuple es] => R (zipD ds es) ρ1
    | _ => False) E
theorem pid_zip {e e2 : Expr} {ta : DF} {p tpos : Pos} {elts : List Expr} {kk : Nat} (hg : Gl X "zip") (hm : X.mg "zip" = none) (ha : PFD X W [e, e2] ta)
    (hs : starEach [e, e2] X.env = (false, eval e X.env) :: starEach [e2] X.env := by rfl) (hpl : (backTo pos (starEach [e2] X.env)).any (·.1) = false := by rfl) :
    PID X W (.Tuple elts kk tpos) (.Call (.Name "zip" p) [e, e2] [] pos) (iZip ta) := by
  obtain ⟨t, pa, s⟩ := ha
  refine ⟨_, RZ.pi_zipA hg hm pa hs hpl, ?_⟩
  intro B Hf ρ σ H R Rd Ed S h hR hE
  refine s B Hf ρ σ H _ _ Ed S h (fun ds ρ1 H1 Hf1 vs q S1 r hl => ?_) hE
  match ds, r, q with
  | [.list ds, .list es], .cons (.lst h1 r1 z1) (.cons (.lst h2 r2 z2) .nil), q =>
    exact ⟨_, _, _, _, rfl, .inl ⟨SqL.of (S1.sub _ _ h1), SqL.of (S1.sub _ _ h2), hR _ ρ1 H1 Hf1 _ q S1 (iter_zipL (SqL.of h1) r1 (SqL.of h2) r2) (by rw [zipD_len]; omega)⟩⟩
  | [.tuple ds, .tuple es], .cons (.tup h1 r1 z1) (.cons (.tup h2 r2 z2) .nil), q =>
    exact ⟨_, _, _, _, rfl, .inr ⟨sqT_same S1.sub h1, sqT_same S1.sub h2, hR _ ρ1 H1 Hf1 _ q S1 (iter_zipT h1 r1 h2 r2) (by rw [zipD_len]; omega)⟩⟩
end
end DL
set_option Elab.async false
set_option linter.all false
set_option maxRecDepth 100000
set_option maxHeartbeats 1000000
/-! DLk: exceptions as data, isinstance of them, a text many times, op=. -/
namespace DL
open PySem PySem.Spec PyProof.Rows L2
section
variable {X : Cx} {W : WX} {pos : Pos}
/-! ### isinstance, exceptions among the data -/
def rIsO (K : PySem.W.Frag) : List V → Hp → VK → Prop := fun xs H Q => ∃ (a C : Addr) (c : V) (cv : Value) (b : Bool), xs = [.ref a, c] ∧ H a = some (ExO (.ref C) a) ∧ ExcC K C ∧ (∀ u, RelV c u → u = cv) ∧ PySem.W.kitOne K (.ref C) cv = some b ∧ Q (.bl b) H
theorem call_isO : CallR X (.builtin "isinstance") (rIsO X.K) := by
  intro pins s σ H xs us Q I r h
  obtain ⟨a, C, c, cv, b, rfl, ha, E, hcv, e, q⟩ := h
  cases r with
  | cons rx rr =>
    cases rr with
    | cons rt rr =>
      cases rr
      cases rx
      have ec := hcv _ rt
      subst ec
      obtain ⟨oe, vs, hget, hz, hv, _⟩ : ∃ (oe : Obj) (vs : Array Value), s.heap.get? a = some oe ∧ Zc (.ref C) none oe ∧ oe.data = .fields vs ∧ vs[1]? = some Value.none ∧ vs[2]? = some Value.none ∧ 4 < vs.size := (I.hok a _ ha).1
      have J : PySem.W.InstAt s.heap a oe C none := by
        obtain ⟨oc, od, oda, osl⟩ := oe
        obtain ⟨h1, h2⟩ := hz
        dsimp only at h1 h2 hv
        subst h1 h2 hv
        exact ⟨hget, rfl, rfl, trivial⟩
      exact PySem.W.kia_one (PySem.W.handS_kitx_exc E.hg E.hk E.hs E.hd E.ha E.hn E.ht E.hm) I.kIn J e (fun z => nomatch z) fun tk => ⟨.bl b, H, I.kept (t' := tk) fun _ _ z => z, rfl, q⟩
/-- no exception object but of these classes -/
abbrev exOk (cls : List Addr) : D → Prop
  | .dict k => ∃ C, C ∈ cls ∧ k = [(.int (C : Nat), .none)]
  | _ => True
abbrev eIsX (cls : List Addr) (f : D → Bool) (ta : DE) : DE := fun ρ Q E => ta ρ (fun r ρ1 => match peek (stl r) ρ1 with
  | some (.d d) => exOk cls d ∧ Q (.fz (.bool (f d))) ρ1
  | _ => False) E
theorem pd_isX {y : Str} {p p2 : Pos} {a : Expr} {T : String} {f : D → Bool} {ta : DE} (cls : List Addr) (it : IsT T f) (hx : ∀ C ∈ cls, ExcNo X.K C T) (hf : ∀ k, f (.dict k) = false) (hg : Gl X "isinstance") (hm : X.mg "isinstance" = none) (hg2 : Gl X y) (hm2 : X.mg y = none) (hv2 : bootBuiltins y = some (.type T)) (ha : PD X W a ta)
    (hn : y ≠ "__name__" := by decide) (hd : (y == ("__debug__" : Str)) = false := by decide)
    (he : starEach [a, .Name y p2] X.env = (false, eval a X.env) :: starEach [.Name y p2] X.env := by rfl) (hpl : (backTo pos (starEach [.Name y p2] X.env)).any (·.1) = false := by rfl) (he2 : starEach [.Name y p2] X.env = (false, eval (.Name y p2) X.env) :: starEach [] X.env := by rfl) :
    PD X W (.Call (.Name "isinstance" p) [a, .Name y p2] [] pos) (eIsX cls f ta) := by
  obtain ⟨t, p1, s⟩ := ha
  refine ⟨_, pe_callB (CallR.or call_isi call_isO) hg hm PyProof.Rows.boot_isinstance (pa_cons p1 (pa_cons (pe_bltn (v := .ty T) hg2 hm2 hv2 rfl hn hd) pa_nil he2) he) (by decide) (by decide) he hpl, ?_⟩
  intro B Hf ρ σ H Q Qd Ed S h hQ hE
  refine s B Hf ρ σ H _ _ Ed S h (fun r1 ρ1 H1 v1 q1 e1 => ?_) hE
  obtain ⟨Hf1, S1, h1⟩ := e1.settle
  cases pk : peek (stl r1) ρ1 with
  | none => rw [pk] at q1; exact q1.elim
  | some a =>
    rw [pk] at q1
    cases a with
    | sc _ => exact q1.elim
    | d d =>
      obtain ⟨qx, q⟩ := q1
      have hr := h1.peek S1 pk
      by_cases hk : ∀ k, d ≠ .dict k
      · exact .inl ⟨v1, .ty T, _, .type T, f d, rfl, .ty T, hr.ty S1.sub hk, kit_ty (it.h d hk), hQ _ ρ1 H1 _ q ⟨Hf1, S1, .bl _⟩⟩
      · have : ∃ k, d = .dict k := by
          cases d with
          | dict k => exact ⟨k, rfl⟩
          | _ => exact absurd (fun k z => nomatch z) hk
        obtain ⟨k, rfl⟩ := this
        obtain ⟨C, hC, rfl⟩ := qx
        have hrep : Rep X.K Hf1 v1 (.dict [(.int (C : Nat), .none)]) := hr
        generalize hd : (PyData.dict [(.int (C : Nat), .none)]) = d0 at hrep
        cases hrep with
        | @ex a C' hex =>
          have : C' = C := by
            simp [exD] at hd
            exact (Int.ofNat_inj.mp hd).symm
          subst this
          obtain ⟨n1, n2⟩ := hx _ hC
          refine .inr ⟨a, C', .ty T, .type T, false, rfl, S1.sub _ _ hex, n1, fun u h => h, n2, ?_⟩
          rw [hf] at q
          exact hQ _ ρ1 H1 _ q ⟨Hf1, S1, .bl _⟩
        | _ => cases hd
/-- C(e): a new exception object -/
abbrev eExc (C : Addr) (te : DE) : DE := fun ρ Q E => te ρ (fun _ ρ1 => Q (.fz (.dict [(.int (C : Nat), .none)])) ρ1) E
theorem pd_exc {x : Str} {e : Expr} {te : DE} {p : Pos} {C : Addr} (T : ExT X.K X.mg x C) (hg : Gl X x) (he : PD X W e te) (hs : starEach [e] X.env = (false, eval e X.env) :: starEach [] X.env := by rfl) (hdb : (x == ("__debug__" : Str)) = false := by decide) :
    PD X W (.Call (.Name x p) [e] [] pos) (eExc C te) := by
  obtain ⟨t, p1, s⟩ := he
  refine ⟨_, pe_exc1 PySem.F.excBase_ValueError T.x T.g T.k hg p1 hs hdb, ?_⟩
  intro B Hf ρ σ H Q Qd Ed S h hQ hE
  refine s B Hf ρ σ H _ _ Ed S h (fun r1 ρ1 H1 v1 q1 e1 a ha => ?_) hE
  obtain ⟨Hf1, S1⟩ := e1.so
  exact hQ _ ρ1 _ _ q1 ⟨_, S1.alloc ha _, Rep.ex upd_same⟩

/-! ### a text many times -/
theorem rep_size (xs : Array CodePoint) : ∀ (n : Nat) (acc : Array CodePoint), (List.foldl (fun x1 x2 => x1 ++ x2) acc (List.replicate n xs)).size = acc.size + n * xs.size
  | 0, acc => by simp
  | n + 1, acc => by
    rw [List.replicate_succ, List.foldl_cons, rep_size xs n]
    rw [Array.size_append, Nat.add_mul]; omega
def repS (a : Str) (k : Int) : Str := if k < 1 then Str.empty else if (k == 1 || a.length == 0) = true then a else ⟨(List.replicate k.toNat a.cps).foldl (· ++ ·) #[]⟩
def rMulS : R2 := fun x y H Q => ∃ a k, x = .str a ∧ y = .int k ∧ (0 ≤ k ∧ k ≤ 1000000 ∧ a.length ≤ 1) ∧ Q (.str (repS a k)) H
theorem op_mulS : OpR X (binaryOp .Mult) rMulS := by
  intro pins s σ H x y v u Q I rx ry h
  obtain ⟨a, k, rfl, rfl, ⟨h1, h2, h3⟩, q⟩ := h
  obtain ⟨t, rfl⟩ := rx
  obtain ⟨t', rfl⟩ := ry
  refine PySem.P.mul_str ?_ (fun h0 _ h4 => ?_) (fun _ _ => ?_) ?_
  · have e1 : ¬ k < -(2 ^ 63 : Int) := by omega
    have e2 : ¬ k ≥ 2 ^ 63 := by omega
    rw [decide_eq_false e1, decide_eq_false e2]; rfl
  · have : 1000000 ≤ (2 ^ 63 - 1 : Int) / k := (Int.le_ediv_iff_mul_le (by omega)).mpr (by omega)
    omega
  · have hz : a.length * k.toNat ≤ 1000000 := by
      have : a.length * k.toNat ≤ 1 * k.toNat := Nat.mul_le_mul_right _ h3
      omega
    first
      | exact decide_eq_false (by have := sizeLine_eq; omega)
      | (unfold tooLong; simp; have : (1000000 : Nat) ≤ sizeLine := by decide; omega)
  · unfold repS at q
    split
    · rename_i h0
      rw [if_pos h0] at q
      exact ⟨by decide, .str _, H, I.tok _, ⟨_, rfl⟩, q⟩
    · rename_i h0
      rw [if_neg h0] at q
      split
      · rename_i h5
        rw [if_pos h5] at q
        exact ⟨.str _, H, I, ⟨_, rfl⟩, q⟩
      · rename_i h5
        rw [if_neg h5] at q
        refine ⟨?_, .str _, H, I.tok _, ⟨_, rfl⟩, q⟩
        show (List.foldl (fun x1 x2 => x1 ++ x2) #[] (List.replicate k.toNat a.cps)).size ≤ sizeLine
        rw [rep_size]
        have hz : k.toNat * a.cps.size ≤ k.toNat * 1 := Nat.mul_le_mul_left _ h3
        have : (1000000 : Nat) ≤ sizeLine := by decide
        simp only [Array.size_empty]
        omega
abbrev dMulS : DE2
  | .d (.str a), .d (.int k), Q => (0 ≤ k ∧ k ≤ 1000000 ∧ a.length ≤ 1) ∧ Q (.fz (.str (repS a k)))
  | _, _, _ => False
theorem c_mulS {K : PySem.W.Frag} : Conn K rMulS dMulS := by
  intro B Hf ρ σ H x y a b Q Qd S ra rb q k
  match a, b, q with
  | .d (.str a), .d (.int i), q => exact ⟨a, i, ra.str, rb.int, q.1, k _ _ _ q.2 ⟨Hf, S, .str _⟩⟩
end
end DL
set_option Elab.async false
set_option linter.all false
set_option maxRecDepth 100000
set_option maxHeartbeats 2000000
namespace T08
open PySem PySem.Spec PyProof.Rows L2 DL
abbrev PW : Program := PySem.Challenge.pw_keptwhatever_k08_worlds_judged
abbrev topS (i : Nat) : Stmt := PW.main.body.getD i (.Pass ⟨0, 0, 0, 0⟩)
abbrev s_is_integer : Stmt := topS 6
abbrev N_is_integer : List Str := ["thing"]
abbrev P_is_integer : List Str := ["thing"]
theorem sc_is_integer : FnScope N_is_integer P_is_integer (defScope s_is_integer) := ⟨rfl, rfl, rfl, by decide +kernel, rfl, by decide +kernel, by decide +kernel⟩
theorem bp_is_integer : BindP s_is_integer "is_integer" P_is_integer := ⟨fun _ _ _ _ _ _ us hl => match us, hl with | [_], _ => rfl⟩
abbrev s_is_from : Stmt := topS 7
abbrev N_is_from : List Str := ["low", "thing"]
abbrev P_is_from : List Str := ["low", "thing"]
theorem sc_is_from : FnScope N_is_from P_is_from (defScope s_is_from) := ⟨rfl, rfl, rfl, by decide +kernel, rfl, by decide +kernel, by decide +kernel⟩
theorem bp_is_from : BindP s_is_from "is_from" P_is_from := ⟨fun _ _ _ _ _ _ us hl => match us, hl with | [_, _], _ => rfl⟩
abbrev s_is_between : Stmt := topS 8
abbrev N_is_between : List Str := ["low", "thing", "high"]
abbrev P_is_between : List Str := ["low", "thing", "high"]
theorem sc_is_between : FnScope N_is_between P_is_between (defScope s_is_between) := ⟨rfl, rfl, rfl, by decide +kernel, rfl, by decide +kernel, by decide +kernel⟩
theorem bp_is_between : BindP s_is_between "is_between" P_is_between := ⟨fun _ _ _ _ _ _ us hl => match us, hl with | [_, _, _], _ => rfl⟩
abbrev s_is_index : Stmt := topS 9
abbrev N_is_index : List Str := ["count", "thing"]
abbrev P_is_index : List Str := ["count", "thing"]
theorem sc_is_index : FnScope N_is_index P_is_index (defScope s_is_index) := ⟨rfl, rfl, rfl, by decide +kernel, rfl, by decide +kernel, by decide +kernel⟩
theorem bp_is_index : BindP s_is_index "is_index" P_is_index := ⟨fun _ _ _ _ _ _ us hl => match us, hl with | [_, _], _ => rfl⟩
abbrev s_is_bound : Stmt := topS 10
abbrev N_is_bound : List Str := ["points", "thing"]
abbrev P_is_bound : List Str := ["points", "thing"]
theorem sc_is_bound : FnScope N_is_bound P_is_bound (defScope s_is_bound) := ⟨rfl, rfl, rfl, by decide +kernel, rfl, by decide +kernel, by decide +kernel⟩
theorem bp_is_bound : BindP s_is_bound "is_bound" P_is_bound := ⟨fun _ _ _ _ _ _ us hl => match us, hl with | [_, _], _ => rfl⟩
abbrev s_is_system_form : Stmt := topS 11
abbrev N_is_system_form : List Str := ["value", "bound"]
abbrev P_is_system_form : List Str := ["value"]
theorem sc_is_system_form : FnScope N_is_system_form P_is_system_form (defScope s_is_system_form) := ⟨rfl, rfl, rfl, by decide +kernel, rfl, by decide +kernel, by decide +kernel⟩
theorem bp_is_system_form : BindP s_is_system_form "is_system_form" P_is_system_form := ⟨fun _ _ _ _ _ _ us hl => match us, hl with | [_], _ => rfl⟩
abbrev s_has_moments : Stmt := topS 12
abbrev N_has_moments : List Str := ["system", "thing", "part"]
abbrev P_has_moments : List Str := ["system", "thing"]
theorem sc_has_moments : FnScope N_has_moments P_has_moments (defScope s_has_moments) := ⟨rfl, rfl, rfl, by decide +kernel, rfl, by decide +kernel, by decide +kernel⟩
theorem bp_has_moments : BindP s_has_moments "has_moments" P_has_moments := ⟨fun _ _ _ _ _ _ us hl => match us, hl with | [_, _], _ => rfl⟩
abbrev s_keeps_bound : Stmt := topS 13
abbrev N_keeps_bound : List Str := ["moments", "bound", "i", "j", "most"]
abbrev P_keeps_bound : List Str := ["moments", "bound"]
theorem sc_keeps_bound : FnScope N_keeps_bound P_keeps_bound (defScope s_keeps_bound) := ⟨rfl, rfl, rfl, by decide +kernel, rfl, by decide +kernel, by decide +kernel⟩
theorem bp_keeps_bound : BindP s_keeps_bound "keeps_bound" P_keeps_bound := ⟨fun _ _ _ _ _ _ us hl => match us, hl with | [_, _], _ => rfl⟩
abbrev s_is_world_of : Stmt := topS 14
abbrev N_is_world_of : List Str := ["system", "value", "bound"]
abbrev P_is_world_of : List Str := ["system", "value"]
theorem sc_is_world_of : FnScope N_is_world_of P_is_world_of (defScope s_is_world_of) := ⟨rfl, rfl, rfl, by decide +kernel, rfl, by decide +kernel, by decide +kernel⟩
theorem bp_is_world_of : BindP s_is_world_of "is_world_of" P_is_world_of := ⟨fun _ _ _ _ _ _ us hl => match us, hl with | [_, _], _ => rfl⟩
abbrev s_check_system : Stmt := topS 15
abbrev N_check_system : List Str := ["thing"]
abbrev P_check_system : List Str := ["thing"]
theorem sc_check_system : FnScope N_check_system P_check_system (defScope s_check_system) := ⟨rfl, rfl, rfl, by decide +kernel, rfl, by decide +kernel, by decide +kernel⟩
theorem bp_check_system : BindP s_check_system "check_system" P_check_system := ⟨fun _ _ _ _ _ _ us hl => match us, hl with | [_], _ => rfl⟩
abbrev s_check_wish : Stmt := topS 16
abbrev N_check_wish : List Str := ["system", "thing"]
abbrev P_check_wish : List Str := ["system", "thing"]
theorem sc_check_wish : FnScope N_check_wish P_check_wish (defScope s_check_wish) := ⟨rfl, rfl, rfl, by decide +kernel, rfl, by decide +kernel, by decide +kernel⟩
theorem bp_check_wish : BindP s_check_wish "check_wish" P_check_wish := ⟨fun _ _ _ _ _ _ us hl => match us, hl with | [_, _], _ => rfl⟩
abbrev s_is_world : Stmt := topS 18
abbrev N_is_world : List Str := ["system", "value"]
abbrev P_is_world : List Str := ["system", "value"]
theorem sc_is_world : FnScope N_is_world P_is_world (defScope s_is_world) := ⟨rfl, rfl, rfl, by decide +kernel, rfl, by decide +kernel, by decide +kernel⟩
theorem bp_is_world : BindP s_is_world "is_world" P_is_world := ⟨fun _ _ _ _ _ _ us hl => match us, hl with | [_, _], _ => rfl⟩
abbrev s_first_broken : Stmt := topS 19
abbrev N_first_broken : List Str := ["system", "moments", "index", "bound"]
abbrev P_first_broken : List Str := ["system", "moments"]
theorem sc_first_broken : FnScope N_first_broken P_first_broken (defScope s_first_broken) := ⟨rfl, rfl, rfl, by decide +kernel, rfl, by decide +kernel, by decide +kernel⟩
theorem bp_first_broken : BindP s_first_broken "first_broken" P_first_broken := ⟨fun _ _ _ _ _ _ us hl => match us, hl with | [_, _], _ => rfl⟩
abbrev s__law_urn : Stmt := topS 21
abbrev N__law_urn : List Str := ["script", "k", "cell"]
abbrev P__law_urn : List Str := ["script", "k"]
theorem sc__law_urn : FnScope N__law_urn P__law_urn (defScope s__law_urn) := ⟨rfl, rfl, rfl, by decide +kernel, rfl, by decide +kernel, by decide +kernel⟩
theorem bp__law_urn : BindP s__law_urn "_law_urn" P__law_urn := ⟨fun _ _ _ _ _ _ us hl => match us, hl with | [_, _], _ => rfl⟩
abbrev s__law_pick : Stmt := topS 22
abbrev N__law_pick : List Str := ["urn", "many", "mixed", "found"]
abbrev P__law_pick : List Str := ["urn", "many"]
theorem sc__law_pick : FnScope N__law_pick P__law_pick (defScope s__law_pick) := ⟨rfl, rfl, rfl, by decide +kernel, rfl, by decide +kernel, by decide +kernel⟩
theorem bp__law_pick : BindP s__law_pick "_law_pick" P__law_pick := ⟨fun _ _ _ _ _ _ us hl => match us, hl with | [_, _], _ => rfl⟩
abbrev s__law_reach : Stmt := topS 23
abbrev N__law_reach : List Str := ["urn", "size", "found"]
abbrev P__law_reach : List Str := ["urn"]
theorem sc__law_reach : FnScope N__law_reach P__law_reach (defScope s__law_reach) := ⟨rfl, rfl, rfl, by decide +kernel, rfl, by decide +kernel, by decide +kernel⟩
theorem bp__law_reach : BindP s__law_reach "_law_reach" P__law_reach := ⟨fun _ _ _ _ _ _ us hl => match us, hl with | [_], _ => rfl⟩
abbrev s__law_frame : Stmt := topS 24
abbrev N__law_frame : List Str := ["urn", "points", "many", "moments", "rows", "k", "i", "j", "slack_here", "point"]
abbrev P__law_frame : List Str := ["urn", "points", "many"]
theorem sc__law_frame : FnScope N__law_frame P__law_frame (defScope s__law_frame) := ⟨rfl, rfl, rfl, by decide +kernel, rfl, by decide +kernel, by decide +kernel⟩
theorem bp__law_frame : BindP s__law_frame "_law_frame" P__law_frame := ⟨fun _ _ _ _ _ _ us hl => match us, hl with | [_, _, _], _ => rfl⟩
abbrev s__law_whole : Stmt := topS 25
abbrev N__law_whole : List Str := ["thing"]
abbrev P__law_whole : List Str := ["thing"]
theorem sc__law_whole : FnScope N__law_whole P__law_whole (defScope s__law_whole) := ⟨rfl, rfl, rfl, by decide +kernel, rfl, by decide +kernel, by decide +kernel⟩
theorem bp__law_whole : BindP s__law_whole "_law_whole" P__law_whole := ⟨fun _ _ _ _ _ _ us hl => match us, hl with | [_], _ => rfl⟩
abbrev s__law_moments : Stmt := topS 26
abbrev N__law_moments : List Str := ["frame", "thing", "moment"]
abbrev P__law_moments : List Str := ["frame", "thing"]
theorem sc__law_moments : FnScope N__law_moments P__law_moments (defScope s__law_moments) := ⟨rfl, rfl, rfl, by decide +kernel, rfl, by decide +kernel, by decide +kernel⟩
theorem bp__law_moments : BindP s__law_moments "_law_moments" P__law_moments := ⟨fun _ _ _ _ _ _ us hl => match us, hl with | [_, _], _ => rfl⟩
abbrev s__law_says : Stmt := topS 27
abbrev N__law_says : List Str := ["found", "due"]
abbrev P__law_says : List Str := ["found", "due"]
theorem sc__law_says : FnScope N__law_says P__law_says (defScope s__law_says) := ⟨rfl, rfl, rfl, by decide +kernel, rfl, by decide +kernel, by decide +kernel⟩
theorem bp__law_says : BindP s__law_says "_law_says" P__law_says := ⟨fun _ _ _ _ _ _ us hl => match us, hl with | [_, _], _ => rfl⟩
abbrev s__law_broken : Stmt := topS 28
abbrev N__law_broken : List Str := ["frame", "moments", "k", "i", "j", "most"]
abbrev P__law_broken : List Str := ["frame", "moments"]
theorem sc__law_broken : FnScope N__law_broken P__law_broken (defScope s__law_broken) := ⟨rfl, rfl, rfl, by decide +kernel, rfl, by decide +kernel, by decide +kernel⟩
theorem bp__law_broken : BindP s__law_broken "_law_broken" P__law_broken := ⟨fun _ _ _ _ _ _ us hl => match us, hl with | [_, _], _ => rfl⟩
abbrev s__law_near : Stmt := topS 29
abbrev N__law_near : List Str := ["urn", "frame", "moments", "found", "k", "at"]
abbrev P__law_near : List Str := ["urn", "frame", "moments"]
theorem sc__law_near : FnScope N__law_near P__law_near (defScope s__law_near) := ⟨rfl, rfl, rfl, by decide +kernel, rfl, by decide +kernel, by decide +kernel⟩
theorem bp__law_near : BindP s__law_near "_law_near" P__law_near := ⟨fun _ _ _ _ _ _ us hl => match us, hl with | [_, _, _], _ => rfl⟩
abbrev s__law_odd : Stmt := topS 30
abbrev N__law_odd : List Str := ["urn", "moments", "at", "odd", "kind", "some"]
abbrev P__law_odd : List Str := ["urn", "moments"]
theorem sc__law_odd : FnScope N__law_odd P__law_odd (defScope s__law_odd) := ⟨rfl, rfl, rfl, by decide +kernel, rfl, by decide +kernel, by decide +kernel⟩
theorem bp__law_odd : BindP s__law_odd "_law_odd" P__law_odd := ⟨fun _ _ _ _ _ _ us hl => match us, hl with | [_, _], _ => rfl⟩
abbrev s__law_right : Stmt := topS 31
abbrev N__law_right : List Str := ["urn", "wide", "turn", "barred", "frame", "moments", "thing", "due", "found"]
abbrev P__law_right : List Str := ["urn"]
theorem sc__law_right : FnScope N__law_right P__law_right (defScope s__law_right) := ⟨rfl, rfl, rfl, by decide +kernel, rfl, by decide +kernel, by decide +kernel⟩
theorem bp__law_right : BindP s__law_right "_law_right" P__law_right := ⟨fun _ _ _ _ _ _ us hl => match us, hl with | [_], _ => rfl⟩
abbrev s_law : Stmt := topS 32
abbrev N_law : List Str := ["script", "k"]
abbrev P_law : List Str := ["script"]
theorem sc_law : FnScope N_law P_law (defScope s_law) := ⟨rfl, rfl, rfl, by decide +kernel, rfl, by decide +kernel, by decide +kernel⟩
theorem bp_law : BindP s_law "law" P_law := ⟨fun _ _ _ _ _ _ us hl => match us, hl with | [_], _ => rfl⟩
theorem bk_first_broken_1_0 : BindK s_first_broken "first_broken" P_first_broken ["moments", "system"] [1, 0] := ⟨fun _ _ _ _ _ _ us hl => match us, hl with | [_, _], _ => rfl⟩
theorem bk_is_world_1_0 : BindK s_is_world "is_world" P_is_world ["value", "system"] [1, 0] := ⟨fun _ _ _ _ _ _ us hl => match us, hl with | [_, _], _ => rfl⟩
/-- what is asked of the text beyond its defs -/
structure Tx (K : PySem.W.Frag) (mg : Str → Option Value) (cl : Nat → Addr) : Prop where
  b_abs : mg "abs" = none
  b_all : mg "all" = none
  b_bool : mg "bool" = none
  b_enumerate : mg "enumerate" = none
  b_int : mg "int" = none
  b_isinstance : mg "isinstance" = none
  b_len : mg "len" = none
  b_list : mg "list" = none
  b_max : mg "max" = none
  b_min : mg "min" = none
  b_range : mg "range" = none
  b_tuple : mg "tuple" = none
  ne_2_1 : cl 2 ≠ cl 1
  ne_3_1 : cl 3 ≠ cl 1
  ne_3_2 : cl 3 ≠ cl 2
  x_EndlessWorlds : ExT K mg "EndlessWorlds" (cl 3)
  x_InvalidSystem : ExT K mg "InvalidSystem" (cl 1)
  x_InvalidWorld : ExT K mg "InvalidWorld" (cl 2)
  xn_bool : ∀ C ∈ [cl 3], ExcNo K C "bool"
  xn_int : ∀ C ∈ [cl 3], ExcNo K C "int"
  xn_tuple : ∀ C ∈ [cl 3], ExcNo K C "tuple"

theorem xT {c : Bool} {A B : Prop} (h : c = true) (a : A) : if c = true then A else B := by rw [if_pos h]; exact a
theorem xF {c : Bool} {A B : Prop} (h : c = false) (b : B) : if c = true then A else B := by rw [h, if_neg Bool.false_ne_true]; exact b
theorem xB {c : Bool} {A B : Prop} (a : c = true → A) (b : c = false → B) : if c = true then A else B := by
  cases h : c with
  | true => rw [if_pos rfl]; exact a h
  | false => rw [if_neg Bool.false_ne_true]; exact b h
theorem natAbs_lt_pow {i : Int} {n : Nat} (h1 : -((2 ^ n : Nat) : Int) < i) (h2 : i < ((2 ^ n : Nat) : Int)) : i.natAbs < 2 ^ n := by omega
theorem mulw {i j : Int} (h1 : -(10 ^ 60) < i) (h2 : i < 10 ^ 60) (h3 : -(10 ^ 60) < j) (h4 : j < 10 ^ 60) : CMulW i j :=
  wide_mul (a := 200) (b := 200) (natAbs_lt_pow (Int.lt_trans (by decide) h1) (Int.lt_trans h2 (by decide))) (natAbs_lt_pow (Int.lt_trans (by decide) h3) (Int.lt_trans h4 (by decide))) (by decide) (by decide) (by decide)
theorem divw {i j : Int} (h1 : 0 < j) (h2 : j < 10 ^ 60) : CDivW i j :=
  wide_div (b := 200) h1 (natAbs_lt_pow (by omega) (Int.lt_trans h2 (by decide))) (by decide) (by decide)
theorem divp {i j : Int} (h1 : 0 < j) (h2 : -(10 ^ 60) < i) (h3 : i < 10 ^ 60) : CDivP i j := divp_small h1 (Nat.lt_trans (natAbs_lt_pow (n := 200) (Int.lt_trans (by decide) h2) (Int.lt_trans h3 (by decide))) (Nat.pow_lt_pow_right (by decide) (by decide)))
theorem poww {i j : Int} (h0 : 0 ≤ j) (h1 : j ≤ 100) (h2 : -(10 ^ 60) < i) (h3 : i < 10 ^ 60) : CPowW i j := by
  refine ⟨h0, ?_⟩
  have b : Builtin.Int.intBits i ≤ 200 := PyProof.Rows.intBits_le (natAbs_lt_pow (n := 200) (Int.lt_trans (by decide) h2) (Int.lt_trans h3 (by decide)))
  have : (Builtin.Int.intBits i : Int) * j ≤ 200 * 100 := Int.mul_le_mul (by omega) h1 h0 (by omega)
  exact Int.le_trans this (by decide)
theorem modpos (a : Int) {b : Int} (h : 0 < b) : 0 ≤ a % b ∧ a % b < b := ⟨Int.emod_nonneg a (by omega), Int.emod_lt_of_pos a h⟩
theorem atI_ex {α : Type} {xs : List α} {i : Int} (h0 : 0 ≤ i) (h1 : i < xs.length) : ∃ x, atI xs i = some x ∧ x ∈ xs ∧ xs[i.toNat]? = some x := by
  have hl : i.toNat < xs.length := by omega
  refine ⟨xs[i.toNat], ?_, List.getElem_mem hl, List.getElem?_eq_getElem hl⟩
  unfold atI ixN
  rw [if_pos h0, if_pos h1]
  show xs[i.toNat]? = _
  exact List.getElem?_eq_getElem hl
theorem dT {p : Prop} [Decidable p] (h : decide p = true) : p := of_decide_eq_true h
theorem dF {p : Prop} [Decidable p] (h : decide p = false) : ¬ p := of_decide_eq_false h
theorem eqv_int (a b : Int) : PyData.eqv (.int a) (.int b) = decide (a = b) := by
  show (a == b) = _
  by_cases h : a = b
  · subst h; simp
  · simp [h]
theorem xBeq {a b : Int} {A B : Prop} (h1 : a = b → A) (h2 : a ≠ b → B) : if (false ^^ PyData.eqv (.int a) (.int b)) = true then A else B := by
  rw [eqv_int, Bool.false_xor]
  by_cases h : a = b
  · rw [if_pos (decide_eq_true h)]; exact h1 h
  · rw [decide_eq_false h, if_neg Bool.false_ne_true]; exact h2 h
theorem xBne {a b : Int} {A B : Prop} (h1 : a ≠ b → A) (h2 : a = b → B) : if (true ^^ PyData.eqv (.int a) (.int b)) = true then A else B := by
  rw [eqv_int, Bool.true_xor]
  by_cases h : a = b
  · rw [decide_eq_true h, Bool.not_true, if_neg Bool.false_ne_true]; exact h2 h
  · rw [decide_eq_false h, Bool.not_false, if_pos rfl]; exact h1 h
theorem xBd {p : Prop} [Decidable p] {A B : Prop} (h1 : p → A) (h2 : ¬ p → B) : if decide p = true then A else B := by
  by_cases h : p
  · rw [if_pos (decide_eq_true h)]; exact h1 h
  · rw [decide_eq_false h, if_neg Bool.false_ne_true]; exact h2 h
theorem xNB {c : Bool} {A B : Prop} (a : c = false → A) (b : c = true → B) : if (!c) = true then A else B := by
  cases h : c with
  | false => rw [Bool.not_false, if_pos rfl]; exact a h
  | true => rw [Bool.not_true, if_neg Bool.false_ne_true]; exact b h
theorem pbd_false {X : Cx} {W : WX} {b : List Stmt} : PBD X W b (fun _ _ => False) := ⟨fun _ _ _ => False, ⟨fun _ _ _ _ _ _ h => h.elim⟩, fun _ _ _ _ _ _ _ _ _ h => h.elim⟩
theorem sh_nil : SeqAt.shaped (.list []) = true := by decide
theorem xNd {p : Prop} [Decidable p] {A B : Prop} (h1 : ¬ p → A) (h2 : p → B) : if (!decide p) = true then A else B := by
  by_cases h : p
  · rw [decide_eq_true h, Bool.not_true, if_neg Bool.false_ne_true]; exact h2 h
  · rw [decide_eq_false h, Bool.not_false, if_pos rfl]; exact h1 h
theorem szl : (2000000 : Nat) ≤ sizeLine := by decide
theorem xE {α : Type} {P : α → Prop} {o : Option α} {x : α} (h : o = some x) (k : P x) : ∃ d, o = some d ∧ P d := ⟨x, h, k⟩
theorem take_succ_of {α : Type} : ∀ {l : List α} {i : Nat} {d : α}, l[i]? = some d → l.take (i + 1) = l.take i ++ [d]
  | [], _, _, h => by simp at h
  | a :: l, 0, d, h => by simp at h; subst h; rfl
  | a :: l, i + 1, d, h => by
    show a :: l.take (i + 1) = a :: (l.take i ++ [d])
    rw [take_succ_of (l := l) (by simpa using h)]
theorem drop_of {α : Type} : ∀ {l : List α} {i : Nat} {d : α}, l[i]? = some d → l.drop i = d :: l.drop (i + 1)
  | [], _, _, h => by simp at h
  | a :: l, 0, d, h => by simp at h; subst h; rfl
  | a :: l, i + 1, d, h => by
    show l.drop i = d :: l.drop (i + 1)
    exact drop_of (by simpa using h)
/-- the first place that fails -/
def brkF {α : Type} (p : α → Bool) : List α → Nat → D
  | [], _ => .none
  | b :: bs, k => if p b then brkF p bs (k + 1) else .int (k : Nat)
theorem brk_drop {α : Type} {p : α → Bool} {l : List α} {i : Nat} {d : α} (h : l[i]? = some d) : brkF p (l.drop i) i = if p d then brkF p (l.drop (i + 1)) (i + 1) else .int (i : Nat) := by
  rw [drop_of h]; rfl
theorem brk_none {α : Type} {p : α → Bool} : ∀ (l : List α) (k : Nat), (∃ j : Nat, brkF p l k = .int (j : Nat)) ∨ brkF p l k = .none
  | [], _ => .inr rfl
  | b :: bs, k => by
    unfold brkF
    split
    · exact brk_none bs (k + 1)
    · exact .inl ⟨k, rfl⟩
theorem brk_all {α : Type} {p : α → Bool} : ∀ (l : List α) (k : Nat), isNoneD (brkF p l k) = l.all p
  | [], _ => rfl
  | b :: bs, k => by
    unfold brkF
    rw [List.all_cons]
    cases hb : p b with
    | true => rw [if_pos rfl, brk_all bs (k + 1), Bool.true_and]
    | false => rw [if_neg Bool.false_ne_true, Bool.false_and]
theorem brk_app {α : Type} {p : α → Bool} : ∀ (l m : List α) (k : Nat), l.all p = true → brkF p (l ++ m) k = brkF p m (k + l.length)
  | [], m, k, _ => rfl
  | b :: bs, m, k, h => by
    rw [List.all_cons, Bool.and_eq_true] at h
    show (if p b then brkF p (bs ++ m) (k + 1) else .int (k : Nat)) = _
    rw [if_pos h.1, brk_app bs m (k + 1) h.2]
    congr 1
    show k + 1 + bs.length = k + (bs.length + 1)
    omega
theorem sh_int (i : Int) : SeqAt.shaped (.int i) = true := by simp [SeqAt.shaped, PyData.canLay0, PyData.depth]
theorem sh_bool (i : Bool) : SeqAt.shaped (.bool i) = true := by simp [SeqAt.shaped, PyData.canLay0, PyData.depth]
theorem sh_none : SeqAt.shaped .none = true := by decide
/-! systems and worlds as data -/
def isIntg : D → Bool
  | .int _ => true
  | _ => false
abbrev Bd := Int × Int × Int
abbrev bD (b : Bd) : D := .tuple [.int b.1, .int b.2.1, .int b.2.2]
abbrev bsD (bs : List Bd) : D := .tuple (bs.map bD)
abbrev sysD (n : Int) (bs : List Bd) : D := .tuple [.int n, bsD bs]
def okB (n : Int) (b : Bd) : Prop := 0 ≤ b.1 ∧ b.1 < n ∧ 0 ≤ b.2.1 ∧ b.2.1 < n ∧ b.1 ≠ b.2.1
def okS (n : Int) (bs : List Bd) : Prop := 1 ≤ n ∧ n ≤ 1000 ∧ bs.length ≤ 1000 ∧ ∀ b ∈ bs, okB n b
/-- moments, as they may come -/
def hasM (n : Int) : D → Bool
  | .tuple ds => decide ((ds.length : Int) = n) && ds.all isIntg && (match ds with | .int i :: _ => decide (i = 0) | _ => false)
  | _ => false
def okT (cls : List Addr) (d : D) : Prop := exOk cls d ∧ ∀ ds, d = .tuple ds → (∀ e ∈ ds, ∀ k, e ≠ .dict k) ∧ SeqAt.shaped (.list (ds.filter fun d => !isIntg d)) = true
abbrev msD (ms : List Int) : D := .tuple (ms.map .int)
def mAt (ms : List Int) (i : Int) : Int := ms.getD i.toNat 0
def keepB (ms : List Int) (b : Bd) : Bool := decide (mAt ms b.1 - mAt ms b.2.1 ≤ b.2.2)
theorem ints_all {ds : List D} (h : ds.all isIntg = true) : ∃ ms : List Int, ds = ms.map .int := by
  induction ds with
  | nil => exact ⟨[], rfl⟩
  | cons d ds ih =>
    rw [List.all_cons, Bool.and_eq_true] at h
    obtain ⟨ms, rfl⟩ := ih h.2
    cases d with
    | int i => exact ⟨i :: ms, rfl⟩
    | _ => exact absurd h.1 (by simp [isIntg])
theorem all_ints (ms : List Int) : (ms.map PyData.int).all isIntg = true := by
  induction ms with
  | nil => rfl
  | cons m ms ih => rw [List.map_cons, List.all_cons, ih]; rfl
theorem hasM_iff {n : Int} (hn : 1 ≤ n) {d : D} : hasM n d = true ↔ ∃ ms : List Int, d = msD (0 :: ms) ∧ (ms.length : Int) + 1 = n := by
  constructor
  · intro h
    cases d with
    | tuple ds =>
      simp only [hasM, Bool.and_eq_true, decide_eq_true_eq] at h
      obtain ⟨⟨h1, h2⟩, h3⟩ := h
      obtain ⟨ms, rfl⟩ := ints_all h2
      cases ms with
      | nil => exfalso; simp at h1 <;> omega
      | cons m ms =>
        have h3 : decide (m = 0) = true := h3
        have : m = 0 := of_decide_eq_true h3
        subst this
        exact ⟨ms, rfl, by simpa using h1⟩
    | _ => cases h
  · rintro ⟨ms, rfl, h⟩
    simp only [hasM, Bool.and_eq_true, decide_eq_true_eq]
    exact ⟨⟨by simpa using h, all_ints _⟩, rfl⟩
theorem at_ms {ms : List Int} {i : Int} (h0 : 0 ≤ i) (h1 : i < ms.length) : atI (ms.map PyData.int) i = some (.int (mAt ms i)) := by
  obtain ⟨x, e1, _, e2⟩ := atI_ex (xs := ms.map PyData.int) h0 (by simpa using h1)
  rw [e1]
  rw [List.getElem?_map] at e2
  cases hm : ms[i.toNat]? with
  | none => rw [hm] at e2; cases e2
  | some m =>
    rw [hm] at e2
    cases e2
    unfold mAt
    simp [List.getD, hm]
theorem bD_inj {b b' : Bd} (h : bD b = bD b') : b = b' := by
  obtain ⟨x, y, z⟩ := b
  obtain ⟨x', y', z'⟩ := b'
  simpa using h
theorem map_inj {α : Type} {f : α → D} (hf : ∀ a b, f a = f b → a = b) : ∀ {l m : List α}, l.map f = m.map f → l = m
  | [], [], _ => rfl
  | [], _ :: _, h => by simp at h
  | _ :: _, [], h => by simp at h
  | a :: l, b :: m, h => by
    rw [List.map_cons, List.map_cons, List.cons.injEq] at h
    rw [hf _ _ h.1, map_inj hf h.2]
theorem msD_inj {ms ms' : List Int} (h : msD ms = msD ms') : ms = ms' := by
  injection h with h
  exact map_inj (fun a b h => by injection h) h
theorem sysD_inj {n n' : Int} {bs bs' : List Bd} (h : sysD n bs = sysD n' bs') : n = n' ∧ bs = bs' := by
  injection h with h
  injection h with h1 h2
  injection h1 with h1
  injection h2 with h2 _
  injection h2 with h2
  exact ⟨h1, map_inj (fun a b h => bD_inj h) h2⟩
theorem fz1 {a c : D} (h : [Sl.fz a] = [Sl.fz c]) : a = c := by injection h with h _; injection h
theorem fz2 {a b c d : D} (h : [Sl.fz a, Sl.fz b] = [Sl.fz c, Sl.fz d]) : a = c ∧ b = d := by
  injection h with h1 h2
  injection h1 with h1
  exact ⟨h1, fz1 h2⟩
theorem filt_nil {ds : List D} : (ds.filter fun d => !isIntg d) = [] ↔ ds.all isIntg = true := by
  induction ds with
  | nil => simp
  | cons d ds ih =>
    rw [List.filter_cons, List.all_cons]
    cases h : isIntg d with
    | true => simpa using ih
    | false => simp
theorem eqv_nil (l : List D) : PyData.eqv (.list l) (.list []) = l.isEmpty := by cases l <;> rfl
def sp_is_integer (cl : Nat → Addr) : Spc := ⟨fun as => ∃ d, as = [.fz d] ∧ exOk [cl 3] d, fun as r as' => ∀ d, as = [.fz d] → as' = as ∧ r = .fz (.bool (isIntg d)), fun _ _ _ => False⟩
def t_is_integer (cl : Nat → Addr) : DS :=
  (sRet (eAnd (eIsX [cl 3] isInt (eVar 0)) (eNot (eIsX [cl 3] isBool (eVar 0)))))
def sp_is_from (cl : Nat → Addr) : Spc := ⟨fun as => ∃ l i, as = [.fz (.int l), .fz (.int i)], fun as r as' => ∀ l i, as = [.fz (.int l), .fz (.int i)] → as' = as ∧ r = .fz (.bool (decide (l ≤ i))), fun _ _ _ => False⟩
def t_is_from (cl : Nat → Addr) : DS :=
  (sRet (eAnd (eCall (sp_is_integer cl).fs (cFz (eVar 1) cNil)) (eOp dGe (eVar 1) (eVar 0))))
def sp_is_between (cl : Nat → Addr) : Spc := ⟨fun as => ∃ l i h, as = [.fz (.int l), .fz (.int i), .fz (.int h)], fun as r as' => ∀ l i h, as = [.fz (.int l), .fz (.int i), .fz (.int h)] → as' = as ∧ r = .fz (.bool (decide (l ≤ i ∧ i ≤ h))), fun _ _ _ => False⟩
def t_is_between (cl : Nat → Addr) : DS :=
  (sRet (eAnd (eCall (sp_is_integer cl).fs (cFz (eVar 1) cNil)) (eChain dLe dLe (eVar 0) (eVar 1) (eVar 2))))
def sp_is_index (cl : Nat → Addr) : Spc := ⟨fun as => ∃ n i, as = [.fz (.int n), .fz (.int i)], fun as r as' => ∀ n i, as = [.fz (.int n), .fz (.int i)] → as' = as ∧ r = .fz (.bool (decide (0 ≤ i ∧ i ≤ n - 1))), fun _ _ _ => False⟩
def t_is_index (cl : Nat → Addr) : DS :=
  (sRet (eCall (sp_is_between cl).fs (cFz (eC (.int 0)) (cFz (eVar 1) (cFz (eOp dSub (eVar 0) (eC (.int 1))) cNil)))))
def sp_is_bound (cl : Nat → Addr) : Spc := ⟨fun as => ∃ n b, as = [.fz (.int n), .fz (bD b)] ∧ okB n b, fun as r as' => ∀ n b, as = [.fz (.int n), .fz (bD b)] → as' = as ∧ r = .fz (.bool true), fun _ _ _ => False⟩
def t_is_bound (cl : Nat → Addr) : DS :=
  (sSeq (sIf (dOr (dNot (dB (eIsX [cl 3] isTuple (eVar 1)))) (dOr (dB (eOp (dEq true) (eCB dLen (aCons (eVar 1) aNil)) (eC (.int 3)))) (dNot (dB (eCall (sp_is_integer cl).fs (cFz (eOp dIx (eVar 1) (eC (.int 2))) cNil)))))) (sRet (eC (.bool false))) sNext)
  (sRet (eAnd (eCall (sp_is_index cl).fs (cFz (eVar 0) (cFz (eOp dIx (eVar 1) (eC (.int 0))) cNil))) (eAnd (eCall (sp_is_index cl).fs (cFz (eVar 0) (cFz (eOp dIx (eVar 1) (eC (.int 1))) cNil))) (eOp (dEq true) (eOp dIx (eVar 1) (eC (.int 0))) (eOp dIx (eVar 1) (eC (.int 1))))))))
def sp_is_system_form (cl : Nat → Addr) : Spc := ⟨fun as => ∃ n bs, as = [.fz (sysD n bs)] ∧ okS n bs, fun as r as' => as' = as ∧ r = .fz (.bool true), fun _ _ _ => False⟩
def t_is_system_form (cl : Nat → Addr) : DS :=
  (sSeq (sIf (dOr (dNot (dB (eIsX [cl 3] isTuple (eVar 0)))) (dOr (dB (eOp (dEq true) (eCB dLen (aCons (eVar 0) aNil)) (eC (.int 2)))) (dOr (dNot (dB (eCall (sp_is_from cl).fs (cFz (eC (.int 1)) (cFz (eOp dIx (eVar 0) (eC (.int 0))) cNil))))) (dNot (dB (eIsX [cl 3] isTuple (eOp dIx (eVar 0) (eC (.int 1))))))))) (sRet (eC (.bool false))) sNext)
  (sRet (eCB dAll (aCons (eLc (iSeq (eOp dIx (eVar 0) (eC (.int 1)))) (gN 1) dYes (eCall (sp_is_bound cl).fs (cFz (eOp dIx (eVar 0) (eC (.int 0))) (cFz (eVar 1) cNil))) [1]) aNil))))
def sp_has_moments (cl : Nat → Addr) : Spc := ⟨fun as => ∃ n bs d, as = [.fz (sysD n bs), .fz d] ∧ okS n bs ∧ okT [cl 3] d, fun as r as' => as' = as ∧ ∀ n bs d, as = [.fz (sysD n bs), .fz d] → r = .fz (.bool (hasM n d)), fun _ _ _ => False⟩
def t_has_moments (cl : Nat → Addr) : DS :=
  (sSeq (sIf (dOr (dNot (dB (eIsX [cl 3] isTuple (eVar 1)))) (dOr (dB (eOp (dEq true) (eCB dLen (aCons (eVar 1) aNil)) (eOp dIx (eVar 0) (eC (.int 0))))) (dNot (dB (eCB dAll (aCons (eLc (iSeq (eVar 1)) (gN 2) dYes (eCall (sp_is_integer cl).fs (cFz (eVar 2) cNil)) [2]) aNil)))))) (sRet (eC (.bool false))) sNext)
  (sRet (eOp (dEq false) (eOp dIx (eVar 1) (eC (.int 0))) (eC (.int 0)))))
def sp_keeps_bound (cl : Nat → Addr) : Spc := ⟨fun as => ∃ ms n b, as = [.fz (msD ms), .fz (bD b)] ∧ okB n b ∧ (ms.length : Int) = n, fun as r as' => as' = as ∧ ∀ ms b, as = [.fz (msD ms), .fz (bD b)] → r = .fz (.bool (keepB ms b)), fun _ _ _ => False⟩
def t_keeps_bound (cl : Nat → Addr) : DS :=
  (sSeq (sAsg (eVar 1) (gT (gsCons (gN 2) (gsCons (gN 3) (gsCons (gN 4) gsNil)))))
  (sRet (eOp dLe (eOp dSub (eOp dIx (eVar 0) (eVar 2)) (eOp dIx (eVar 0) (eVar 3))) (eVar 4))))
/-- is it a world? -/
def isW (n : Int) (bs : List Bd) (d : D) : Bool := hasM n d && (match d with | .tuple ds => (match intsOf ds with | some ms => bs.all (keepB ms) | none => false) | _ => false)
def sp_is_world_of (cl : Nat → Addr) : Spc := ⟨fun as => ∃ n bs d, as = [.fz (sysD n bs), .fz d] ∧ okS n bs ∧ okT [cl 3] d, fun as r as' => as' = as ∧ ∀ n bs d, as = [.fz (sysD n bs), .fz d] → r = .fz (.bool (isW n bs d)), fun _ _ _ => False⟩
def t_is_world_of (cl : Nat → Addr) : DS :=
  (sRet (eAnd (eCall (sp_has_moments cl).fs (cFz (eVar 0) (cFz (eVar 1) cNil))) (eCB dAll (aCons (eLc (iSeq (eOp dIx (eVar 0) (eC (.int 1)))) (gN 2) dYes (eCall (sp_keeps_bound cl).fs (cFz (eVar 1) (cFz (eVar 2) cNil))) [2]) aNil))))
def sp_check_system (cl : Nat → Addr) : Spc := ⟨fun as => ∃ n bs, as = [.fz (sysD n bs)] ∧ okS n bs, fun as r as' => as' = as ∧ r = .fz .none, fun _ _ _ => False⟩
def t_check_system (cl : Nat → Addr) : DS :=
  (sIf (dNot (dB (eCall (sp_is_system_form cl).fs (cFz (eVar 0) cNil)))) (sRaise (cl 1)) sNext)
def sp_check_wish (cl : Nat → Addr) : Spc := ⟨fun as => ∃ n bs ms, as = [.fz (sysD n bs), .fz (msD (0 :: ms))] ∧ okS n bs ∧ (ms.length : Int) + 1 = n, fun as r as' => as' = as ∧ r = .fz .none, fun _ _ _ => False⟩
def t_check_wish (cl : Nat → Addr) : DS :=
  (sIf (dNot (dB (eCall (sp_has_moments cl).fs (cFz (eVar 0) (cFz (eVar 1) cNil))))) (sRaise (cl 2)) sNext)
def sp_is_world (cl : Nat → Addr) : Spc := sp_is_world_of cl
def t_is_world (cl : Nat → Addr) : DS :=
  (sSeq (sDrop (eCall (sp_check_system cl).fs (cFz (eVar 0) cNil)))
  (sRet (eCall (sp_is_world_of cl).fs (cFz (eVar 0) (cFz (eVar 1) cNil)))))
def sp_first_broken (cl : Nat → Addr) : Spc := ⟨fun as => ∃ n bs ms, as = [.fz (sysD n bs), .fz (msD (0 :: ms))] ∧ okS n bs ∧ (ms.length : Int) + 1 = n, fun as r as' => as' = as ∧ ∀ n bs ms, as = [.fz (sysD n bs), .fz (msD ms)] → r = .fz (brkF (keepB ms) bs 0), fun _ _ _ => False⟩
def t_first_broken_b1 (cl : Nat → Addr) : DS :=
  (sIf (dNot (dB (eCall (sp_keeps_bound cl).fs (cFz (eVar 1) (cFz (eVar 3) cNil))))) (sRet (eVar 2)) sNext)
def t_first_broken (cl : Nat → Addr) : DS :=
  (sSeq (sDrop (eCall (sp_check_system cl).fs (cFz (eVar 0) cNil)))
  (sSeq (sDrop (eCall (sp_check_wish cl).fs (cFz (eVar 0) (cFz (eVar 1) cNil))))
  (sSeq (sFor (iEnum (eOp dIx (eVar 0) (eC (.int 1)))) (gT (gsCons (gN 2) (gsCons (gN 3) gsNil))) (t_first_broken_b1 cl))
  (sRet (eC .none)))))
/-- the urn: three ints -/
def sp__law_urn (cl : Nat → Addr) : Spc := ⟨fun as => ∃ ns t, as = [.sc ns, .fz (.int t)] ∧ 0 ≤ t ∧ t < 100, fun as r as' => ∀ ns t, as = [.sc ns, .fz (.int t)] → ∃ a b, as' = as ∧ r = .ow (.l [.int a, .int b, .int 0]) ∧ 0 ≤ b ∧ b < 10 ^ 40, fun _ _ _ => False⟩
def t__law_urn (cl : Nat → Addr) : DS :=
  (sSeq (sSet 2 (eIf (dB (eOp dLt (eVar 1) (eCB dLen (aCons (eVar 0) aNil)))) (eOp dIx (eVar 0) (eVar 1)) (eOp dAdd (eOp dMul (eC (.int 53)) (eVar 1)) (eC (.int 29)))))
  (sRet (eLst (fCons (eCB dMax (aCons (eC (.int 0)) (aCons (eOp dSub (eCB dAbs (aCons (eVar 2) aNil)) (eOp dPow (eC (.int 10)) (eC (.int 18)))) aNil))) (fCons (eOp dAdd (eOp dAdd (eOp dMul (eOp dMod (eCB dInt (aCons (eVar 2) aNil)) (eOp dAdd (eOp dPow (eC (.int 10)) (eC (.int 26))) (eC (.int 67)))) (eC (.int 5))) (eOp dMul (eC (.int 2)) (eVar 1))) (eC (.int 1))) (fCons (eC (.int 0)) fNil))))))
def sp__law_pick (cl : Nat → Addr) : Spc := ⟨fun as => ∃ a b c n, as = [.ow (.l [.int a, .int b, .int c]), .fz (.int n)] ∧ 0 ≤ b ∧ b < 10 ^ 40 ∧ 0 ≤ c ∧ c < 10 ^ 12 ∧ 0 < n ∧ n < 10 ^ 40,
  fun as r as' => ∀ a b c n, as = [.ow (.l [.int a, .int b, .int c]), .fz (.int n)] → ∃ a' c' v, r = .fz (.int v) ∧ as' = [.ow (.l [.int a', .int b, .int c']), .fz (.int n)] ∧ 0 ≤ v ∧ v < n ∧ c ≤ c' ∧ c' ≤ c + 1, fun _ _ _ => False⟩
def t__law_pick (cl : Nat → Addr) : DS :=
  (sSeq (sIf (dB (eOp dGt (eOp dIx (eVar 0) (eC (.int 0))) (eC (.int 0)))) (sSeq (sSet 3 (eOp dMod (eCB dInt (aCons (eOp dIx (eVar 0) (eC (.int 0))) aNil)) (eVar 1)))
  (sSeq (sSt 0 (eOp dDiv (eOp dIx (eVar 0) (eC (.int 0))) (eVar 1)) (eC (.int 0)))
  (sRet (eVar 3)))) sNext)
  (sSeq (sSt 0 (eOp dAdd (eOp dIx (eVar 0) (eC (.int 2))) (eC (.int 1))) (eC (.int 2)))
  (sSeq (sSet 2 (eOp dMod (eOp dPow (eCB dInt (aCons (eOp dAdd (eOp dIx (eVar 0) (eC (.int 1))) (eOp dMul (eC (.int 90001)) (eOp dIx (eVar 0) (eC (.int 2))))) aNil)) (eC (.int 2))) (eOp dAdd (eOp dPow (eC (.int 10)) (eC (.int 31))) (eC (.int 33)))))
  (sSeq (sSet 2 (eOp dMod (eOp dPow (eCB dInt (aCons (eOp dAdd (eVar 2) (eOp dMul (eC (.int 50021)) (eOp dIx (eVar 0) (eC (.int 2))))) aNil)) (eC (.int 3))) (eOp dAdd (eOp dPow (eC (.int 10)) (eC (.int 33))) (eC (.int 61)))))
  (sRet (eOp dMod (eCB dInt (aCons (eOp dDiv (eVar 2) (eC (.int 262144))) aNil)) (eVar 1)))))))
def sp__law_reach (cl : Nat → Addr) : Spc := ⟨fun as => ∃ a b c, as = [.ow (.l [.int a, .int b, .int c])] ∧ 0 ≤ b ∧ b < 10 ^ 40 ∧ 0 ≤ c ∧ c < 10 ^ 11,
  fun as r as' => ∀ a b c, as = [.ow (.l [.int a, .int b, .int c])] → ∃ a' c' v, r = .fz (.int v) ∧ as' = [.ow (.l [.int a', .int b, .int c'])] ∧ c ≤ c' ∧ c' ≤ c + 10, fun _ _ _ => False⟩
def t__law_reach (cl : Nat → Addr) : DS :=
  (sSeq (sSet 1 (eLst (fCons (eCall (sp__law_pick cl).fs (cBw (eVar 0) (cFz (eC (.int 12)) cNil))) (fCons (eCall (sp__law_pick cl).fs (cBw (eVar 0) (cFz (eC (.int 12)) cNil))) (fCons (eOp dAdd (eOp dMul (eCall (sp__law_pick cl).fs (cBw (eVar 0) (cFz (eOp dPow (eC (.int 10)) (eC (.int 6))) cNil))) (eOp dPow (eC (.int 10)) (eC (.int 23)))) (eCall (sp__law_pick cl).fs (cBw (eVar 0) (cFz (eC (.int 12)) cNil)))) fNil)))))
  (sSeq (sSet 2 (eOp dIx (eVar 1) (eCall (sp__law_pick cl).fs (cBw (eVar 0) (cFz (eC (.int 3)) cNil)))))
  (sRet (eOp dIx (eLst (fCons (eVar 2) (fCons (eUn dNeg (eVar 2)) fNil))) (eCall (sp__law_pick cl).fs (cBw (eVar 0) (cFz (eC (.int 2)) cNil)))))))
def sp__law_frame (cl : Nat → Addr) : Spc := ⟨fun as => ∃ a b c n m, as = [.ow (.l [.int a, .int b, .int c]), .fz (.int n), .fz (.int m)] ∧ 0 ≤ b ∧ b < 10 ^ 40 ∧ 0 ≤ c ∧ c < 10 ^ 10 ∧ 1 ≤ n ∧ n ≤ 100 ∧ 0 ≤ m ∧ m ≤ 500,
  fun as r as' => ∀ a b c n m, as = [.ow (.l [.int a, .int b, .int c]), .fz (.int n), .fz (.int m)] → 1 ≤ n → n ≤ 100 → 0 ≤ m → m ≤ 500 → ∃ a' c' bs ms, r = .fz (.tuple [sysD n bs, msD (0 :: ms)]) ∧ as' = [.ow (.l [.int a', .int b, .int c']), .fz (.int n), .fz (.int m)] ∧ okS n bs ∧ bs.length ≤ 500 ∧ (ms.length : Int) + 1 = n ∧ bs.all (keepB (0 :: ms)) = true ∧ c ≤ c' ∧ c' ≤ c + 10000, fun _ _ _ => False⟩
def t__law_frame_b1 (cl : Nat → Addr) : DS :=
  (sIf (dB (eOp dGt (eVar 1) (eC (.int 1)))) (sSeq (sSet 6 (eCall (sp__law_pick cl).fs (cBw (eVar 0) (cFz (eVar 1) cNil))))
  (sSeq (sSet 7 (eOp dMod (eCB dInt (aCons (eOp dAdd (eOp dAdd (eVar 6) (eC (.int 1))) (eCall (sp__law_pick cl).fs (cBw (eVar 0) (cFz (eOp dSub (eVar 1) (eC (.int 1))) cNil)))) aNil)) (eVar 1)))
  (sSeq (sSet 8 (eOp dIx (eLst (fCons (eC (.int 0)) (fCons (eCall (sp__law_pick cl).fs (cBw (eVar 0) (cFz (eC (.int 4)) cNil))) (fCons (eCall (sp__law_pick cl).fs (cBw (eVar 0) (cFz (eC (.int 30)) cNil))) fNil)))) (eCall (sp__law_pick cl).fs (cBw (eVar 0) (cFz (eC (.int 3)) cNil)))))
  (sDrop (eMt 4 mAppend (fCons (eTup (fCons (eVar 6) (fCons (eVar 7) (fCons (eOp dAdd (eOp dSub (eOp dIx (eVar 3) (eVar 6)) (eOp dIx (eVar 3) (eVar 7))) (eVar 8)) fNil)))) fNil)))))) sNext)
def t__law_frame (cl : Nat → Addr) : DS :=
  (sSeq (sSet 3 (eCB dTuple (aCons (eOp dAdd (eLst (fCons (eC (.int 0)) fNil)) (eLc (iRg (aCons (eOp dSub (eVar 1) (eC (.int 1))) aNil)) (gN 9) dYes (eCall (sp__law_reach cl).fs (cBw (eVar 0) cNil)) [9])) aNil)))
  (sSeq (sSet 4 (eLst fNil))
  (sSeq (sFor (iRg (aCons (eCall (sp__law_pick cl).fs (cBw (eVar 0) (cFz (eOp dAdd (eVar 2) (eC (.int 1))) cNil))) aNil)) (gN 5) (t__law_frame_b1 cl))
  (sRet (eTup (fCons (eTup (fCons (eVar 1) (fCons (eCB dTuple (aCons (eVar 4) aNil)) fNil))) (fCons (eVar 3) fNil)))))))
def sp__law_whole (cl : Nat → Addr) : Spc := sp_is_integer cl
def t__law_whole (cl : Nat → Addr) : DS :=
  (sRet (eAnd (eIsX [cl 3] isInt (eVar 0)) (eNot (eIsX [cl 3] isBool (eVar 0)))))
def sp__law_moments (cl : Nat → Addr) : Spc := sp_has_moments cl
def t__law_moments (cl : Nat → Addr) : DS :=
  (sSeq (sIf (dOr (dNot (dB (eIsX [cl 3] isTuple (eVar 1)))) (dB (eOp (dEq true) (eCB dLen (aCons (eVar 1) aNil)) (eOp dIx (eVar 0) (eC (.int 0)))))) (sRet (eC (.bool false))) sNext)
  (sRet (eAnd (eOp (dEq false) (eLc (iSeq (eVar 1)) (gN 2) (dNot (dB (eCall (sp__law_whole cl).fs (cFz (eVar 2) cNil)))) (eVar 2) [2]) (eLst fNil)) (eOp (dEq false) (eOp dIx (eVar 1) (eC (.int 0))) (eC (.int 0))))))
def sp__law_says (cl : Nat → Addr) : Spc := ⟨fun as => ∃ a b, as = [.fz (.bool a), .fz (.bool b)], fun as r as' => ∀ a b, as = [.fz (.bool a), .fz (.bool b)] → as' = as ∧ r = .fz (.bool (a == b)), fun _ _ _ => False⟩
def t__law_says (cl : Nat → Addr) : DS :=
  (sRet (eAnd (eIsX [cl 3] isBool (eVar 0)) (eOp (dEq false) (eVar 0) (eVar 1))))
def sp__law_broken (cl : Nat → Addr) : Spc := sp_first_broken cl
def t__law_broken_b1 (cl : Nat → Addr) : DS :=
  (sSeq (sAsg (eOp dIx (eOp dIx (eVar 0) (eC (.int 1))) (eVar 2)) (gT (gsCons (gN 3) (gsCons (gN 4) (gsCons (gN 5) gsNil)))))
  (sIf (dB (eOp dGt (eOp dSub (eOp dIx (eVar 1) (eVar 3)) (eOp dIx (eVar 1) (eVar 4))) (eVar 5))) (sRet (eVar 2)) sNext))
def t__law_broken (cl : Nat → Addr) : DS :=
  (sSeq (sFor (iRg (aCons (eCB dLen (aCons (eOp dIx (eVar 0) (eC (.int 1))) aNil)) aNil)) (gN 2) (t__law_broken_b1 cl))
  (sRet (eC .none)))
def sp__law_near (cl : Nat → Addr) : Spc := ⟨fun as => ∃ a b c n bs ms, as = [.ow (.l [.int a, .int b, .int c]), .fz (sysD n bs), .fz (msD (0 :: ms))] ∧ 0 ≤ b ∧ b < 10 ^ 40 ∧ 0 ≤ c ∧ c < 10 ^ 10 ∧ okS n bs ∧ (ms.length : Int) + 1 = n,
  fun as r as' => ∀ a b c n bs ms, as = [.ow (.l [.int a, .int b, .int c]), .fz (sysD n bs), .fz (msD (0 :: ms))] → ∃ a' c' ms', r = .fz (msD (0 :: ms')) ∧ ms'.length = ms.length ∧ as' = [.ow (.l [.int a', .int b, .int c']), .fz (sysD n bs), .fz (msD (0 :: ms))] ∧ c ≤ c' ∧ c' ≤ c + 1000, fun _ _ _ => False⟩
def t__law_near_b1 (cl : Nat → Addr) : DS :=
  (sIf (dB (eOp dGt (eOp dIx (eVar 1) (eC (.int 0))) (eC (.int 1)))) (sSeq (sSet 5 (eOp dAdd (eC (.int 1)) (eCall (sp__law_pick cl).fs (cBw (eVar 0) (cFz (eOp dSub (eOp dIx (eVar 1) (eC (.int 0))) (eC (.int 1))) cNil)))))
  (sSt 3 (eOp dAdd (eOp dIx (eVar 3) (eVar 5)) (eOp dIx (eLst (fCons (eC (.int 1)) (fCons (eUn dNeg (eC (.int 1))) (fCons (eOp dSub (eCall (sp__law_pick cl).fs (cBw (eVar 0) (cFz (eC (.int 40)) cNil))) (eC (.int 20))) (fCons (eCall (sp__law_reach cl).fs (cBw (eVar 0) cNil)) fNil))))) (eCall (sp__law_pick cl).fs (cBw (eVar 0) (cFz (eC (.int 4)) cNil))))) (eVar 5))) sNext)
def t__law_near (cl : Nat → Addr) : DS :=
  (sSeq (sSet 3 (eCB dList (aCons (eVar 2) aNil)))
  (sSeq (sFor (iRg (aCons (eCall (sp__law_pick cl).fs (cBw (eVar 0) (cFz (eC (.int 4)) cNil))) aNil)) (gN 4) (t__law_near_b1 cl))
  (sRet (eCB dTuple (aCons (eVar 3) aNil)))))
def sp__law_odd (cl : Nat → Addr) : Spc := ⟨fun as => ∃ a b c ms, as = [.ow (.l [.int a, .int b, .int c]), .fz (msD (0 :: ms))] ∧ 0 ≤ b ∧ b < 10 ^ 40 ∧ 0 ≤ c ∧ c < 10 ^ 10 ∧ ms.length ≤ 1000,
  fun as r as' => ∀ a b c ms, as = [.ow (.l [.int a, .int b, .int c]), .fz (msD (0 :: ms))] → ∃ a' c' d, r = .fz d ∧ okT [cl 3] d ∧ as' = [.ow (.l [.int a', .int b, .int c']), .fz (msD (0 :: ms))] ∧ c ≤ c' ∧ c' ≤ c + 10, fun _ _ _ => False⟩
def t__law_odd (cl : Nat → Addr) : DS :=
  (sSeq (sSet 2 (eCall (sp__law_pick cl).fs (cBw (eVar 0) (cFz (eCB dLen (aCons (eVar 1) aNil)) cNil))))
  (sSeq (sSet 3 (eOp dIx (eLst (fCons (eC (.bool true)) (fCons (eC (.bool false)) (fCons (eC .none) (fCons (eC (.str "0")) (fCons (eTup (fCons (eC (.int 0)) fNil)) (fCons (eLst (fCons (eC (.int 0)) fNil)) fNil))))))) (eCall (sp__law_pick cl).fs (cBw (eVar 0) (cFz (eC (.int 6)) cNil)))))
  (sSeq (sSet 4 (eCall (sp__law_pick cl).fs (cBw (eVar 0) (cFz (eC (.int 8)) cNil))))
  (sSeq (sIf (dB (eOp dLt (eVar 4) (eC (.int 3)))) (sRet (eOp dAdd (eOp dAdd (eSl (eVar 1) oNone (oSome (eVar 2))) (eTup (fCons (eVar 3) fNil))) (eSl (eVar 1) (oSome (eOp dAdd (eVar 2) (eC (.int 1)))) oNone))) sNext)
  (sSeq (sSet 5 (eLst (fCons (eCB dList (aCons (eVar 1) aNil)) (fCons (eOp dAdd (eVar 1) (eTup (fCons (eC (.int 0)) fNil))) (fCons (eSl (eVar 1) (oSome (eC (.int 1))) oNone) (fCons (eOp dAdd (eTup (fCons (eC (.int 1)) fNil)) (eSl (eVar 1) (oSome (eC (.int 1))) oNone)) (fCons (eC .none) (fCons (eC (.str "")) (fCons (eC (.int 0)) (fCons (eC (.bool true)) (fCons (eTup fNil) (fCons (eLst (fCons (eVar 1) fNil)) fNil))))))))))))
  (sRet (eOp dIx (eOp dAdd (eVar 5) (eLst (fCons (eExc (cl 3) (eC (.str "0"))) (fCons (eOp dMulS (eC (.str "0")) (eCB dLen (aCons (eVar 1) aNil))) fNil)))) (eCall (sp__law_pick cl).fs (cBw (eVar 0) (cFz (eC (.int 12)) cNil))))))))))
def sp__law_right (cl : Nat → Addr) : Spc := ⟨fun as => ∃ a b, as = [.ow (.l [.int a, .int b, .int 0])] ∧ 0 ≤ b ∧ b < 10 ^ 40, fun as r as' => ∃ l, as' = [.ow (.l l)] ∧ r = .fz (.bool true), fun _ _ _ => False⟩
def t__law_right_b1 (cl : Nat → Addr) : DS :=
  (sSeq (sIf (dOr (dB (eOp (dIsB true) (eCall (sp_is_world cl).fs (cPerm [1, 0] (cFz (eVar 5) (cFz (eVar 4) cNil)))) (eC (.bool true)))) (dB (eOp (dIsN true) (eCall (sp_first_broken cl).fs (cPerm [1, 0] (cFz (eVar 5) (cFz (eVar 4) cNil)))) (eC .none)))) (sRet (eC (.bool false))) sNext)
  (sIf (dB (eOp dGt (eCall (sp__law_pick cl).fs (cBw (eVar 0) (cFz (eC (.int 3)) cNil))) (eC (.int 0)))) (sSeq (sSet 6 (eCall (sp__law_near cl).fs (cBw (eVar 0) (cFz (eVar 4) (cFz (eVar 5) cNil)))))
  (sSeq (sSet 7 (eCall (sp__law_broken cl).fs (cFz (eVar 4) (cFz (eVar 6) cNil))))
  (sSeq (sSet 8 (eCall (sp_first_broken cl).fs (cFz (eVar 4) (cFz (eVar 6) cNil))))
  (sSeq (sIf (dOr (dB (eOp (dEq true) (eVar 8) (eVar 7))) (dAnd (dB (eOp (dIsN true) (eVar 8) (eC .none))) (dNot (dB (eCall (sp__law_whole cl).fs (cFz (eVar 8) cNil)))))) (sRet (eC (.bool false))) sNext)
  (sIf (dNot (dB (eCall (sp__law_says cl).fs (cFz (eCall (sp_is_world cl).fs (cFz (eVar 4) (cFz (eVar 6) cNil))) (cFz (eOp (dIsN false) (eVar 7) (eC .none)) cNil))))) (sRet (eC (.bool false))) sNext))))) (sSeq (sSet 6 (eCall (sp__law_odd cl).fs (cBw (eVar 0) (cFz (eVar 5) cNil))))
  (sSeq (sSet 7 (eAnd (eCall (sp__law_moments cl).fs (cFz (eVar 4) (cFz (eVar 6) cNil))) (eOp (dIsN false) (eCall (sp__law_broken cl).fs (cFz (eVar 4) (cFz (eVar 6) cNil))) (eC .none))))
  (sIf (dNot (dB (eCall (sp__law_says cl).fs (cFz (eCall (sp_is_world cl).fs (cFz (eVar 4) (cFz (eVar 6) cNil))) (cFz (eVar 7) cNil))))) (sRet (eC (.bool false))) sNext)))))
def t__law_right (cl : Nat → Addr) : DS :=
  (sSeq (sSet 1 (eCB dInt (aCons (eOp (dEq false) (eCall (sp__law_pick cl).fs (cBw (eVar 0) (cFz (eC (.int 8)) cNil))) (eC (.int 7))) aNil)))
  (sSeq (sAsg (eCall (sp__law_frame cl).fs (cBw (eVar 0) (cFz (eOp dAdd (eC (.int 1)) (eCall (sp__law_pick cl).fs (cBw (eVar 0) (cFz (eOp dIx (eLst (fCons (eC (.int 8)) (fCons (eC (.int 23)) fNil))) (eVar 1)) cNil)))) (cFz (eOp dIx (eLst (fCons (eC (.int 14)) (fCons (eC (.int 100)) fNil))) (eVar 1)) cNil)))) (gT (gsCons (gN 4) (gsCons (gN 5) gsNil))))
  (sSeq (sFor (iRg (aCons (eC (.int 8)) aNil)) (gN 2) (t__law_right_b1 cl))
  (sSeq (sSet 3 (eTup (fCons (eOp dAdd (eOp dIx (eVar 4) (eC (.int 0))) (eC (.int 1))) (fCons (eOp dAdd (eOp dIx (eVar 4) (eC (.int 1))) (eTup (fCons (eTup (fCons (eOp dIx (eVar 4) (eC (.int 0))) (fCons (eC (.int 0)) (fCons (eC (.int 3)) fNil)))) (fCons (eTup (fCons (eC (.int 0)) (fCons (eOp dIx (eVar 4) (eC (.int 0))) (fCons (eUn dNeg (eC (.int 4))) fNil)))) fNil)))) fNil))))
  (sRet (eAnd (eOp (dIsB false) (eCall (sp_is_world cl).fs (cFz (eVar 3) (cFz (eOp dAdd (eVar 5) (eTup (fCons (eC (.int 3)) fNil))) cNil))) (eC (.bool false))) (eOp (dEq false) (eCall (sp_first_broken cl).fs (cFz (eVar 3) (cFz (eOp dAdd (eVar 5) (eTup (fCons (eC (.int 4)) fNil))) cNil))) (eCB dLen (aCons (eOp dIx (eVar 4) (eC (.int 1))) aNil)))))))))
def sp_law (cl : Nat → Addr) : Spc := ⟨fun as => ∃ ns, as = [.sc ns] ∧ ns.length ≤ 63, fun as r as' => ∀ ns, as = [.sc ns] → r = .fz (.bool true), fun _ _ _ => False⟩
def t_law_b1 (cl : Nat → Addr) : DS :=
  (sIf (dNot (dB (eCall (sp__law_right cl).fs (cOw (eCall (sp__law_urn cl).fs (cFz (eVar 0) (cFz (eVar 1) cNil))))))) (sRet (eC (.bool false))) sNext)
def t_law (cl : Nat → Addr) : DS :=
  (sSeq (sFor (iRg (aCons (eCB dMax (aCons (eC (.int 1)) (aCons (eCB dMin (aCons (eC (.int 3)) (aCons (eCB dLen (aCons (eVar 0) aNil)) aNil))) aNil))) aNil)) (gN 1) (t_law_b1 cl))
  (sRet (eC (.bool true))))
end T08
set_option Elab.async false
set_option linter.all false
set_option maxRecDepth 100000
set_option maxHeartbeats 2000000
namespace T08
open PySem PySem.Spec PyProof.Rows L2 DL
theorem dv_is_integer {w : World} {K : PySem.W.Frag} {mg : Str → Option Value} {base : Heap} {cl : Nat → Addr} {j : Nat} {cdv : Value} {f : Addr} {A : Around} {outer : List Env} {s : Shared} {H : Hp} {E : XK} (T : Tx K mg cl) (hr : Room j (A.deeper (envOfC "is_integer" (defScope s_is_integer) s.heap.objs.size f cdv)))
    : PBD (cxOf (L2.CX PW w) PW w K mg base N_is_integer "is_integer" (defScope s_is_integer) f cdv A outer s H E) (fun cls d _ H => E cls d H) (defBody s_is_integer) (t_is_integer cl) := by
  have h : PBD (cxOf (L2.CX PW w) PW w K mg base N_is_integer "is_integer" (defScope s_is_integer) f cdv A outer s H E) (fun cls d _ H => E cls d H) (defBody s_is_integer) _ := (pbd_one (psd_ret (pd_and (pd_isX [cl 3] ist_int T.xn_int (fun _ => rfl) rfl T.b_isinstance rfl T.b_int rfl (pd_var 0)) (pd_one (pd_not (pd_isX [cl 3] ist_bool T.xn_bool (fun _ => rfl) rfl T.b_isinstance rfl T.b_bool rfl (pd_var 0)))))))
  unfold t_is_integer
  exact h
theorem dv_is_from {w : World} {K : PySem.W.Frag} {mg : Str → Option Value} {base : Heap} {cl : Nat → Addr} {j : Nat} {cdv : Value} {f : Addr} {A : Around} {outer : List Env} {s : Shared} {H : Hp} {E : XK} (T : Tx K mg cl) (hr : Room j (A.deeper (envOfC "is_from" (defScope s_is_from) s.heap.objs.size f cdv)))
    (F_is_integer : FnC PW w K mg base j "is_integer" P_is_integer s_is_integer (sp_is_integer cl))
    : PBD (cxOf (L2.CX PW w) PW w K mg base N_is_from "is_from" (defScope s_is_from) f cdv A outer s H E) (fun cls d _ H => E cls d H) (defBody s_is_from) (t_is_from cl) := by
  have h : PBD (cxOf (L2.CX PW w) PW w K mg base N_is_from "is_from" (defScope s_is_from) f cdv A outer s H E) (fun cls d _ H => E cls d H) (defBody s_is_from) _ := (pbd_one (psd_ret (pd_and (pd_callC (takes_of rfl rfl rfl rfl) F_is_integer hr (Nat.le_refl _) bp_is_integer rfl (pcd_fz (pd_var 1) pcd_nil)) (pd_one (pd_cmp op_ge c_ge (pd_var 1) (pd_var 0) (nomark _))))))
  unfold t_is_from
  exact h
theorem dv_is_between {w : World} {K : PySem.W.Frag} {mg : Str → Option Value} {base : Heap} {cl : Nat → Addr} {j : Nat} {cdv : Value} {f : Addr} {A : Around} {outer : List Env} {s : Shared} {H : Hp} {E : XK} (T : Tx K mg cl) (hr : Room j (A.deeper (envOfC "is_between" (defScope s_is_between) s.heap.objs.size f cdv)))
    (F_is_integer : FnC PW w K mg base j "is_integer" P_is_integer s_is_integer (sp_is_integer cl))
    : PBD (cxOf (L2.CX PW w) PW w K mg base N_is_between "is_between" (defScope s_is_between) f cdv A outer s H E) (fun cls d _ H => E cls d H) (defBody s_is_between) (t_is_between cl) := by
  have h : PBD (cxOf (L2.CX PW w) PW w K mg base N_is_between "is_between" (defScope s_is_between) f cdv A outer s H E) (fun cls d _ H => E cls d H) (defBody s_is_between) _ := (pbd_one (psd_ret (pd_and (pd_callC (takes_of rfl rfl rfl rfl) F_is_integer hr (Nat.le_refl _) bp_is_integer rfl (pcd_fz (pd_var 1) pcd_nil)) (pd_one (pd_chain op_le c_le op_le c_le (pd_var 0) (pd_var 1) (pd_var 2))))))
  unfold t_is_between
  exact h
theorem dv_is_index {w : World} {K : PySem.W.Frag} {mg : Str → Option Value} {base : Heap} {cl : Nat → Addr} {j : Nat} {cdv : Value} {f : Addr} {A : Around} {outer : List Env} {s : Shared} {H : Hp} {E : XK} (T : Tx K mg cl) (hr : Room j (A.deeper (envOfC "is_index" (defScope s_is_index) s.heap.objs.size f cdv)))
    (F_is_between : FnC PW w K mg base j "is_between" P_is_between s_is_between (sp_is_between cl))
    : PBD (cxOf (L2.CX PW w) PW w K mg base N_is_index "is_index" (defScope s_is_index) f cdv A outer s H E) (fun cls d _ H => E cls d H) (defBody s_is_index) (t_is_index cl) := by
  have h : PBD (cxOf (L2.CX PW w) PW w K mg base N_is_index "is_index" (defScope s_is_index) f cdv A outer s H E) (fun cls d _ H => E cls d H) (defBody s_is_index) _ := (pbd_one (psd_ret (pd_callC (takes_of rfl rfl rfl rfl) F_is_between hr (Nat.le_refl _) bp_is_between rfl (pcd_fz pd_int (pcd_fz (pd_var 1) (pcd_fz (pd_bin op_sub c_sub (pd_var 0) pd_int) pcd_nil))))))
  unfold t_is_index
  exact h
theorem dv_is_bound {w : World} {K : PySem.W.Frag} {mg : Str → Option Value} {base : Heap} {cl : Nat → Addr} {j : Nat} {cdv : Value} {f : Addr} {A : Around} {outer : List Env} {s : Shared} {H : Hp} {E : XK} (T : Tx K mg cl) (hr : Room j (A.deeper (envOfC "is_bound" (defScope s_is_bound) s.heap.objs.size f cdv)))
    (F_is_index : FnC PW w K mg base j "is_index" P_is_index s_is_index (sp_is_index cl))
    (F_is_integer : FnC PW w K mg base j "is_integer" P_is_integer s_is_integer (sp_is_integer cl))
    : PBD (cxOf (L2.CX PW w) PW w K mg base N_is_bound "is_bound" (defScope s_is_bound) f cdv A outer s H E) (fun cls d _ H => E cls d H) (defBody s_is_bound) (t_is_bound cl) := by
  have h : PBD (cxOf (L2.CX PW w) PW w K mg base N_is_bound "is_bound" (defScope s_is_bound) f cdv A outer s H E) (fun cls d _ H => E cls d H) (defBody s_is_bound) _ := (pbd_cons (psd_if (PWD.pt (pwd_or (ptd_not (ptd_val (pd_isX [cl 3] ist_tuple T.xn_tuple (fun _ => rfl) rfl T.b_isinstance rfl T.b_tuple rfl (pd_var 1)))) (pwd_or (ptd_cmp (op_neD hr.units) c_ne (pd_callB call_len c_len rfl T.b_len rfl (pad_cons (pd_var 1) pad_nil)) pd_int (nomark _)) (pwd_or1 (ptd_not (ptd_val (pd_callC (takes_of rfl rfl rfl rfl) F_is_integer hr (Nat.le_refl _) bp_is_integer rfl (pcd_fz (pd_ix ix_seq c_ix (pd_var 1) pd_int (fun _ _ => rfl)) pcd_nil)))))))) (pbd_one (psd_ret pd_bl)) pbd_nil)
  (pbd_one (psd_ret (pd_and (pd_callC (takes_of rfl rfl rfl rfl) F_is_index hr (Nat.le_refl _) bp_is_index rfl (pcd_fz (pd_var 0) (pcd_fz (pd_ix ix_seq c_ix (pd_var 1) pd_int (fun _ _ => rfl)) pcd_nil))) (pd_and (pd_callC (takes_of rfl rfl rfl rfl) F_is_index hr (Nat.le_refl _) bp_is_index rfl (pcd_fz (pd_var 0) (pcd_fz (pd_ix ix_seq c_ix (pd_var 1) pd_int (fun _ _ => rfl)) pcd_nil))) (pd_one (pd_cmp (op_neD hr.units) c_ne (pd_ix ix_seq c_ix (pd_var 1) pd_int (fun _ _ => rfl)) (pd_ix ix_seq c_ix (pd_var 1) pd_int (fun _ _ => rfl)) (nomark _))))))))
  unfold t_is_bound
  exact h
theorem dv_is_system_form {w : World} {K : PySem.W.Frag} {mg : Str → Option Value} {base : Heap} {cl : Nat → Addr} {j : Nat} {cdv : Value} {f : Addr} {A : Around} {outer : List Env} {s : Shared} {H : Hp} {E : XK} (T : Tx K mg cl) (hr : Room j (A.deeper (envOfC "is_system_form" (defScope s_is_system_form) s.heap.objs.size f cdv)))
    (F_is_bound : FnC PW w K mg base j "is_bound" P_is_bound s_is_bound (sp_is_bound cl))
    (F_is_from : FnC PW w K mg base j "is_from" P_is_from s_is_from (sp_is_from cl))
    : PBD (cxOf (L2.CX PW w) PW w K mg base N_is_system_form "is_system_form" (defScope s_is_system_form) f cdv A outer s H E) (fun cls d _ H => E cls d H) (defBody s_is_system_form) (t_is_system_form cl) := by
  have h : PBD (cxOf (L2.CX PW w) PW w K mg base N_is_system_form "is_system_form" (defScope s_is_system_form) f cdv A outer s H E) (fun cls d _ H => E cls d H) (defBody s_is_system_form) _ := (pbd_cons (psd_if (PWD.pt (pwd_or (ptd_not (ptd_val (pd_isX [cl 3] ist_tuple T.xn_tuple (fun _ => rfl) rfl T.b_isinstance rfl T.b_tuple rfl (pd_var 0)))) (pwd_or (ptd_cmp (op_neD hr.units) c_ne (pd_callB call_len c_len rfl T.b_len rfl (pad_cons (pd_var 0) pad_nil)) pd_int (nomark _)) (pwd_or (ptd_not (ptd_val (pd_callC (takes_of rfl rfl rfl rfl) F_is_from hr (Nat.le_refl _) bp_is_from rfl (pcd_fz pd_int (pcd_fz (pd_ix ix_seq c_ix (pd_var 0) pd_int (fun _ _ => rfl)) pcd_nil))))) (pwd_or1 (ptd_not (ptd_val (pd_isX [cl 3] ist_tuple T.xn_tuple (fun _ => rfl) rfl T.b_isinstance rfl T.b_tuple rfl (pd_ix ix_seq c_ix (pd_var 0) pd_int (fun _ _ => rfl)))))))))) (pbd_one (psd_ret pd_bl)) pbd_nil)
  (pbd_one (psd_ret (pd_callB (cr_all rfl) c_all rfl T.b_all rfl (pad_cons (pd_lc (own := [("bound", 1)]) rfl sc_is_system_form.nd (pid_seq (pd_ix ix_seq c_ix (pd_var 0) pd_int (fun _ _ => rfl))) (blkOk_by (N := N_is_system_form) (sc := defScope s_is_system_form) (own := [("bound", 1)]) (by decide +kernel)) (fun _ => (pgd_name (i := 1) sc_is_system_form.nd rfl (by first | exact Or.inl rfl | exact Or.inr rfl))) (fun _ => ptsd_nil) (fun _ => (pd_callC takes0 F_is_bound hr (Nat.le_refl _) bp_is_bound rfl (pcd_fz (pd_ix ix_seq c_ix (pd_var 0) pd_int (fun _ _ => rfl)) (pcd_fz (pd_var 1) pcd_nil))))) pad_nil)))))
  unfold t_is_system_form
  exact h
theorem dv_has_moments {w : World} {K : PySem.W.Frag} {mg : Str → Option Value} {base : Heap} {cl : Nat → Addr} {j : Nat} {cdv : Value} {f : Addr} {A : Around} {outer : List Env} {s : Shared} {H : Hp} {E : XK} (T : Tx K mg cl) (hr : Room j (A.deeper (envOfC "has_moments" (defScope s_has_moments) s.heap.objs.size f cdv)))
    (F_is_integer : FnC PW w K mg base j "is_integer" P_is_integer s_is_integer (sp_is_integer cl))
    : PBD (cxOf (L2.CX PW w) PW w K mg base N_has_moments "has_moments" (defScope s_has_moments) f cdv A outer s H E) (fun cls d _ H => E cls d H) (defBody s_has_moments) (t_has_moments cl) := by
  have h : PBD (cxOf (L2.CX PW w) PW w K mg base N_has_moments "has_moments" (defScope s_has_moments) f cdv A outer s H E) (fun cls d _ H => E cls d H) (defBody s_has_moments) _ := (pbd_cons (psd_if (PWD.pt (pwd_or (ptd_not (ptd_val (pd_isX [cl 3] ist_tuple T.xn_tuple (fun _ => rfl) rfl T.b_isinstance rfl T.b_tuple rfl (pd_var 1)))) (pwd_or (ptd_cmp (op_neD hr.units) c_ne (pd_callB call_len c_len rfl T.b_len rfl (pad_cons (pd_var 1) pad_nil)) (pd_ix ix_seq c_ix (pd_var 0) pd_int (fun _ _ => rfl)) (nomark _)) (pwd_or1 (ptd_not (ptd_val (pd_callB (cr_all rfl) c_all rfl T.b_all rfl (pad_cons (pd_lc (own := [("part", 2)]) rfl sc_has_moments.nd (pid_seq (pd_var 1)) (blkOk_by (N := N_has_moments) (sc := defScope s_has_moments) (own := [("part", 2)]) (by decide +kernel)) (fun _ => (pgd_name (i := 2) sc_has_moments.nd rfl (by first | exact Or.inl rfl | exact Or.inr rfl))) (fun _ => ptsd_nil) (fun _ => (pd_callC takes0 F_is_integer hr (Nat.le_refl _) bp_is_integer rfl (pcd_fz (pd_var 2) pcd_nil)))) pad_nil)))))))) (pbd_one (psd_ret pd_bl)) pbd_nil)
  (pbd_one (psd_ret (pd_cmp (op_eqD hr.units) c_eq (pd_ix ix_seq c_ix (pd_var 1) pd_int (fun _ _ => rfl)) pd_int (nomark _)))))
  unfold t_has_moments
  exact h
theorem dv_keeps_bound {w : World} {K : PySem.W.Frag} {mg : Str → Option Value} {base : Heap} {cl : Nat → Addr} {j : Nat} {cdv : Value} {f : Addr} {A : Around} {outer : List Env} {s : Shared} {H : Hp} {E : XK} (T : Tx K mg cl) (hr : Room j (A.deeper (envOfC "keeps_bound" (defScope s_keeps_bound) s.heap.objs.size f cdv)))
    : PBD (cxOf (L2.CX PW w) PW w K mg base N_keeps_bound "keeps_bound" (defScope s_keeps_bound) f cdv A outer s H E) (fun cls d _ H => E cls d H) (defBody s_keeps_bound) (t_keeps_bound cl) := by
  have h : PBD (cxOf (L2.CX PW w) PW w K mg base N_keeps_bound "keeps_bound" (defScope s_keeps_bound) f cdv A outer s H E) (fun cls d _ H => E cls d H) (defBody s_keeps_bound) _ := (pbd_cons (psd_asg (pd_var 1) (pgd_tup rfl (pgsd_cons (pgd_name (i := 2) sc_keeps_bound.nd rfl (by first | exact Or.inl rfl | exact Or.inr rfl)) (pgsd_cons (pgd_name (i := 3) sc_keeps_bound.nd rfl (by first | exact Or.inl rfl | exact Or.inr rfl)) (pgsd_cons (pgd_name (i := 4) sc_keeps_bound.nd rfl (by first | exact Or.inl rfl | exact Or.inr rfl)) pgsd_nil))) (gs_lenS (gs_lenS (gs_lenS gs_len0)))))
  (pbd_one (psd_ret (pd_cmp op_le c_le (pd_bin op_sub c_sub (pd_ix ix_seq c_ix (pd_var 0) (pd_var 2) (fun _ _ => rfl)) (pd_ix ix_seq c_ix (pd_var 0) (pd_var 3) (fun _ _ => rfl))) (pd_var 4) (nomark _)))))
  unfold t_keeps_bound
  exact h
theorem dv_is_world_of {w : World} {K : PySem.W.Frag} {mg : Str → Option Value} {base : Heap} {cl : Nat → Addr} {j : Nat} {cdv : Value} {f : Addr} {A : Around} {outer : List Env} {s : Shared} {H : Hp} {E : XK} (T : Tx K mg cl) (hr : Room j (A.deeper (envOfC "is_world_of" (defScope s_is_world_of) s.heap.objs.size f cdv)))
    (F_keeps_bound : FnC PW w K mg base j "keeps_bound" P_keeps_bound s_keeps_bound (sp_keeps_bound cl))
    (F_has_moments : FnC PW w K mg base j "has_moments" P_has_moments s_has_moments (sp_has_moments cl))
    : PBD (cxOf (L2.CX PW w) PW w K mg base N_is_world_of "is_world_of" (defScope s_is_world_of) f cdv A outer s H E) (fun cls d _ H => E cls d H) (defBody s_is_world_of) (t_is_world_of cl) := by
  have h : PBD (cxOf (L2.CX PW w) PW w K mg base N_is_world_of "is_world_of" (defScope s_is_world_of) f cdv A outer s H E) (fun cls d _ H => E cls d H) (defBody s_is_world_of) _ := (pbd_one (psd_ret (pd_and (pd_callC (takes_of rfl rfl rfl rfl) F_has_moments hr (Nat.le_refl _) bp_has_moments rfl (pcd_fz (pd_var 0) (pcd_fz (pd_var 1) pcd_nil))) (pd_one (pd_callB (cr_all rfl) c_all rfl T.b_all rfl (pad_cons (pd_lc (own := [("bound", 2)]) rfl sc_is_world_of.nd (pid_seq (pd_ix ix_seq c_ix (pd_var 0) pd_int (fun _ _ => rfl))) (blkOk_by (N := N_is_world_of) (sc := defScope s_is_world_of) (own := [("bound", 2)]) (by decide +kernel)) (fun _ => (pgd_name (i := 2) sc_is_world_of.nd rfl (by first | exact Or.inl rfl | exact Or.inr rfl))) (fun _ => ptsd_nil) (fun _ => (pd_callC takes0 F_keeps_bound hr (Nat.le_refl _) bp_keeps_bound rfl (pcd_fz (pd_var 1) (pcd_fz (pd_var 2) pcd_nil))))) pad_nil))))))
  unfold t_is_world_of
  exact h
theorem dv_check_system {w : World} {K : PySem.W.Frag} {mg : Str → Option Value} {base : Heap} {cl : Nat → Addr} {j : Nat} {cdv : Value} {f : Addr} {A : Around} {outer : List Env} {s : Shared} {H : Hp} {E : XK} (T : Tx K mg cl) (hr : Room j (A.deeper (envOfC "check_system" (defScope s_check_system) s.heap.objs.size f cdv)))
    (F_is_system_form : FnC PW w K mg base j "is_system_form" P_is_system_form s_is_system_form (sp_is_system_form cl))
    : PBD (cxOf (L2.CX PW w) PW w K mg base N_check_system "check_system" (defScope s_check_system) f cdv A outer s H E) (fun cls d _ H => E cls d H) (defBody s_check_system) (t_check_system cl) := by
  have h : PBD (cxOf (L2.CX PW w) PW w K mg base N_check_system "check_system" (defScope s_check_system) f cdv A outer s H E) (fun cls d _ H => E cls d H) (defBody s_check_system) _ := (pbd_one (psd_if (ptd_not (ptd_val (pd_callC (takes_of rfl rfl rfl rfl) F_is_system_form hr (Nat.le_refl _) bp_is_system_form rfl (pcd_fz (pd_var 0) pcd_nil)))) (pbd_one (psd_raise (takes_of rfl rfl rfl rfl) rfl (T.x_InvalidSystem) rfl)) pbd_nil))
  unfold t_check_system
  exact h
theorem dv_check_wish {w : World} {K : PySem.W.Frag} {mg : Str → Option Value} {base : Heap} {cl : Nat → Addr} {j : Nat} {cdv : Value} {f : Addr} {A : Around} {outer : List Env} {s : Shared} {H : Hp} {E : XK} (T : Tx K mg cl) (hr : Room j (A.deeper (envOfC "check_wish" (defScope s_check_wish) s.heap.objs.size f cdv)))
    (F_has_moments : FnC PW w K mg base j "has_moments" P_has_moments s_has_moments (sp_has_moments cl))
    : PBD (cxOf (L2.CX PW w) PW w K mg base N_check_wish "check_wish" (defScope s_check_wish) f cdv A outer s H E) (fun cls d _ H => E cls d H) (defBody s_check_wish) (t_check_wish cl) := by
  have h : PBD (cxOf (L2.CX PW w) PW w K mg base N_check_wish "check_wish" (defScope s_check_wish) f cdv A outer s H E) (fun cls d _ H => E cls d H) (defBody s_check_wish) _ := (pbd_one (psd_if (ptd_not (ptd_val (pd_callC (takes_of rfl rfl rfl rfl) F_has_moments hr (Nat.le_refl _) bp_has_moments rfl (pcd_fz (pd_var 0) (pcd_fz (pd_var 1) pcd_nil))))) (pbd_one (psd_raise (takes_of rfl rfl rfl rfl) rfl (T.x_InvalidWorld) rfl)) pbd_nil))
  unfold t_check_wish
  exact h
theorem dv_is_world {w : World} {K : PySem.W.Frag} {mg : Str → Option Value} {base : Heap} {cl : Nat → Addr} {j : Nat} {cdv : Value} {f : Addr} {A : Around} {outer : List Env} {s : Shared} {H : Hp} {E : XK} (T : Tx K mg cl) (hr : Room j (A.deeper (envOfC "is_world" (defScope s_is_world) s.heap.objs.size f cdv)))
    (F_is_world_of : FnC PW w K mg base j "is_world_of" P_is_world_of s_is_world_of (sp_is_world_of cl))
    (F_check_system : FnC PW w K mg base j "check_system" P_check_system s_check_system (sp_check_system cl))
    : PBD (cxOf (L2.CX PW w) PW w K mg base N_is_world "is_world" (defScope s_is_world) f cdv A outer s H E) (fun cls d _ H => E cls d H) (defBody s_is_world) (t_is_world cl) := by
  have h : PBD (cxOf (L2.CX PW w) PW w K mg base N_is_world "is_world" (defScope s_is_world) f cdv A outer s H E) (fun cls d _ H => E cls d H) (defBody s_is_world) _ := (pbd_cons (psd_expr (pd_callC (takes_of rfl rfl rfl rfl) F_check_system hr (Nat.le_refl _) bp_check_system rfl (pcd_fz (pd_var 0) pcd_nil)))
  (pbd_one (psd_ret (pd_callC (takes_of rfl rfl rfl rfl) F_is_world_of hr (Nat.le_refl _) bp_is_world_of rfl (pcd_fz (pd_var 0) (pcd_fz (pd_var 1) pcd_nil))))))
  unfold t_is_world
  exact h
theorem dv_first_broken {w : World} {K : PySem.W.Frag} {mg : Str → Option Value} {base : Heap} {cl : Nat → Addr} {j : Nat} {cdv : Value} {f : Addr} {A : Around} {outer : List Env} {s : Shared} {H : Hp} {E : XK} (T : Tx K mg cl) (hr : Room j (A.deeper (envOfC "first_broken" (defScope s_first_broken) s.heap.objs.size f cdv)))
    (F_keeps_bound : FnC PW w K mg base j "keeps_bound" P_keeps_bound s_keeps_bound (sp_keeps_bound cl))
    (F_check_wish : FnC PW w K mg base j "check_wish" P_check_wish s_check_wish (sp_check_wish cl))
    (F_check_system : FnC PW w K mg base j "check_system" P_check_system s_check_system (sp_check_system cl))
    : PBD (cxOf (L2.CX PW w) PW w K mg base N_first_broken "first_broken" (defScope s_first_broken) f cdv A outer s H E) (fun cls d _ H => E cls d H) (defBody s_first_broken) (t_first_broken cl) := by
  have h : PBD (cxOf (L2.CX PW w) PW w K mg base N_first_broken "first_broken" (defScope s_first_broken) f cdv A outer s H E) (fun cls d _ H => E cls d H) (defBody s_first_broken) _ := (pbd_cons (psd_expr (pd_callC (takes_of rfl rfl rfl rfl) F_check_system hr (Nat.le_refl _) bp_check_system rfl (pcd_fz (pd_var 0) pcd_nil)))
  (pbd_cons (psd_expr (pd_callC (takes_of rfl rfl rfl rfl) F_check_wish hr (Nat.le_refl _) bp_check_wish rfl (pcd_fz (pd_var 0) (pcd_fz (pd_var 1) pcd_nil))))
  (pbd_cons (psd_for (passes_of rfl) rfl (pid_enum rfl T.b_enumerate (pd_ix ix_seq c_ix (pd_var 0) pd_int (fun _ _ => rfl))) (pgd_tup rfl (pgsd_cons (pgd_name (i := 2) sc_first_broken.nd rfl (by first | exact Or.inl rfl | exact Or.inr rfl)) (pgsd_cons (pgd_name (i := 3) sc_first_broken.nd rfl (by first | exact Or.inl rfl | exact Or.inr rfl)) pgsd_nil)) (gs_lenS (gs_lenS gs_len0))) (pbd_one (psd_if (ptd_not (ptd_val (pd_callC (takes_of rfl rfl rfl rfl) F_keeps_bound hr (Nat.le_refl _) bp_keeps_bound rfl (pcd_fz (pd_var 1) (pcd_fz (pd_var 3) pcd_nil))))) (pbd_one (psd_ret (pd_var 2))) pbd_nil)))
  (pbd_one (psd_ret pd_non)))))
  unfold t_first_broken t_first_broken_b1
  exact h
theorem dv__law_urn {w : World} {K : PySem.W.Frag} {mg : Str → Option Value} {base : Heap} {cl : Nat → Addr} {j : Nat} {cdv : Value} {f : Addr} {A : Around} {outer : List Env} {s : Shared} {H : Hp} {E : XK} (T : Tx K mg cl) (hr : Room j (A.deeper (envOfC "_law_urn" (defScope s__law_urn) s.heap.objs.size f cdv)))
    : PBD (cxOf (L2.CX PW w) PW w K mg base N__law_urn "_law_urn" (defScope s__law_urn) f cdv A outer s H E) (fun cls d _ H => E cls d H) (defBody s__law_urn) (t__law_urn cl) := by
  have h : PBD (cxOf (L2.CX PW w) PW w K mg base N__law_urn "_law_urn" (defScope s__law_urn) f cdv A outer s H E) (fun cls d _ H => E cls d H) (defBody s__law_urn) _ := (pbd_cons (psd_set 2 sc__law_urn.nd (pd_ifExp (ptd_cmp op_lt c_lt (pd_var 1) (pd_callB call_len c_len rfl T.b_len rfl (pad_cons (pd_var 0) pad_nil)) (nomark _)) (pd_ix ix_seq c_ix (pd_var 0) (pd_var 1) (fun _ _ => rfl)) (pd_bin op_addA c_add (pd_bin op_mulW c_mul pd_int (pd_var 1)) pd_int)))
  (pbd_one (psd_ret (pd_lst (pfd_cons (pd_callB (cr_maxA rfl) c_max rfl T.b_max rfl (pad_cons pd_int (pad_cons (pd_bin op_sub c_sub (pd_callB call_abs c_abs rfl T.b_abs rfl (pad_cons (pd_var 2) pad_nil)) (pd_bin op_powW c_pow pd_int pd_int)) pad_nil))) (pfd_cons (pd_bin op_addA c_add (pd_bin op_addA c_add (pd_bin op_mulW c_mul (pd_bin op_mod c_mod (pd_callTy call_int1 c_int rfl T.b_int rfl (pad_cons (pd_var 2) pad_nil)) (pd_bin op_addA c_add (pd_bin op_powW c_pow pd_int pd_int) pd_int)) pd_int) (pd_bin op_mulW c_mul pd_int (pd_var 1))) pd_int) (pfd_cons pd_int pfd_nil)))))))
  unfold t__law_urn
  exact h
theorem dv__law_pick {w : World} {K : PySem.W.Frag} {mg : Str → Option Value} {base : Heap} {cl : Nat → Addr} {j : Nat} {cdv : Value} {f : Addr} {A : Around} {outer : List Env} {s : Shared} {H : Hp} {E : XK} (T : Tx K mg cl) (hr : Room j (A.deeper (envOfC "_law_pick" (defScope s__law_pick) s.heap.objs.size f cdv)))
    : PBD (cxOf (L2.CX PW w) PW w K mg base N__law_pick "_law_pick" (defScope s__law_pick) f cdv A outer s H E) (fun cls d _ H => E cls d H) (defBody s__law_pick) (t__law_pick cl) := by
  have h : PBD (cxOf (L2.CX PW w) PW w K mg base N__law_pick "_law_pick" (defScope s__law_pick) f cdv A outer s H E) (fun cls d _ H => E cls d H) (defBody s__law_pick) _ := (pbd_cons (psd_if (ptd_cmp op_gt c_gt (pd_ix ix_seq c_ix (pd_var 0) pd_int (fun _ _ => rfl)) pd_int (nomark _)) (pbd_cons (psd_set 3 sc__law_pick.nd (pd_bin op_mod c_mod (pd_callTy call_int1 c_int rfl T.b_int rfl (pad_cons (pd_ix ix_seq c_ix (pd_var 0) pd_int (fun _ _ => rfl)) pad_nil)) (pd_var 1)))
  (pbd_cons (psd_st 0 (pd_bin op_fdivW c_div (pd_ix ix_seq c_ix (pd_var 0) pd_int (fun _ _ => rfl)) (pd_var 1)) pd_int)
  (pbd_one (psd_ret (pd_var 3))))) pbd_nil)
  (pbd_cons (psd_st 0 (pd_bin op_addA c_add (pd_ix ix_seq c_ix (pd_var 0) pd_int (fun _ _ => rfl)) pd_int) pd_int)
  (pbd_cons (psd_set 2 sc__law_pick.nd (pd_bin op_mod c_mod (pd_bin op_powW c_pow (pd_callTy call_int1 c_int rfl T.b_int rfl (pad_cons (pd_bin op_addA c_add (pd_ix ix_seq c_ix (pd_var 0) pd_int (fun _ _ => rfl)) (pd_bin op_mulW c_mul pd_int (pd_ix ix_seq c_ix (pd_var 0) pd_int (fun _ _ => rfl)))) pad_nil)) pd_int) (pd_bin op_addA c_add (pd_bin op_powW c_pow pd_int pd_int) pd_int)))
  (pbd_cons (psd_set 2 sc__law_pick.nd (pd_bin op_mod c_mod (pd_bin op_powW c_pow (pd_callTy call_int1 c_int rfl T.b_int rfl (pad_cons (pd_bin op_addA c_add (pd_var 2) (pd_bin op_mulW c_mul pd_int (pd_ix ix_seq c_ix (pd_var 0) pd_int (fun _ _ => rfl)))) pad_nil)) pd_int) (pd_bin op_addA c_add (pd_bin op_powW c_pow pd_int pd_int) pd_int)))
  (pbd_one (psd_ret (pd_bin op_mod c_mod (pd_callTy call_int1 c_int rfl T.b_int rfl (pad_cons (pd_bin op_fdivW c_div (pd_var 2) pd_int) pad_nil)) (pd_var 1))))))))
  unfold t__law_pick
  exact h
theorem dv__law_reach {w : World} {K : PySem.W.Frag} {mg : Str → Option Value} {base : Heap} {cl : Nat → Addr} {j : Nat} {cdv : Value} {f : Addr} {A : Around} {outer : List Env} {s : Shared} {H : Hp} {E : XK} (T : Tx K mg cl) (hr : Room j (A.deeper (envOfC "_law_reach" (defScope s__law_reach) s.heap.objs.size f cdv)))
    (F__law_pick : FnC PW w K mg base j "_law_pick" P__law_pick s__law_pick (sp__law_pick cl))
    : PBD (cxOf (L2.CX PW w) PW w K mg base N__law_reach "_law_reach" (defScope s__law_reach) f cdv A outer s H E) (fun cls d _ H => E cls d H) (defBody s__law_reach) (t__law_reach cl) := by
  have h : PBD (cxOf (L2.CX PW w) PW w K mg base N__law_reach "_law_reach" (defScope s__law_reach) f cdv A outer s H E) (fun cls d _ H => E cls d H) (defBody s__law_reach) _ := (pbd_cons (psd_set 1 sc__law_reach.nd (pd_lst (pfd_cons (pd_callC (takes_of rfl rfl rfl rfl) F__law_pick hr (Nat.le_refl _) bp__law_pick rfl (pcd_bw (pd_var 0) (pcd_fz pd_int pcd_nil))) (pfd_cons (pd_callC (takes_of rfl rfl rfl rfl) F__law_pick hr (Nat.le_refl _) bp__law_pick rfl (pcd_bw (pd_var 0) (pcd_fz pd_int pcd_nil))) (pfd_cons (pd_bin op_addA c_add (pd_bin op_mulW c_mul (pd_callC (takes_of rfl rfl rfl rfl) F__law_pick hr (Nat.le_refl _) bp__law_pick rfl (pcd_bw (pd_var 0) (pcd_fz (pd_bin op_powW c_pow pd_int pd_int) pcd_nil))) (pd_bin op_powW c_pow pd_int pd_int)) (pd_callC (takes_of rfl rfl rfl rfl) F__law_pick hr (Nat.le_refl _) bp__law_pick rfl (pcd_bw (pd_var 0) (pcd_fz pd_int pcd_nil)))) pfd_nil)))))
  (pbd_cons (psd_set 2 sc__law_reach.nd (pd_ix ix_seq c_ix (pd_var 1) (pd_callC (takes_of rfl rfl rfl rfl) F__law_pick hr (Nat.le_refl _) bp__law_pick rfl (pcd_bw (pd_var 0) (pcd_fz pd_int pcd_nil))) (fun _ _ => rfl)))
  (pbd_one (psd_ret (pd_ix ix_seq c_ix (pd_lst (pfd_cons (pd_var 2) (pfd_cons (pd_un un_neg c_neg (pd_var 2)) pfd_nil))) (pd_callC (takes_of rfl rfl rfl rfl) F__law_pick hr (Nat.le_refl _) bp__law_pick rfl (pcd_bw (pd_var 0) (pcd_fz pd_int pcd_nil))) (fun _ _ => rfl))))))
  unfold t__law_reach
  exact h
theorem dv__law_frame {w : World} {K : PySem.W.Frag} {mg : Str → Option Value} {base : Heap} {cl : Nat → Addr} {j : Nat} {cdv : Value} {f : Addr} {A : Around} {outer : List Env} {s : Shared} {H : Hp} {E : XK} (T : Tx K mg cl) (hr : Room j (A.deeper (envOfC "_law_frame" (defScope s__law_frame) s.heap.objs.size f cdv)))
    (F__law_pick : FnC PW w K mg base j "_law_pick" P__law_pick s__law_pick (sp__law_pick cl))
    (F__law_reach : FnC PW w K mg base j "_law_reach" P__law_reach s__law_reach (sp__law_reach cl))
    : PBD (cxOf (L2.CX PW w) PW w K mg base N__law_frame "_law_frame" (defScope s__law_frame) f cdv A outer s H E) (fun cls d _ H => E cls d H) (defBody s__law_frame) (t__law_frame cl) := by
  have h : PBD (cxOf (L2.CX PW w) PW w K mg base N__law_frame "_law_frame" (defScope s__law_frame) f cdv A outer s H E) (fun cls d _ H => E cls d H) (defBody s__law_frame) _ := (pbd_cons (psd_set 3 sc__law_frame.nd (pd_callTy call_tuple_of c_tuple rfl T.b_tuple rfl (pad_cons (pd_bin op_addA c_add (pd_lst (pfd_cons pd_int pfd_nil)) (pd_lc (own := [("point", 9)]) rfl sc__law_frame.nd (pid_range1 rfl T.b_range (pad_cons (pd_bin op_sub c_sub (pd_var 1) pd_int) pad_nil)) (blkOk_by (N := N__law_frame) (sc := defScope s__law_frame) (own := [("point", 9)]) (by decide +kernel)) (fun _ => (pgd_name (i := 9) sc__law_frame.nd rfl (by first | exact Or.inl rfl | exact Or.inr rfl))) (fun _ => ptsd_nil) (fun _ => (pd_callC takes0 F__law_reach hr (Nat.le_refl _) bp__law_reach rfl (pcd_bw (pd_var 0) pcd_nil))))) pad_nil)))
  (pbd_cons (psd_set 4 sc__law_frame.nd (pd_lst pfd_nil))
  (pbd_cons (psd_for (passes_of rfl) rfl (pid_range1 rfl T.b_range (pad_cons (pd_callC (takes_of rfl rfl rfl rfl) F__law_pick hr (Nat.le_refl _) bp__law_pick rfl (pcd_bw (pd_var 0) (pcd_fz (pd_bin op_addA c_add (pd_var 2) pd_int) pcd_nil))) pad_nil)) (pgd_name (i := 5) sc__law_frame.nd rfl (by first | exact Or.inl rfl | exact Or.inr rfl)) (pbd_one (psd_if (ptd_cmp op_gt c_gt (pd_var 1) pd_int (nomark _)) (pbd_cons (psd_set 6 sc__law_frame.nd (pd_callC (takes_of rfl rfl rfl rfl) F__law_pick hr (Nat.le_refl _) bp__law_pick rfl (pcd_bw (pd_var 0) (pcd_fz (pd_var 1) pcd_nil))))
  (pbd_cons (psd_set 7 sc__law_frame.nd (pd_bin op_mod c_mod (pd_callTy call_int1 c_int rfl T.b_int rfl (pad_cons (pd_bin op_addA c_add (pd_bin op_addA c_add (pd_var 6) pd_int) (pd_callC (takes_of rfl rfl rfl rfl) F__law_pick hr (Nat.le_refl _) bp__law_pick rfl (pcd_bw (pd_var 0) (pcd_fz (pd_bin op_sub c_sub (pd_var 1) pd_int) pcd_nil)))) pad_nil)) (pd_var 1)))
  (pbd_cons (psd_set 8 sc__law_frame.nd (pd_ix ix_seq c_ix (pd_lst (pfd_cons pd_int (pfd_cons (pd_callC (takes_of rfl rfl rfl rfl) F__law_pick hr (Nat.le_refl _) bp__law_pick rfl (pcd_bw (pd_var 0) (pcd_fz pd_int pcd_nil))) (pfd_cons (pd_callC (takes_of rfl rfl rfl rfl) F__law_pick hr (Nat.le_refl _) bp__law_pick rfl (pcd_bw (pd_var 0) (pcd_fz pd_int pcd_nil))) pfd_nil)))) (pd_callC (takes_of rfl rfl rfl rfl) F__law_pick hr (Nat.le_refl _) bp__law_pick rfl (pcd_bw (pd_var 0) (pcd_fz pd_int pcd_nil))) (fun _ _ => rfl)))
  (pbd_one (psd_expr (pd_mt 4 mt_append cm_append PySem.F.slot_list_append PySem.F.type_list_append (pfd_cons (pd_tup (pfd_cons (pd_var 6) (pfd_cons (pd_var 7) (pfd_cons (pd_bin op_addA c_add (pd_bin op_sub c_sub (pd_ix ix_seq c_ix (pd_var 3) (pd_var 6) (fun _ _ => rfl)) (pd_ix ix_seq c_ix (pd_var 3) (pd_var 7) (fun _ _ => rfl))) (pd_var 8)) pfd_nil)))) pfd_nil))))))) pbd_nil)))
  (pbd_one (psd_ret (pd_tup (pfd_cons (pd_tup (pfd_cons (pd_var 1) (pfd_cons (pd_callTy call_tuple_of c_tuple rfl T.b_tuple rfl (pad_cons (pd_var 4) pad_nil)) pfd_nil))) (pfd_cons (pd_var 3) pfd_nil))))))))
  unfold t__law_frame t__law_frame_b1
  exact h
theorem dv__law_whole {w : World} {K : PySem.W.Frag} {mg : Str → Option Value} {base : Heap} {cl : Nat → Addr} {j : Nat} {cdv : Value} {f : Addr} {A : Around} {outer : List Env} {s : Shared} {H : Hp} {E : XK} (T : Tx K mg cl) (hr : Room j (A.deeper (envOfC "_law_whole" (defScope s__law_whole) s.heap.objs.size f cdv)))
    : PBD (cxOf (L2.CX PW w) PW w K mg base N__law_whole "_law_whole" (defScope s__law_whole) f cdv A outer s H E) (fun cls d _ H => E cls d H) (defBody s__law_whole) (t__law_whole cl) := by
  have h : PBD (cxOf (L2.CX PW w) PW w K mg base N__law_whole "_law_whole" (defScope s__law_whole) f cdv A outer s H E) (fun cls d _ H => E cls d H) (defBody s__law_whole) _ := (pbd_one (psd_ret (pd_and (pd_isX [cl 3] ist_int T.xn_int (fun _ => rfl) rfl T.b_isinstance rfl T.b_int rfl (pd_var 0)) (pd_one (pd_not (pd_isX [cl 3] ist_bool T.xn_bool (fun _ => rfl) rfl T.b_isinstance rfl T.b_bool rfl (pd_var 0)))))))
  unfold t__law_whole
  exact h
theorem dv__law_moments {w : World} {K : PySem.W.Frag} {mg : Str → Option Value} {base : Heap} {cl : Nat → Addr} {j : Nat} {cdv : Value} {f : Addr} {A : Around} {outer : List Env} {s : Shared} {H : Hp} {E : XK} (T : Tx K mg cl) (hr : Room j (A.deeper (envOfC "_law_moments" (defScope s__law_moments) s.heap.objs.size f cdv)))
    (F__law_whole : FnC PW w K mg base j "_law_whole" P__law_whole s__law_whole (sp__law_whole cl))
    : PBD (cxOf (L2.CX PW w) PW w K mg base N__law_moments "_law_moments" (defScope s__law_moments) f cdv A outer s H E) (fun cls d _ H => E cls d H) (defBody s__law_moments) (t__law_moments cl) := by
  have h : PBD (cxOf (L2.CX PW w) PW w K mg base N__law_moments "_law_moments" (defScope s__law_moments) f cdv A outer s H E) (fun cls d _ H => E cls d H) (defBody s__law_moments) _ := (pbd_cons (psd_if (PWD.pt (pwd_or (ptd_not (ptd_val (pd_isX [cl 3] ist_tuple T.xn_tuple (fun _ => rfl) rfl T.b_isinstance rfl T.b_tuple rfl (pd_var 1)))) (pwd_or1 (ptd_cmp (op_neD hr.units) c_ne (pd_callB call_len c_len rfl T.b_len rfl (pad_cons (pd_var 1) pad_nil)) (pd_ix ix_seq c_ix (pd_var 0) pd_int (fun _ _ => rfl)) (nomark _))))) (pbd_one (psd_ret pd_bl)) pbd_nil)
  (pbd_one (psd_ret (pd_and (pd_cmp (op_eqD hr.units) c_eq (pd_lc (own := [("moment", 2)]) rfl sc__law_moments.nd (pid_seq (pd_var 1)) (blkOk_by (N := N__law_moments) (sc := defScope s__law_moments) (own := [("moment", 2)]) (by decide +kernel)) (fun _ => (pgd_name (i := 2) sc__law_moments.nd rfl (by first | exact Or.inl rfl | exact Or.inr rfl))) (fun _ => (ptsd_one (ptd_not (ptd_val (pd_callC takes0 F__law_whole hr (Nat.le_refl _) bp__law_whole rfl (pcd_fz (pd_var 2) pcd_nil)))))) (fun _ => (pd_var 2))) (pd_lst pfd_nil) (nomark _)) (pd_one (pd_cmp (op_eqD hr.units) c_eq (pd_ix ix_seq c_ix (pd_var 1) pd_int (fun _ _ => rfl)) pd_int (nomark _)))))))
  unfold t__law_moments
  exact h
theorem dv__law_says {w : World} {K : PySem.W.Frag} {mg : Str → Option Value} {base : Heap} {cl : Nat → Addr} {j : Nat} {cdv : Value} {f : Addr} {A : Around} {outer : List Env} {s : Shared} {H : Hp} {E : XK} (T : Tx K mg cl) (hr : Room j (A.deeper (envOfC "_law_says" (defScope s__law_says) s.heap.objs.size f cdv)))
    : PBD (cxOf (L2.CX PW w) PW w K mg base N__law_says "_law_says" (defScope s__law_says) f cdv A outer s H E) (fun cls d _ H => E cls d H) (defBody s__law_says) (t__law_says cl) := by
  have h : PBD (cxOf (L2.CX PW w) PW w K mg base N__law_says "_law_says" (defScope s__law_says) f cdv A outer s H E) (fun cls d _ H => E cls d H) (defBody s__law_says) _ := (pbd_one (psd_ret (pd_and (pd_isX [cl 3] ist_bool T.xn_bool (fun _ => rfl) rfl T.b_isinstance rfl T.b_bool rfl (pd_var 0)) (pd_one (pd_cmp (op_eqD hr.units) c_eq (pd_var 0) (pd_var 1) (nomark _))))))
  unfold t__law_says
  exact h
theorem dv__law_broken {w : World} {K : PySem.W.Frag} {mg : Str → Option Value} {base : Heap} {cl : Nat → Addr} {j : Nat} {cdv : Value} {f : Addr} {A : Around} {outer : List Env} {s : Shared} {H : Hp} {E : XK} (T : Tx K mg cl) (hr : Room j (A.deeper (envOfC "_law_broken" (defScope s__law_broken) s.heap.objs.size f cdv)))
    : PBD (cxOf (L2.CX PW w) PW w K mg base N__law_broken "_law_broken" (defScope s__law_broken) f cdv A outer s H E) (fun cls d _ H => E cls d H) (defBody s__law_broken) (t__law_broken cl) := by
  have h : PBD (cxOf (L2.CX PW w) PW w K mg base N__law_broken "_law_broken" (defScope s__law_broken) f cdv A outer s H E) (fun cls d _ H => E cls d H) (defBody s__law_broken) _ := (pbd_cons (psd_for (passes_of rfl) rfl (pid_range1 rfl T.b_range (pad_cons (pd_callB call_len c_len rfl T.b_len rfl (pad_cons (pd_ix ix_seq c_ix (pd_var 0) pd_int (fun _ _ => rfl)) pad_nil)) pad_nil)) (pgd_name (i := 2) sc__law_broken.nd rfl (by first | exact Or.inl rfl | exact Or.inr rfl)) (pbd_cons (psd_asg (pd_ix ix_seq c_ix (pd_ix ix_seq c_ix (pd_var 0) pd_int (fun _ _ => rfl)) (pd_var 2) (fun _ _ => rfl)) (pgd_tup rfl (pgsd_cons (pgd_name (i := 3) sc__law_broken.nd rfl (by first | exact Or.inl rfl | exact Or.inr rfl)) (pgsd_cons (pgd_name (i := 4) sc__law_broken.nd rfl (by first | exact Or.inl rfl | exact Or.inr rfl)) (pgsd_cons (pgd_name (i := 5) sc__law_broken.nd rfl (by first | exact Or.inl rfl | exact Or.inr rfl)) pgsd_nil))) (gs_lenS (gs_lenS (gs_lenS gs_len0)))))
  (pbd_one (psd_if (ptd_cmp op_gt c_gt (pd_bin op_sub c_sub (pd_ix ix_seq c_ix (pd_var 1) (pd_var 3) (fun _ _ => rfl)) (pd_ix ix_seq c_ix (pd_var 1) (pd_var 4) (fun _ _ => rfl))) (pd_var 5) (nomark _)) (pbd_one (psd_ret (pd_var 2))) pbd_nil))))
  (pbd_one (psd_ret pd_non)))
  unfold t__law_broken t__law_broken_b1
  exact h
theorem dv__law_near {w : World} {K : PySem.W.Frag} {mg : Str → Option Value} {base : Heap} {cl : Nat → Addr} {j : Nat} {cdv : Value} {f : Addr} {A : Around} {outer : List Env} {s : Shared} {H : Hp} {E : XK} (T : Tx K mg cl) (hr : Room j (A.deeper (envOfC "_law_near" (defScope s__law_near) s.heap.objs.size f cdv)))
    (F__law_pick : FnC PW w K mg base j "_law_pick" P__law_pick s__law_pick (sp__law_pick cl))
    (F__law_reach : FnC PW w K mg base j "_law_reach" P__law_reach s__law_reach (sp__law_reach cl))
    : PBD (cxOf (L2.CX PW w) PW w K mg base N__law_near "_law_near" (defScope s__law_near) f cdv A outer s H E) (fun cls d _ H => E cls d H) (defBody s__law_near) (t__law_near cl) := by
  have h : PBD (cxOf (L2.CX PW w) PW w K mg base N__law_near "_law_near" (defScope s__law_near) f cdv A outer s H E) (fun cls d _ H => E cls d H) (defBody s__law_near) _ := (pbd_cons (psd_set 3 sc__law_near.nd (pd_callTy call_list_of c_list rfl T.b_list rfl (pad_cons (pd_var 2) pad_nil)))
  (pbd_cons (psd_for (passes_of rfl) rfl (pid_range1 rfl T.b_range (pad_cons (pd_callC (takes_of rfl rfl rfl rfl) F__law_pick hr (Nat.le_refl _) bp__law_pick rfl (pcd_bw (pd_var 0) (pcd_fz pd_int pcd_nil))) pad_nil)) (pgd_name (i := 4) sc__law_near.nd rfl (by first | exact Or.inl rfl | exact Or.inr rfl)) (pbd_one (psd_if (ptd_cmp op_gt c_gt (pd_ix ix_seq c_ix (pd_var 1) pd_int (fun _ _ => rfl)) pd_int (nomark _)) (pbd_cons (psd_set 5 sc__law_near.nd (pd_bin op_addA c_add pd_int (pd_callC (takes_of rfl rfl rfl rfl) F__law_pick hr (Nat.le_refl _) bp__law_pick rfl (pcd_bw (pd_var 0) (pcd_fz (pd_bin op_sub c_sub (pd_ix ix_seq c_ix (pd_var 1) pd_int (fun _ _ => rfl)) pd_int) pcd_nil)))))
  (pbd_one (psd_st 3 (pd_bin op_addA c_add (pd_ix ix_seq c_ix (pd_var 3) (pd_var 5) (fun _ _ => rfl)) (pd_ix ix_seq c_ix (pd_lst (pfd_cons pd_int (pfd_cons (pd_un un_neg c_neg pd_int) (pfd_cons (pd_bin op_sub c_sub (pd_callC (takes_of rfl rfl rfl rfl) F__law_pick hr (Nat.le_refl _) bp__law_pick rfl (pcd_bw (pd_var 0) (pcd_fz pd_int pcd_nil))) pd_int) (pfd_cons (pd_callC (takes_of rfl rfl rfl rfl) F__law_reach hr (Nat.le_refl _) bp__law_reach rfl (pcd_bw (pd_var 0) pcd_nil)) pfd_nil))))) (pd_callC (takes_of rfl rfl rfl rfl) F__law_pick hr (Nat.le_refl _) bp__law_pick rfl (pcd_bw (pd_var 0) (pcd_fz pd_int pcd_nil))) (fun _ _ => rfl))) (pd_var 5)))) pbd_nil)))
  (pbd_one (psd_ret (pd_callTy call_tuple_of c_tuple rfl T.b_tuple rfl (pad_cons (pd_var 3) pad_nil))))))
  unfold t__law_near t__law_near_b1
  exact h
theorem dv__law_odd {w : World} {K : PySem.W.Frag} {mg : Str → Option Value} {base : Heap} {cl : Nat → Addr} {j : Nat} {cdv : Value} {f : Addr} {A : Around} {outer : List Env} {s : Shared} {H : Hp} {E : XK} (T : Tx K mg cl) (hr : Room j (A.deeper (envOfC "_law_odd" (defScope s__law_odd) s.heap.objs.size f cdv)))
    (F__law_pick : FnC PW w K mg base j "_law_pick" P__law_pick s__law_pick (sp__law_pick cl))
    : PBD (cxOf (L2.CX PW w) PW w K mg base N__law_odd "_law_odd" (defScope s__law_odd) f cdv A outer s H E) (fun cls d _ H => E cls d H) (defBody s__law_odd) (t__law_odd cl) := by
  have h : PBD (cxOf (L2.CX PW w) PW w K mg base N__law_odd "_law_odd" (defScope s__law_odd) f cdv A outer s H E) (fun cls d _ H => E cls d H) (defBody s__law_odd) _ := (pbd_cons (psd_set 2 sc__law_odd.nd (pd_callC (takes_of rfl rfl rfl rfl) F__law_pick hr (Nat.le_refl _) bp__law_pick rfl (pcd_bw (pd_var 0) (pcd_fz (pd_callB call_len c_len rfl T.b_len rfl (pad_cons (pd_var 1) pad_nil)) pcd_nil))))
  (pbd_cons (psd_set 3 sc__law_odd.nd (pd_ix ix_seq c_ix (pd_lst (pfd_cons pd_bl (pfd_cons pd_bl (pfd_cons pd_non (pfd_cons pd_str (pfd_cons (pd_tup (pfd_cons pd_int pfd_nil)) (pfd_cons (pd_lst (pfd_cons pd_int pfd_nil)) pfd_nil))))))) (pd_callC (takes_of rfl rfl rfl rfl) F__law_pick hr (Nat.le_refl _) bp__law_pick rfl (pcd_bw (pd_var 0) (pcd_fz pd_int pcd_nil))) (fun _ _ => rfl)))
  (pbd_cons (psd_set 4 sc__law_odd.nd (pd_callC (takes_of rfl rfl rfl rfl) F__law_pick hr (Nat.le_refl _) bp__law_pick rfl (pcd_bw (pd_var 0) (pcd_fz pd_int pcd_nil))))
  (pbd_cons (psd_if (ptd_cmp op_lt c_lt (pd_var 4) pd_int (nomark _)) (pbd_one (psd_ret (pd_bin op_addA c_add (pd_bin op_addA c_add (pd_slice (pd_var 1) pod_none (pod_some (pd_var 2))) (pd_tup (pfd_cons (pd_var 3) pfd_nil))) (pd_slice (pd_var 1) (pod_some (pd_bin op_addA c_add (pd_var 2) pd_int)) pod_none)))) pbd_nil)
  (pbd_cons (psd_set 5 sc__law_odd.nd (pd_lst (pfd_cons (pd_callTy call_list_of c_list rfl T.b_list rfl (pad_cons (pd_var 1) pad_nil)) (pfd_cons (pd_bin op_addA c_add (pd_var 1) (pd_tup (pfd_cons pd_int pfd_nil))) (pfd_cons (pd_slice (pd_var 1) (pod_some pd_int) pod_none) (pfd_cons (pd_bin op_addA c_add (pd_tup (pfd_cons pd_int pfd_nil)) (pd_slice (pd_var 1) (pod_some pd_int) pod_none)) (pfd_cons pd_non (pfd_cons pd_str (pfd_cons pd_int (pfd_cons pd_bl (pfd_cons (pd_tup pfd_nil) (pfd_cons (pd_lst (pfd_cons (pd_var 1) pfd_nil)) pfd_nil))))))))))))
  (pbd_one (psd_ret (pd_ix ix_seq c_ix (pd_bin op_addA c_add (pd_var 5) (pd_lst (pfd_cons (pd_exc (T.x_EndlessWorlds) rfl pd_str) (pfd_cons (pd_bin op_mulS c_mulS pd_str (pd_callB call_len c_len rfl T.b_len rfl (pad_cons (pd_var 1) pad_nil))) pfd_nil)))) (pd_callC (takes_of rfl rfl rfl rfl) F__law_pick hr (Nat.le_refl _) bp__law_pick rfl (pcd_bw (pd_var 0) (pcd_fz pd_int pcd_nil))) (fun _ _ => rfl)))))))))
  unfold t__law_odd
  exact h
theorem dv__law_right {w : World} {K : PySem.W.Frag} {mg : Str → Option Value} {base : Heap} {cl : Nat → Addr} {j : Nat} {cdv : Value} {f : Addr} {A : Around} {outer : List Env} {s : Shared} {H : Hp} {E : XK} (T : Tx K mg cl) (hr : Room j (A.deeper (envOfC "_law_right" (defScope s__law_right) s.heap.objs.size f cdv)))
    (F_first_broken : FnC PW w K mg base j "first_broken" P_first_broken s_first_broken (sp_first_broken cl))
    (F_is_world : FnC PW w K mg base j "is_world" P_is_world s_is_world (sp_is_world cl))
    (F__law_pick : FnC PW w K mg base j "_law_pick" P__law_pick s__law_pick (sp__law_pick cl))
    (F__law_says : FnC PW w K mg base j "_law_says" P__law_says s__law_says (sp__law_says cl))
    (F__law_whole : FnC PW w K mg base j "_law_whole" P__law_whole s__law_whole (sp__law_whole cl))
    (F__law_broken : FnC PW w K mg base j "_law_broken" P__law_broken s__law_broken (sp__law_broken cl))
    (F__law_near : FnC PW w K mg base j "_law_near" P__law_near s__law_near (sp__law_near cl))
    (F__law_moments : FnC PW w K mg base j "_law_moments" P__law_moments s__law_moments (sp__law_moments cl))
    (F__law_odd : FnC PW w K mg base j "_law_odd" P__law_odd s__law_odd (sp__law_odd cl))
    (F__law_frame : FnC PW w K mg base j "_law_frame" P__law_frame s__law_frame (sp__law_frame cl))
    : PBD (cxOf (L2.CX PW w) PW w K mg base N__law_right "_law_right" (defScope s__law_right) f cdv A outer s H E) (fun cls d _ H => E cls d H) (defBody s__law_right) (t__law_right cl) := by
  have h : PBD (cxOf (L2.CX PW w) PW w K mg base N__law_right "_law_right" (defScope s__law_right) f cdv A outer s H E) (fun cls d _ H => E cls d H) (defBody s__law_right) _ := (pbd_cons (psd_set 1 sc__law_right.nd (pd_callTy call_int1 c_int rfl T.b_int rfl (pad_cons (pd_cmp (op_eqD hr.units) c_eq (pd_callC (takes_of rfl rfl rfl rfl) F__law_pick hr (Nat.le_refl _) bp__law_pick rfl (pcd_bw (pd_var 0) (pcd_fz pd_int pcd_nil))) pd_int (nomark _)) pad_nil)))
  (pbd_cons (psd_asg (pd_callC (takes_of rfl rfl rfl rfl) F__law_frame hr (Nat.le_refl _) bp__law_frame rfl (pcd_bw (pd_var 0) (pcd_fz (pd_bin op_addA c_add pd_int (pd_callC (takes_of rfl rfl rfl rfl) F__law_pick hr (Nat.le_refl _) bp__law_pick rfl (pcd_bw (pd_var 0) (pcd_fz (pd_ix ix_seq c_ix (pd_lst (pfd_cons pd_int (pfd_cons pd_int pfd_nil))) (pd_var 1) (fun _ _ => rfl)) pcd_nil)))) (pcd_fz (pd_ix ix_seq c_ix (pd_lst (pfd_cons pd_int (pfd_cons pd_int pfd_nil))) (pd_var 1) (fun _ _ => rfl)) pcd_nil)))) (pgd_tup rfl (pgsd_cons (pgd_name (i := 4) sc__law_right.nd rfl (by first | exact Or.inl rfl | exact Or.inr rfl)) (pgsd_cons (pgd_name (i := 5) sc__law_right.nd rfl (by first | exact Or.inl rfl | exact Or.inr rfl)) pgsd_nil)) (gs_lenS (gs_lenS gs_len0))))
  (pbd_cons (psd_for (passes_of rfl) rfl (pid_range1 rfl T.b_range (pad_cons pd_int pad_nil)) (pgd_name (i := 2) sc__law_right.nd rfl (by first | exact Or.inl rfl | exact Or.inr rfl)) (pbd_cons (psd_if (PWD.pt (pwd_or (ptd_cmp op_notBl c_notB (pd_callKw [1, 0] (takes_of rfl rfl rfl rfl) F_is_world hr (Nat.le_refl _) bk_is_world_1_0 rfl (pkd_cons (pd_var 5) (pkd_cons (pd_var 4) pkd_nil)) (fun l hl => match l, hl with | [_, _], _ => rfl)) pd_bl (nomark _)) (pwd_or1 (ptd_cmp op_notN c_notN (pd_callKw [1, 0] (takes_of rfl rfl rfl rfl) F_first_broken hr (Nat.le_refl _) bk_first_broken_1_0 rfl (pkd_cons (pd_var 5) (pkd_cons (pd_var 4) pkd_nil)) (fun l hl => match l, hl with | [_, _], _ => rfl)) pd_non (nomark _))))) (pbd_one (psd_ret pd_bl)) pbd_nil)
  (pbd_one (psd_if (ptd_cmp op_gt c_gt (pd_callC (takes_of rfl rfl rfl rfl) F__law_pick hr (Nat.le_refl _) bp__law_pick rfl (pcd_bw (pd_var 0) (pcd_fz pd_int pcd_nil))) pd_int (nomark _)) (pbd_cons (psd_set 6 sc__law_right.nd (pd_callC (takes_of rfl rfl rfl rfl) F__law_near hr (Nat.le_refl _) bp__law_near rfl (pcd_bw (pd_var 0) (pcd_fz (pd_var 4) (pcd_fz (pd_var 5) pcd_nil)))))
  (pbd_cons (psd_set 7 sc__law_right.nd (pd_callC (takes_of rfl rfl rfl rfl) F__law_broken hr (Nat.le_refl _) bp__law_broken rfl (pcd_fz (pd_var 4) (pcd_fz (pd_var 6) pcd_nil))))
  (pbd_cons (psd_set 8 sc__law_right.nd (pd_callC (takes_of rfl rfl rfl rfl) F_first_broken hr (Nat.le_refl _) bp_first_broken rfl (pcd_fz (pd_var 4) (pcd_fz (pd_var 6) pcd_nil))))
  (pbd_cons (psd_if (PWD.pt (pwd_or (ptd_cmp (op_neD hr.units) c_ne (pd_var 8) (pd_var 7) (nomark _)) (pwd_or1 (PWD.pt (pwd_and (ptd_cmp op_notN c_notN (pd_var 8) pd_non (nomark _)) (pwd_and1 (ptd_not (ptd_val (pd_callC (takes_of rfl rfl rfl rfl) F__law_whole hr (Nat.le_refl _) bp__law_whole rfl (pcd_fz (pd_var 8) pcd_nil)))))))))) (pbd_one (psd_ret pd_bl)) pbd_nil)
  (pbd_one (psd_if (ptd_not (ptd_val (pd_callC (takes_of rfl rfl rfl rfl) F__law_says hr (Nat.le_refl _) bp__law_says rfl (pcd_fz (pd_callC (takes_of rfl rfl rfl rfl) F_is_world hr (Nat.le_refl _) bp_is_world rfl (pcd_fz (pd_var 4) (pcd_fz (pd_var 6) pcd_nil))) (pcd_fz (pd_cmp op_isN c_isN (pd_var 7) pd_non (nomark _)) pcd_nil))))) (pbd_one (psd_ret pd_bl)) pbd_nil)))))) (pbd_cons (psd_set 6 sc__law_right.nd (pd_callC (takes_of rfl rfl rfl rfl) F__law_odd hr (Nat.le_refl _) bp__law_odd rfl (pcd_bw (pd_var 0) (pcd_fz (pd_var 5) pcd_nil))))
  (pbd_cons (psd_set 7 sc__law_right.nd (pd_and (pd_callC (takes_of rfl rfl rfl rfl) F__law_moments hr (Nat.le_refl _) bp__law_moments rfl (pcd_fz (pd_var 4) (pcd_fz (pd_var 6) pcd_nil))) (pd_one (pd_cmp op_isN c_isN (pd_callC (takes_of rfl rfl rfl rfl) F__law_broken hr (Nat.le_refl _) bp__law_broken rfl (pcd_fz (pd_var 4) (pcd_fz (pd_var 6) pcd_nil))) pd_non (nomark _)))))
  (pbd_one (psd_if (ptd_not (ptd_val (pd_callC (takes_of rfl rfl rfl rfl) F__law_says hr (Nat.le_refl _) bp__law_says rfl (pcd_fz (pd_callC (takes_of rfl rfl rfl rfl) F_is_world hr (Nat.le_refl _) bp_is_world rfl (pcd_fz (pd_var 4) (pcd_fz (pd_var 6) pcd_nil))) (pcd_fz (pd_var 7) pcd_nil))))) (pbd_one (psd_ret pd_bl)) pbd_nil))))))))
  (pbd_cons (psd_set 3 sc__law_right.nd (pd_tup (pfd_cons (pd_bin op_addA c_add (pd_ix ix_seq c_ix (pd_var 4) pd_int (fun _ _ => rfl)) pd_int) (pfd_cons (pd_bin op_addA c_add (pd_ix ix_seq c_ix (pd_var 4) pd_int (fun _ _ => rfl)) (pd_tup (pfd_cons (pd_tup (pfd_cons (pd_ix ix_seq c_ix (pd_var 4) pd_int (fun _ _ => rfl)) (pfd_cons pd_int (pfd_cons pd_int pfd_nil)))) (pfd_cons (pd_tup (pfd_cons pd_int (pfd_cons (pd_ix ix_seq c_ix (pd_var 4) pd_int (fun _ _ => rfl)) (pfd_cons (pd_un un_neg c_neg pd_int) pfd_nil)))) pfd_nil)))) pfd_nil))))
  (pbd_one (psd_ret (pd_and (pd_cmp op_isBl c_isB (pd_callC (takes_of rfl rfl rfl rfl) F_is_world hr (Nat.le_refl _) bp_is_world rfl (pcd_fz (pd_var 3) (pcd_fz (pd_bin op_addA c_add (pd_var 5) (pd_tup (pfd_cons pd_int pfd_nil))) pcd_nil))) pd_bl (nomark _)) (pd_one (pd_cmp (op_eqD hr.units) c_eq (pd_callC (takes_of rfl rfl rfl rfl) F_first_broken hr (Nat.le_refl _) bp_first_broken rfl (pcd_fz (pd_var 3) (pcd_fz (pd_bin op_addA c_add (pd_var 5) (pd_tup (pfd_cons pd_int pfd_nil))) pcd_nil))) (pd_callB call_len c_len rfl T.b_len rfl (pad_cons (pd_ix ix_seq c_ix (pd_var 4) pd_int (fun _ _ => rfl)) pad_nil)) (nomark _))))))))))
  unfold t__law_right t__law_right_b1
  exact h
theorem dv_law {w : World} {K : PySem.W.Frag} {mg : Str → Option Value} {base : Heap} {cl : Nat → Addr} {j : Nat} {cdv : Value} {f : Addr} {A : Around} {outer : List Env} {s : Shared} {H : Hp} {E : XK} (T : Tx K mg cl) (hr : Room j (A.deeper (envOfC "law" (defScope s_law) s.heap.objs.size f cdv)))
    (F__law_right : FnC PW w K mg base j "_law_right" P__law_right s__law_right (sp__law_right cl))
    (F__law_urn : FnC PW w K mg base j "_law_urn" P__law_urn s__law_urn (sp__law_urn cl))
    : PBD (cxOf (L2.CX PW w) PW w K mg base N_law "law" (defScope s_law) f cdv A outer s H E) (fun cls d _ H => E cls d H) (defBody s_law) (t_law cl) := by
  have h : PBD (cxOf (L2.CX PW w) PW w K mg base N_law "law" (defScope s_law) f cdv A outer s H E) (fun cls d _ H => E cls d H) (defBody s_law) _ := (pbd_cons (psd_for (passes_of rfl) rfl (pid_range1 rfl T.b_range (pad_cons (pd_callB (cr_maxA rfl) c_max rfl T.b_max rfl (pad_cons pd_int (pad_cons (pd_callB (cr_minA rfl) c_min rfl T.b_min rfl (pad_cons pd_int (pad_cons (pd_callB call_len c_len rfl T.b_len rfl (pad_cons (pd_var 0) pad_nil)) pad_nil))) pad_nil))) pad_nil)) (pgd_name (i := 1) sc_law.nd rfl (by first | exact Or.inl rfl | exact Or.inr rfl)) (pbd_one (psd_if (ptd_not (ptd_val (pd_callC (takes_of rfl rfl rfl rfl) F__law_right hr (Nat.le_refl _) bp__law_right rfl (pcd_ow (pd_callC (takes_of rfl rfl rfl rfl) F__law_urn hr (Nat.le_refl _) bp__law_urn rfl (pcd_fz (pd_var 0) (pcd_fz (pd_var 1) pcd_nil))))))) (pbd_one (psd_ret pd_bl)) pbd_nil)))
  (pbd_one (psd_ret pd_bl)))
  unfold t_law t_law_b1
  exact h
end T08
set_option Elab.async false
set_option linter.all false
set_option maxRecDepth 100000
set_option maxHeartbeats 2000000
namespace T08
open PySem PySem.Spec PyProof.Rows L2 DL
theorem rd_is_integer (cl : Nat → Addr) (as ad) (hp : (sp_is_integer cl).pre as) : t_is_integer cl (endsOf (sp_is_integer cl) as ad) (startS as ad 0 ++ List.replicate 0 .nil) := by
  obtain ⟨d, rfl, hd⟩ := hp
  show t_is_integer cl (endsOf _ _ _) [.fz d]
  unfold t_is_integer
  cases d with
  | dict k =>
    (with_reducible conv => whnf)
    refine ⟨hd, ?_⟩
    ((with_reducible conv => whnf); repeat (first | ((with_reducible refine xT ?_ ?_); (· exact rfl); (with_reducible conv => whnf)) | ((with_reducible refine xF ?_ ?_); (· exact rfl); (with_reducible conv => whnf)) | ((with_reducible apply xE); (· exact rfl); (with_reducible conv => whnf)) | ((with_reducible refine And.intro ?_ ?_); (· (first | exact rfl | exact trivial | exact sh_int _ | exact sh_bool _ | ((try dsimp only [Int.reduceToNat]); first | omega | (refine mulw ?_ ?_ ?_ ?_ <;> omega) | (refine divw ?_ ?_ <;> omega) | (refine poww ?_ ?_ ?_ ?_ <;> omega) | (refine divp ?_ ?_ ?_ <;> omega) | (have := szl; simp only [List.length_append, List.length_cons, List.length_nil, List.length_map, List.length_range]; omega) | decide))); (with_reducible conv => whnf))))
    intro d e; cases e; exact ⟨rfl, rfl⟩
  | _ =>
    ((with_reducible conv => whnf); repeat (first | ((with_reducible refine xT ?_ ?_); (· exact rfl); (with_reducible conv => whnf)) | ((with_reducible refine xF ?_ ?_); (· exact rfl); (with_reducible conv => whnf)) | ((with_reducible apply xE); (· exact rfl); (with_reducible conv => whnf)) | ((with_reducible refine And.intro ?_ ?_); (· (first | exact rfl | exact trivial | exact sh_int _ | exact sh_bool _ | ((try dsimp only [Int.reduceToNat]); first | omega | (refine mulw ?_ ?_ ?_ ?_ <;> omega) | (refine divw ?_ ?_ <;> omega) | (refine poww ?_ ?_ ?_ ?_ <;> omega) | (refine divp ?_ ?_ ?_ <;> omega) | (have := szl; simp only [List.length_append, List.length_cons, List.length_nil, List.length_map, List.length_range]; omega) | decide))); (with_reducible conv => whnf))))
    intro d e; cases e; exact ⟨rfl, rfl⟩
theorem rd_is_from (cl : Nat → Addr) (as ad) (hp : (sp_is_from cl).pre as) : t_is_from cl (endsOf (sp_is_from cl) as ad) (startS as ad 0 ++ List.replicate 0 .nil) := by
  obtain ⟨l, i, rfl⟩ := hp
  show t_is_from cl (endsOf _ _ _) [.fz (.int l), .fz (.int i)]
  unfold t_is_from
  ((with_reducible conv => whnf); repeat (first | ((with_reducible refine xT ?_ ?_); (· exact rfl); (with_reducible conv => whnf)) | ((with_reducible refine xF ?_ ?_); (· exact rfl); (with_reducible conv => whnf)) | ((with_reducible apply xE); (· exact rfl); (with_reducible conv => whnf)) | ((with_reducible refine And.intro ?_ ?_); (· (first | exact rfl | exact trivial | exact sh_int _ | exact sh_bool _ | ((try dsimp only [Int.reduceToNat]); first | omega | (refine mulw ?_ ?_ ?_ ?_ <;> omega) | (refine divw ?_ ?_ <;> omega) | (refine poww ?_ ?_ ?_ ?_ <;> omega) | (refine divp ?_ ?_ ?_ <;> omega) | (have := szl; simp only [List.length_append, List.length_cons, List.length_nil, List.length_map, List.length_range]; omega) | decide))); (with_reducible conv => whnf))))
  refine ⟨⟨_, rfl, trivial⟩, fun r as' hp => ?_, fun C as' hx => False.elim hx⟩
  obtain ⟨rfl, rfl⟩ := hp _ rfl; clear hp; (try (generalize hρ : DL.backA _ _ _ = ρ'; dsimp only [DL.setS, DL.getS, DL.backA, DL.toPw, DL.RR.vr, DL.RR.sl, DL.nils, DL.wrL, List.set, Int.reduceToNat] at hρ; subst hρ)); ((with_reducible conv => whnf); repeat (first | ((with_reducible refine xT ?_ ?_); (· exact rfl); (with_reducible conv => whnf)) | ((with_reducible refine xF ?_ ?_); (· exact rfl); (with_reducible conv => whnf)) | ((with_reducible apply xE); (· exact rfl); (with_reducible conv => whnf)) | ((with_reducible refine And.intro ?_ ?_); (· (first | exact rfl | exact trivial | exact sh_int _ | exact sh_bool _ | ((try dsimp only [Int.reduceToNat]); first | omega | (refine mulw ?_ ?_ ?_ ?_ <;> omega) | (refine divw ?_ ?_ <;> omega) | (refine poww ?_ ?_ ?_ ?_ <;> omega) | (refine divp ?_ ?_ ?_ <;> omega) | (have := szl; simp only [List.length_append, List.length_cons, List.length_nil, List.length_map, List.length_range]; omega) | decide))); (with_reducible conv => whnf))))
  intro l i e; cases e; exact ⟨rfl, rfl⟩
theorem rd_is_between (cl : Nat → Addr) (as ad) (hp : (sp_is_between cl).pre as) : t_is_between cl (endsOf (sp_is_between cl) as ad) (startS as ad 0 ++ List.replicate 0 .nil) := by
  obtain ⟨l, i, h, rfl⟩ := hp
  show t_is_between cl (endsOf _ _ _) [.fz (.int l), .fz (.int i), .fz (.int h)]
  unfold t_is_between
  ((with_reducible conv => whnf); repeat (first | ((with_reducible refine xT ?_ ?_); (· exact rfl); (with_reducible conv => whnf)) | ((with_reducible refine xF ?_ ?_); (· exact rfl); (with_reducible conv => whnf)) | ((with_reducible apply xE); (· exact rfl); (with_reducible conv => whnf)) | ((with_reducible refine And.intro ?_ ?_); (· (first | exact rfl | exact trivial | exact sh_int _ | exact sh_bool _ | ((try dsimp only [Int.reduceToNat]); first | omega | (refine mulw ?_ ?_ ?_ ?_ <;> omega) | (refine divw ?_ ?_ <;> omega) | (refine poww ?_ ?_ ?_ ?_ <;> omega) | (refine divp ?_ ?_ ?_ <;> omega) | (have := szl; simp only [List.length_append, List.length_cons, List.length_nil, List.length_map, List.length_range]; omega) | decide))); (with_reducible conv => whnf))))
  refine ⟨⟨_, rfl, trivial⟩, fun r as' hp => ?_, fun C as' hx => False.elim hx⟩
  obtain ⟨rfl, rfl⟩ := hp _ rfl; clear hp; (try (generalize hρ : DL.backA _ _ _ = ρ'; dsimp only [DL.setS, DL.getS, DL.backA, DL.toPw, DL.RR.vr, DL.RR.sl, DL.nils, DL.wrL, List.set, Int.reduceToNat] at hρ; subst hρ)); ((with_reducible conv => whnf); repeat (first | ((with_reducible refine xT ?_ ?_); (· exact rfl); (with_reducible conv => whnf)) | ((with_reducible refine xF ?_ ?_); (· exact rfl); (with_reducible conv => whnf)) | ((with_reducible apply xE); (· exact rfl); (with_reducible conv => whnf)) | ((with_reducible refine And.intro ?_ ?_); (· (first | exact rfl | exact trivial | exact sh_int _ | exact sh_bool _ | ((try dsimp only [Int.reduceToNat]); first | omega | (refine mulw ?_ ?_ ?_ ?_ <;> omega) | (refine divw ?_ ?_ <;> omega) | (refine poww ?_ ?_ ?_ ?_ <;> omega) | (refine divp ?_ ?_ ?_ <;> omega) | (have := szl; simp only [List.length_append, List.length_cons, List.length_nil, List.length_map, List.length_range]; omega) | decide))); (with_reducible conv => whnf))))
  refine xBd (fun h1 => ?_) (fun h1 => ?_)
  · ((with_reducible conv => whnf); repeat (first | ((with_reducible refine xT ?_ ?_); (· exact rfl); (with_reducible conv => whnf)) | ((with_reducible refine xF ?_ ?_); (· exact rfl); (with_reducible conv => whnf)) | ((with_reducible apply xE); (· exact rfl); (with_reducible conv => whnf)) | ((with_reducible refine And.intro ?_ ?_); (· (first | exact rfl | exact trivial | exact sh_int _ | exact sh_bool _ | ((try dsimp only [Int.reduceToNat]); first | omega | (refine mulw ?_ ?_ ?_ ?_ <;> omega) | (refine divw ?_ ?_ <;> omega) | (refine poww ?_ ?_ ?_ ?_ <;> omega) | (refine divp ?_ ?_ ?_ <;> omega) | (have := szl; simp only [List.length_append, List.length_cons, List.length_nil, List.length_map, List.length_range]; omega) | decide))); (with_reducible conv => whnf))))
    intro l i h e; cases e
    have e : decide (l ≤ i ∧ i ≤ h) = decide (i ≤ h) := decide_eq_decide.mpr ⟨fun z => z.2, fun z => ⟨h1, z⟩⟩
    exact ⟨rfl, by rw [e]⟩
  · ((with_reducible conv => whnf); repeat (first | ((with_reducible refine xT ?_ ?_); (· exact rfl); (with_reducible conv => whnf)) | ((with_reducible refine xF ?_ ?_); (· exact rfl); (with_reducible conv => whnf)) | ((with_reducible apply xE); (· exact rfl); (with_reducible conv => whnf)) | ((with_reducible refine And.intro ?_ ?_); (· (first | exact rfl | exact trivial | exact sh_int _ | exact sh_bool _ | ((try dsimp only [Int.reduceToNat]); first | omega | (refine mulw ?_ ?_ ?_ ?_ <;> omega) | (refine divw ?_ ?_ <;> omega) | (refine poww ?_ ?_ ?_ ?_ <;> omega) | (refine divp ?_ ?_ ?_ <;> omega) | (have := szl; simp only [List.length_append, List.length_cons, List.length_nil, List.length_map, List.length_range]; omega) | decide))); (with_reducible conv => whnf))))
    intro l i h e; cases e
    refine ⟨rfl, ?_⟩
    rw [decide_eq_false (fun z => h1 z.1)]
theorem rd_is_index (cl : Nat → Addr) (as ad) (hp : (sp_is_index cl).pre as) : t_is_index cl (endsOf (sp_is_index cl) as ad) (startS as ad 0 ++ List.replicate 0 .nil) := by
  obtain ⟨n, i, rfl⟩ := hp
  show t_is_index cl (endsOf _ _ _) [.fz (.int n), .fz (.int i)]
  unfold t_is_index
  ((with_reducible conv => whnf); repeat (first | ((with_reducible refine xT ?_ ?_); (· exact rfl); (with_reducible conv => whnf)) | ((with_reducible refine xF ?_ ?_); (· exact rfl); (with_reducible conv => whnf)) | ((with_reducible apply xE); (· exact rfl); (with_reducible conv => whnf)) | ((with_reducible refine And.intro ?_ ?_); (· (first | exact rfl | exact trivial | exact sh_int _ | exact sh_bool _ | ((try dsimp only [Int.reduceToNat]); first | omega | (refine mulw ?_ ?_ ?_ ?_ <;> omega) | (refine divw ?_ ?_ <;> omega) | (refine poww ?_ ?_ ?_ ?_ <;> omega) | (refine divp ?_ ?_ ?_ <;> omega) | (have := szl; simp only [List.length_append, List.length_cons, List.length_nil, List.length_map, List.length_range]; omega) | decide))); (with_reducible conv => whnf))))
  refine ⟨⟨_, _, _, rfl⟩, fun r as' hp => ?_, fun C as' hx => False.elim hx⟩
  obtain ⟨rfl, rfl⟩ := hp _ _ _ rfl; clear hp; (try (generalize hρ : DL.backA _ _ _ = ρ'; dsimp only [DL.setS, DL.getS, DL.backA, DL.toPw, DL.RR.vr, DL.RR.sl, DL.nils, DL.wrL, List.set, Int.reduceToNat] at hρ; subst hρ)); ((with_reducible conv => whnf); repeat (first | ((with_reducible refine xT ?_ ?_); (· exact rfl); (with_reducible conv => whnf)) | ((with_reducible refine xF ?_ ?_); (· exact rfl); (with_reducible conv => whnf)) | ((with_reducible apply xE); (· exact rfl); (with_reducible conv => whnf)) | ((with_reducible refine And.intro ?_ ?_); (· (first | exact rfl | exact trivial | exact sh_int _ | exact sh_bool _ | ((try dsimp only [Int.reduceToNat]); first | omega | (refine mulw ?_ ?_ ?_ ?_ <;> omega) | (refine divw ?_ ?_ <;> omega) | (refine poww ?_ ?_ ?_ ?_ <;> omega) | (refine divp ?_ ?_ ?_ <;> omega) | (have := szl; simp only [List.length_append, List.length_cons, List.length_nil, List.length_map, List.length_range]; omega) | decide))); (with_reducible conv => whnf))))
  intro n i e; cases e; exact ⟨rfl, rfl⟩
theorem rd_is_bound (cl : Nat → Addr) (as ad) (hp : (sp_is_bound cl).pre as) : t_is_bound cl (endsOf (sp_is_bound cl) as ad) (startS as ad 0 ++ List.replicate 0 .nil) := by
  obtain ⟨n, b, rfl, h1, h2, h3, h4, h5⟩ := hp
  show t_is_bound cl (endsOf _ _ _) [.fz (.int n), .fz (bD b)]
  unfold t_is_bound
  ((with_reducible conv => whnf); repeat (first | ((with_reducible refine xT ?_ ?_); (· exact rfl); (with_reducible conv => whnf)) | ((with_reducible refine xF ?_ ?_); (· exact rfl); (with_reducible conv => whnf)) | ((with_reducible apply xE); (· exact rfl); (with_reducible conv => whnf)) | ((with_reducible refine And.intro ?_ ?_); (· (first | exact rfl | exact trivial | exact sh_int _ | exact sh_bool _ | ((try dsimp only [Int.reduceToNat]); first | omega | (refine mulw ?_ ?_ ?_ ?_ <;> omega) | (refine divw ?_ ?_ <;> omega) | (refine poww ?_ ?_ ?_ ?_ <;> omega) | (refine divp ?_ ?_ ?_ <;> omega) | (have := szl; simp only [List.length_append, List.length_cons, List.length_nil, List.length_map, List.length_range]; omega) | decide))); (with_reducible conv => whnf))))
  refine ⟨⟨_, rfl, trivial⟩, fun r as' hp => ?_, fun C as' hx => False.elim hx⟩
  obtain ⟨rfl, rfl⟩ := hp _ rfl; clear hp; (try (generalize hρ : DL.backA _ _ _ = ρ'; dsimp only [DL.setS, DL.getS, DL.backA, DL.toPw, DL.RR.vr, DL.RR.sl, DL.nils, DL.wrL, List.set, Int.reduceToNat] at hρ; subst hρ)); ((with_reducible conv => whnf); repeat (first | ((with_reducible refine xT ?_ ?_); (· exact rfl); (with_reducible conv => whnf)) | ((with_reducible refine xF ?_ ?_); (· exact rfl); (with_reducible conv => whnf)) | ((with_reducible apply xE); (· exact rfl); (with_reducible conv => whnf)) | ((with_reducible refine And.intro ?_ ?_); (· (first | exact rfl | exact trivial | exact sh_int _ | exact sh_bool _ | ((try dsimp only [Int.reduceToNat]); first | omega | (refine mulw ?_ ?_ ?_ ?_ <;> omega) | (refine divw ?_ ?_ <;> omega) | (refine poww ?_ ?_ ?_ ?_ <;> omega) | (refine divp ?_ ?_ ?_ <;> omega) | (have := szl; simp only [List.length_append, List.length_cons, List.length_nil, List.length_map, List.length_range]; omega) | decide))); (with_reducible conv => whnf))))
  refine ⟨⟨_, _, rfl⟩, fun r as' hp => ?_, fun C as' hx => False.elim hx⟩
  obtain ⟨rfl, rfl⟩ := hp _ _ rfl; clear hp; (try (generalize hρ : DL.backA _ _ _ = ρ'; dsimp only [DL.setS, DL.getS, DL.backA, DL.toPw, DL.RR.vr, DL.RR.sl, DL.nils, DL.wrL, List.set, Int.reduceToNat] at hρ; subst hρ)); ((with_reducible conv => whnf); repeat (first | ((with_reducible refine xT ?_ ?_); (· exact rfl); (with_reducible conv => whnf)) | ((with_reducible refine xF ?_ ?_); (· exact rfl); (with_reducible conv => whnf)) | ((with_reducible apply xE); (· exact rfl); (with_reducible conv => whnf)) | ((with_reducible refine And.intro ?_ ?_); (· (first | exact rfl | exact trivial | exact sh_int _ | exact sh_bool _ | ((try dsimp only [Int.reduceToNat]); first | omega | (refine mulw ?_ ?_ ?_ ?_ <;> omega) | (refine divw ?_ ?_ <;> omega) | (refine poww ?_ ?_ ?_ ?_ <;> omega) | (refine divp ?_ ?_ ?_ <;> omega) | (have := szl; simp only [List.length_append, List.length_cons, List.length_nil, List.length_map, List.length_range]; omega) | decide))); (with_reducible conv => whnf))))
  rw [decide_eq_true (show 0 ≤ b.1 ∧ b.1 ≤ n - 1 from ⟨h1, by omega⟩)]
  ((with_reducible conv => whnf); repeat (first | ((with_reducible refine xT ?_ ?_); (· exact rfl); (with_reducible conv => whnf)) | ((with_reducible refine xF ?_ ?_); (· exact rfl); (with_reducible conv => whnf)) | ((with_reducible apply xE); (· exact rfl); (with_reducible conv => whnf)) | ((with_reducible refine And.intro ?_ ?_); (· (first | exact rfl | exact trivial | exact sh_int _ | exact sh_bool _ | ((try dsimp only [Int.reduceToNat]); first | omega | (refine mulw ?_ ?_ ?_ ?_ <;> omega) | (refine divw ?_ ?_ <;> omega) | (refine poww ?_ ?_ ?_ ?_ <;> omega) | (refine divp ?_ ?_ ?_ <;> omega) | (have := szl; simp only [List.length_append, List.length_cons, List.length_nil, List.length_map, List.length_range]; omega) | decide))); (with_reducible conv => whnf))))
  refine ⟨⟨_, _, rfl⟩, fun r as' hp => ?_, fun C as' hx => False.elim hx⟩
  obtain ⟨rfl, rfl⟩ := hp _ _ rfl; clear hp; (try (generalize hρ : DL.backA _ _ _ = ρ'; dsimp only [DL.setS, DL.getS, DL.backA, DL.toPw, DL.RR.vr, DL.RR.sl, DL.nils, DL.wrL, List.set, Int.reduceToNat] at hρ; subst hρ)); ((with_reducible conv => whnf); repeat (first | ((with_reducible refine xT ?_ ?_); (· exact rfl); (with_reducible conv => whnf)) | ((with_reducible refine xF ?_ ?_); (· exact rfl); (with_reducible conv => whnf)) | ((with_reducible apply xE); (· exact rfl); (with_reducible conv => whnf)) | ((with_reducible refine And.intro ?_ ?_); (· (first | exact rfl | exact trivial | exact sh_int _ | exact sh_bool _ | ((try dsimp only [Int.reduceToNat]); first | omega | (refine mulw ?_ ?_ ?_ ?_ <;> omega) | (refine divw ?_ ?_ <;> omega) | (refine poww ?_ ?_ ?_ ?_ <;> omega) | (refine divp ?_ ?_ ?_ <;> omega) | (have := szl; simp only [List.length_append, List.length_cons, List.length_nil, List.length_map, List.length_range]; omega) | decide))); (with_reducible conv => whnf))))
  rw [decide_eq_true (show 0 ≤ b.2.1 ∧ b.2.1 ≤ n - 1 from ⟨h3, by omega⟩)]
  ((with_reducible conv => whnf); repeat (first | ((with_reducible refine xT ?_ ?_); (· exact rfl); (with_reducible conv => whnf)) | ((with_reducible refine xF ?_ ?_); (· exact rfl); (with_reducible conv => whnf)) | ((with_reducible apply xE); (· exact rfl); (with_reducible conv => whnf)) | ((with_reducible refine And.intro ?_ ?_); (· (first | exact rfl | exact trivial | exact sh_int _ | exact sh_bool _ | ((try dsimp only [Int.reduceToNat]); first | omega | (refine mulw ?_ ?_ ?_ ?_ <;> omega) | (refine divw ?_ ?_ <;> omega) | (refine poww ?_ ?_ ?_ ?_ <;> omega) | (refine divp ?_ ?_ ?_ <;> omega) | (have := szl; simp only [List.length_append, List.length_cons, List.length_nil, List.length_map, List.length_range]; omega) | decide))); (with_reducible conv => whnf))))
  intro n' b' e
  refine ⟨rfl, ?_⟩
  rw [eqv_int, decide_eq_false h5]; rfl
theorem rd_is_system_form (cl : Nat → Addr) (as ad) (hp : (sp_is_system_form cl).pre as) : t_is_system_form cl (endsOf (sp_is_system_form cl) as ad) (startS as ad 0 ++ List.replicate 1 .nil) := by
  obtain ⟨n, bs, rfl, h1, h2, h3, h4⟩ := hp
  show t_is_system_form cl (endsOf _ _ _) [.fz (sysD n bs), .nil]
  unfold t_is_system_form
  ((with_reducible conv => whnf); repeat (first | ((with_reducible refine xT ?_ ?_); (· exact rfl); (with_reducible conv => whnf)) | ((with_reducible refine xF ?_ ?_); (· exact rfl); (with_reducible conv => whnf)) | ((with_reducible apply xE); (· exact rfl); (with_reducible conv => whnf)) | ((with_reducible refine And.intro ?_ ?_); (· (first | exact rfl | exact trivial | exact sh_int _ | exact sh_bool _ | ((try dsimp only [Int.reduceToNat]); first | omega | (refine mulw ?_ ?_ ?_ ?_ <;> omega) | (refine divw ?_ ?_ <;> omega) | (refine poww ?_ ?_ ?_ ?_ <;> omega) | (refine divp ?_ ?_ ?_ <;> omega) | (have := szl; simp only [List.length_append, List.length_cons, List.length_nil, List.length_map, List.length_range]; omega) | decide))); (with_reducible conv => whnf))))
  refine ⟨⟨_, _, rfl⟩, fun r as' hp => ?_, fun C as' hx => False.elim hx⟩
  obtain ⟨rfl, rfl⟩ := hp _ _ rfl; clear hp; (try (generalize hρ : DL.backA _ _ _ = ρ'; dsimp only [DL.setS, DL.getS, DL.backA, DL.toPw, DL.RR.vr, DL.RR.sl, DL.nils, DL.wrL, List.set, Int.reduceToNat] at hρ; subst hρ)); ((with_reducible conv => whnf); repeat (first | ((with_reducible refine xT ?_ ?_); (· exact rfl); (with_reducible conv => whnf)) | ((with_reducible refine xF ?_ ?_); (· exact rfl); (with_reducible conv => whnf)) | ((with_reducible apply xE); (· exact rfl); (with_reducible conv => whnf)) | ((with_reducible refine And.intro ?_ ?_); (· (first | exact rfl | exact trivial | exact sh_int _ | exact sh_bool _ | ((try dsimp only [Int.reduceToNat]); first | omega | (refine mulw ?_ ?_ ?_ ?_ <;> omega) | (refine divw ?_ ?_ <;> omega) | (refine poww ?_ ?_ ?_ ?_ <;> omega) | (refine divp ?_ ?_ ?_ <;> omega) | (have := szl; simp only [List.length_append, List.length_cons, List.length_nil, List.length_map, List.length_range]; omega) | decide))); (with_reducible conv => whnf))))
  rw [decide_eq_true h1]
  ((with_reducible conv => whnf); repeat (first | ((with_reducible refine xT ?_ ?_); (· exact rfl); (with_reducible conv => whnf)) | ((with_reducible refine xF ?_ ?_); (· exact rfl); (with_reducible conv => whnf)) | ((with_reducible apply xE); (· exact rfl); (with_reducible conv => whnf)) | ((with_reducible refine And.intro ?_ ?_); (· (first | exact rfl | exact trivial | exact sh_int _ | exact sh_bool _ | ((try dsimp only [Int.reduceToNat]); first | omega | (refine mulw ?_ ?_ ?_ ?_ <;> omega) | (refine divw ?_ ?_ <;> omega) | (refine poww ?_ ?_ ?_ ?_ <;> omega) | (refine divp ?_ ?_ ?_ <;> omega) | (have := szl; simp only [List.length_append, List.length_cons, List.length_nil, List.length_map, List.length_range]; omega) | decide))); (with_reducible conv => whnf))))
  (try unfold DL.sFor); (try unfold DL.sWhile); (try unfold DL.eLc)
  ((with_reducible conv => whnf); repeat (first | ((with_reducible refine xT ?_ ?_); (· exact rfl); (with_reducible conv => whnf)) | ((with_reducible refine xF ?_ ?_); (· exact rfl); (with_reducible conv => whnf)) | ((with_reducible apply xE); (· exact rfl); (with_reducible conv => whnf)) | ((with_reducible refine And.intro ?_ ?_); (· (first | exact rfl | exact trivial | exact sh_int _ | exact sh_bool _ | ((try dsimp only [Int.reduceToNat]); first | omega | (refine mulw ?_ ?_ ?_ ?_ <;> omega) | (refine divw ?_ ?_ <;> omega) | (refine poww ?_ ?_ ?_ ?_ <;> omega) | (refine divp ?_ ?_ ?_ <;> omega) | (have := szl; simp only [List.length_append, List.length_cons, List.length_nil, List.length_map, List.length_range]; omega) | decide))); (with_reducible conv => whnf))))
  refine ⟨fun i acc ρ => acc = List.replicate i (.bool true) ∧ i ≤ bs.length ∧ ρ = [.fz (sysD n bs), .nil], ⟨rfl, by omega, rfl⟩, ?_, ?_⟩
  · rintro i x acc ρ hi ⟨rfl, hle, rfl⟩
    have hlt := (List.getElem?_eq_some_iff.mp hi).1
    rw [List.length_map] at hlt
    rw [List.getElem?_map] at hi
    cases hb : bs[i]? with
    | none => rw [hb] at hi; cases hi
    | some b =>
      rw [hb] at hi
      cases hi
      ((with_reducible conv => whnf); repeat (first | ((with_reducible refine xT ?_ ?_); (· exact rfl); (with_reducible conv => whnf)) | ((with_reducible refine xF ?_ ?_); (· exact rfl); (with_reducible conv => whnf)) | ((with_reducible apply xE); (· exact rfl); (with_reducible conv => whnf)) | ((with_reducible refine And.intro ?_ ?_); (· (first | exact rfl | exact trivial | exact sh_int _ | exact sh_bool _ | ((try dsimp only [Int.reduceToNat]); first | omega | (refine mulw ?_ ?_ ?_ ?_ <;> omega) | (refine divw ?_ ?_ <;> omega) | (refine poww ?_ ?_ ?_ ?_ <;> omega) | (refine divp ?_ ?_ ?_ <;> omega) | (have := szl; simp only [List.length_append, List.length_cons, List.length_nil, List.length_map, List.length_range]; omega) | decide))); (with_reducible conv => whnf))))
      refine ⟨⟨_, _, rfl, h4 b (List.mem_of_getElem? hb)⟩, fun r as' hp => ?_, fun C as' hx => False.elim hx⟩
      obtain ⟨rfl, rfl⟩ := hp _ _ rfl; clear hp; (try (generalize hρ : DL.backA _ _ _ = ρ'; dsimp only [DL.setS, DL.getS, DL.backA, DL.toPw, DL.RR.vr, DL.RR.sl, DL.nils, DL.wrL, List.set, Int.reduceToNat] at hρ; subst hρ)); ((with_reducible conv => whnf); repeat (first | ((with_reducible refine xT ?_ ?_); (· exact rfl); (with_reducible conv => whnf)) | ((with_reducible refine xF ?_ ?_); (· exact rfl); (with_reducible conv => whnf)) | ((with_reducible apply xE); (· exact rfl); (with_reducible conv => whnf)) | ((with_reducible refine And.intro ?_ ?_); (· (first | exact rfl | exact trivial | exact sh_int _ | exact sh_bool _ | ((try dsimp only [Int.reduceToNat]); first | omega | (refine mulw ?_ ?_ ?_ ?_ <;> omega) | (refine divw ?_ ?_ <;> omega) | (refine poww ?_ ?_ ?_ ?_ <;> omega) | (refine divp ?_ ?_ ?_ <;> omega) | (have := szl; simp only [List.length_append, List.length_cons, List.length_nil, List.length_map, List.length_range]; omega) | decide))); (with_reducible conv => whnf))))
      exact ⟨(List.replicate_succ' ..).symm, by omega, rfl⟩
  · rintro acc ρ ⟨rfl, hle, rfl⟩
    (with_reducible conv => whnf)
    refine ⟨List.replicate (bs.map bD).length true, by rw [List.map_replicate], ?_⟩
    ((with_reducible conv => whnf); repeat (first | ((with_reducible refine xT ?_ ?_); (· exact rfl); (with_reducible conv => whnf)) | ((with_reducible refine xF ?_ ?_); (· exact rfl); (with_reducible conv => whnf)) | ((with_reducible apply xE); (· exact rfl); (with_reducible conv => whnf)) | ((with_reducible refine And.intro ?_ ?_); (· (first | exact rfl | exact trivial | exact sh_int _ | exact sh_bool _ | ((try dsimp only [Int.reduceToNat]); first | omega | (refine mulw ?_ ?_ ?_ ?_ <;> omega) | (refine divw ?_ ?_ <;> omega) | (refine poww ?_ ?_ ?_ ?_ <;> omega) | (refine divp ?_ ?_ ?_ <;> omega) | (have := szl; simp only [List.length_append, List.length_cons, List.length_nil, List.length_map, List.length_range]; omega) | decide))); (with_reducible conv => whnf))))
    refine ⟨rfl, ?_⟩
    have : (List.replicate (bs.map bD).length true).all id = true := by rw [List.all_replicate]; simp
    rw [this]
theorem rd_check_system (cl : Nat → Addr) (as ad) (hp : (sp_check_system cl).pre as) : t_check_system cl (endsOf (sp_check_system cl) as ad) (startS as ad 0 ++ List.replicate 0 .nil) := by
  obtain ⟨n, bs, rfl, h⟩ := hp
  show t_check_system cl (endsOf _ _ _) [.fz (sysD n bs)]
  unfold t_check_system
  ((with_reducible conv => whnf); repeat (first | ((with_reducible refine xT ?_ ?_); (· exact rfl); (with_reducible conv => whnf)) | ((with_reducible refine xF ?_ ?_); (· exact rfl); (with_reducible conv => whnf)) | ((with_reducible apply xE); (· exact rfl); (with_reducible conv => whnf)) | ((with_reducible refine And.intro ?_ ?_); (· (first | exact rfl | exact trivial | exact sh_int _ | exact sh_bool _ | ((try dsimp only [Int.reduceToNat]); first | omega | (refine mulw ?_ ?_ ?_ ?_ <;> omega) | (refine divw ?_ ?_ <;> omega) | (refine poww ?_ ?_ ?_ ?_ <;> omega) | (refine divp ?_ ?_ ?_ <;> omega) | (have := szl; simp only [List.length_append, List.length_cons, List.length_nil, List.length_map, List.length_range]; omega) | decide))); (with_reducible conv => whnf))))
  refine ⟨⟨_, _, rfl, h⟩, fun r as' hp => ?_, fun C as' hx => False.elim hx⟩
  obtain ⟨rfl, rfl⟩ := hp; (try (generalize hρ : DL.backA _ _ _ = ρ'; dsimp only [DL.setS, DL.getS, DL.backA, DL.toPw, DL.RR.vr, DL.RR.sl, DL.nils, DL.wrL, List.set, Int.reduceToNat] at hρ; subst hρ)); ((with_reducible conv => whnf); repeat (first | ((with_reducible refine xT ?_ ?_); (· exact rfl); (with_reducible conv => whnf)) | ((with_reducible refine xF ?_ ?_); (· exact rfl); (with_reducible conv => whnf)) | ((with_reducible apply xE); (· exact rfl); (with_reducible conv => whnf)) | ((with_reducible refine And.intro ?_ ?_); (· (first | exact rfl | exact trivial | exact sh_int _ | exact sh_bool _ | ((try dsimp only [Int.reduceToNat]); first | omega | (refine mulw ?_ ?_ ?_ ?_ <;> omega) | (refine divw ?_ ?_ <;> omega) | (refine poww ?_ ?_ ?_ ?_ <;> omega) | (refine divp ?_ ?_ ?_ <;> omega) | (have := szl; simp only [List.length_append, List.length_cons, List.length_nil, List.length_map, List.length_range]; omega) | decide))); (with_reducible conv => whnf))))
  exact ⟨rfl, rfl⟩
theorem rd_keeps_bound (cl : Nat → Addr) (as ad) (hp : (sp_keeps_bound cl).pre as) : t_keeps_bound cl (endsOf (sp_keeps_bound cl) as ad) (startS as ad 0 ++ List.replicate 3 .nil) := by
  obtain ⟨ms, n, b, rfl, ⟨h1, h2, h3, h4, h5⟩, hl⟩ := hp
  show t_keeps_bound cl (endsOf _ _ _) [.fz (msD ms), .fz (bD b), .nil, .nil, .nil]
  unfold t_keeps_bound
  ((with_reducible conv => whnf); repeat (first | ((with_reducible refine xT ?_ ?_); (· exact rfl); (with_reducible conv => whnf)) | ((with_reducible refine xF ?_ ?_); (· exact rfl); (with_reducible conv => whnf)) | ((with_reducible apply xE); (· exact rfl); (with_reducible conv => whnf)) | ((with_reducible refine And.intro ?_ ?_); (· (first | exact rfl | exact trivial | exact sh_int _ | exact sh_bool _ | ((try dsimp only [Int.reduceToNat]); first | omega | (refine mulw ?_ ?_ ?_ ?_ <;> omega) | (refine divw ?_ ?_ <;> omega) | (refine poww ?_ ?_ ?_ ?_ <;> omega) | (refine divp ?_ ?_ ?_ <;> omega) | (have := szl; simp only [List.length_append, List.length_cons, List.length_nil, List.length_map, List.length_range]; omega) | decide))); (with_reducible conv => whnf))))
  refine ⟨_, at_ms h1 (by omega), ?_⟩
  ((with_reducible conv => whnf); repeat (first | ((with_reducible refine xT ?_ ?_); (· exact rfl); (with_reducible conv => whnf)) | ((with_reducible refine xF ?_ ?_); (· exact rfl); (with_reducible conv => whnf)) | ((with_reducible apply xE); (· exact rfl); (with_reducible conv => whnf)) | ((with_reducible refine And.intro ?_ ?_); (· (first | exact rfl | exact trivial | exact sh_int _ | exact sh_bool _ | ((try dsimp only [Int.reduceToNat]); first | omega | (refine mulw ?_ ?_ ?_ ?_ <;> omega) | (refine divw ?_ ?_ <;> omega) | (refine poww ?_ ?_ ?_ ?_ <;> omega) | (refine divp ?_ ?_ ?_ <;> omega) | (have := szl; simp only [List.length_append, List.length_cons, List.length_nil, List.length_map, List.length_range]; omega) | decide))); (with_reducible conv => whnf))))
  refine ⟨_, at_ms h3 (by omega), ?_⟩
  ((with_reducible conv => whnf); repeat (first | ((with_reducible refine xT ?_ ?_); (· exact rfl); (with_reducible conv => whnf)) | ((with_reducible refine xF ?_ ?_); (· exact rfl); (with_reducible conv => whnf)) | ((with_reducible apply xE); (· exact rfl); (with_reducible conv => whnf)) | ((with_reducible refine And.intro ?_ ?_); (· (first | exact rfl | exact trivial | exact sh_int _ | exact sh_bool _ | ((try dsimp only [Int.reduceToNat]); first | omega | (refine mulw ?_ ?_ ?_ ?_ <;> omega) | (refine divw ?_ ?_ <;> omega) | (refine poww ?_ ?_ ?_ ?_ <;> omega) | (refine divp ?_ ?_ ?_ <;> omega) | (have := szl; simp only [List.length_append, List.length_cons, List.length_nil, List.length_map, List.length_range]; omega) | decide))); (with_reducible conv => whnf))))
  refine ⟨rfl, fun ms' b' e => ?_⟩
  have m1 := msD_inj (fz2 e).1
  have b1 := bD_inj (fz2 e).2
  subst m1 b1
  rfl
end T08
set_option Elab.async false
set_option linter.all false
set_option maxRecDepth 100000
set_option maxHeartbeats 2000000
namespace T08
open PySem PySem.Spec PyProof.Rows L2 DL
theorem okT_it {cls : List Addr} {ds : List D} (h : okT cls (.tuple ds)) {d : D} (hd : d ∈ ds) : exOk cls d := by
  have := (h.2 ds rfl).1 d hd
  cases d with
  | dict k => exact absurd rfl (this k)
  | _ => trivial
theorem okT_ms {cls : List Addr} (ms : List Int) : okT cls (msD ms) := ⟨trivial, fun ds e => by
  injection e with e
  subst e
  refine ⟨fun d hd k hk => ?_, by rw [filt_nil.mpr (all_ints ms)]; exact sh_nil⟩
  subst hk
  obtain ⟨x, _, e⟩ := List.mem_map.mp hd
  cases e⟩
theorem intsOf_map (ms : List Int) : intsOf (ms.map PyData.int) = some ms := by
  induction ms with
  | nil => rfl
  | cons m ms ih => show (intsOf (ms.map PyData.int)).map (m :: ·) = _; rw [ih]; rfl
theorem isW_ms {n : Int} {bs : List Bd} {ms : List Int} (h : hasM n (msD ms) = true) : isW n bs (msD ms) = bs.all (keepB ms) := by
  unfold isW
  rw [h, Bool.true_and]
  show (match intsOf (ms.map PyData.int) with | some ms => bs.all (keepB ms) | none => false) = _
  rw [intsOf_map]
theorem take_all {α : Type} {l : List α} {f : α → D} : (l.map f).length = l.length := by simp
theorem rd_has_moments (cl : Nat → Addr) (as ad) (hp : (sp_has_moments cl).pre as) : t_has_moments cl (endsOf (sp_has_moments cl) as ad) (startS as ad 0 ++ List.replicate 1 .nil) := by
  obtain ⟨n, bs, d, rfl, hs, hd⟩ := hp
  show t_has_moments cl (endsOf _ _ _) [.fz (sysD n bs), .fz d, .nil]
  have fin : ∀ b : Bool, hasM n d = b → (sp_has_moments cl).post [.fz (sysD n bs), .fz d] (.fz (.bool b)) [.fz (sysD n bs), .fz d] := by
    intro b hb
    refine ⟨rfl, fun n' bs' d' e => ?_⟩
    have e1 := (sysD_inj (fz2 e).1).1
    have e2 := (fz2 e).2
    subst e1 e2
    rw [hb]
  unfold t_has_moments
  cases d with
  | tuple ds =>
    ((with_reducible conv => whnf); repeat (first | ((with_reducible refine xT ?_ ?_); (· exact rfl); (with_reducible conv => whnf)) | ((with_reducible refine xF ?_ ?_); (· exact rfl); (with_reducible conv => whnf)) | ((with_reducible apply xE); (· exact rfl); (with_reducible conv => whnf)) | ((with_reducible refine And.intro ?_ ?_); (· (first | exact rfl | exact trivial | exact sh_int _ | exact sh_bool _ | ((try dsimp only [Int.reduceToNat]); first | omega | (refine mulw ?_ ?_ ?_ ?_ <;> omega) | (refine divw ?_ ?_ <;> omega) | (refine poww ?_ ?_ ?_ ?_ <;> omega) | (refine divp ?_ ?_ ?_ <;> omega) | (have := szl; simp only [List.length_append, List.length_cons, List.length_nil, List.length_map, List.length_range]; omega) | decide))); (with_reducible conv => whnf))))
    refine xBne (fun h => ?_) (fun h => ?_)
    · ((with_reducible conv => whnf); repeat (first | ((with_reducible refine xT ?_ ?_); (· exact rfl); (with_reducible conv => whnf)) | ((with_reducible refine xF ?_ ?_); (· exact rfl); (with_reducible conv => whnf)) | ((with_reducible apply xE); (· exact rfl); (with_reducible conv => whnf)) | ((with_reducible refine And.intro ?_ ?_); (· (first | exact rfl | exact trivial | exact sh_int _ | exact sh_bool _ | ((try dsimp only [Int.reduceToNat]); first | omega | (refine mulw ?_ ?_ ?_ ?_ <;> omega) | (refine divw ?_ ?_ <;> omega) | (refine poww ?_ ?_ ?_ ?_ <;> omega) | (refine divp ?_ ?_ ?_ <;> omega) | (have := szl; simp only [List.length_append, List.length_cons, List.length_nil, List.length_map, List.length_range]; omega) | decide))); (with_reducible conv => whnf))))
      exact fin false (by simp only [hasM]; rw [decide_eq_false h]; rfl)
    · ((with_reducible conv => whnf); repeat (first | ((with_reducible refine xT ?_ ?_); (· exact rfl); (with_reducible conv => whnf)) | ((with_reducible refine xF ?_ ?_); (· exact rfl); (with_reducible conv => whnf)) | ((with_reducible apply xE); (· exact rfl); (with_reducible conv => whnf)) | ((with_reducible refine And.intro ?_ ?_); (· (first | exact rfl | exact trivial | exact sh_int _ | exact sh_bool _ | ((try dsimp only [Int.reduceToNat]); first | omega | (refine mulw ?_ ?_ ?_ ?_ <;> omega) | (refine divw ?_ ?_ <;> omega) | (refine poww ?_ ?_ ?_ ?_ <;> omega) | (refine divp ?_ ?_ ?_ <;> omega) | (have := szl; simp only [List.length_append, List.length_cons, List.length_nil, List.length_map, List.length_range]; omega) | decide))); (with_reducible conv => whnf))))
      (try unfold DL.sFor); (try unfold DL.sWhile); (try unfold DL.eLc)
      ((with_reducible conv => whnf); repeat (first | ((with_reducible refine xT ?_ ?_); (· exact rfl); (with_reducible conv => whnf)) | ((with_reducible refine xF ?_ ?_); (· exact rfl); (with_reducible conv => whnf)) | ((with_reducible apply xE); (· exact rfl); (with_reducible conv => whnf)) | ((with_reducible refine And.intro ?_ ?_); (· (first | exact rfl | exact trivial | exact sh_int _ | exact sh_bool _ | ((try dsimp only [Int.reduceToNat]); first | omega | (refine mulw ?_ ?_ ?_ ?_ <;> omega) | (refine divw ?_ ?_ <;> omega) | (refine poww ?_ ?_ ?_ ?_ <;> omega) | (refine divp ?_ ?_ ?_ <;> omega) | (have := szl; simp only [List.length_append, List.length_cons, List.length_nil, List.length_map, List.length_range]; omega) | decide))); (with_reducible conv => whnf))))
      refine ⟨fun i acc ρ => acc = (ds.take i).map (fun d => .bool (isIntg d)) ∧ ρ = [.fz (sysD n bs), .fz (.tuple ds), .nil], ⟨rfl, rfl⟩, ?_, ?_⟩
      · rintro i x acc ρ hi ⟨rfl, rfl⟩
        ((with_reducible conv => whnf); repeat (first | ((with_reducible refine xT ?_ ?_); (· exact rfl); (with_reducible conv => whnf)) | ((with_reducible refine xF ?_ ?_); (· exact rfl); (with_reducible conv => whnf)) | ((with_reducible apply xE); (· exact rfl); (with_reducible conv => whnf)) | ((with_reducible refine And.intro ?_ ?_); (· (first | exact rfl | exact trivial | exact sh_int _ | exact sh_bool _ | ((try dsimp only [Int.reduceToNat]); first | omega | (refine mulw ?_ ?_ ?_ ?_ <;> omega) | (refine divw ?_ ?_ <;> omega) | (refine poww ?_ ?_ ?_ ?_ <;> omega) | (refine divp ?_ ?_ ?_ <;> omega) | (have := szl; simp only [List.length_append, List.length_cons, List.length_nil, List.length_map, List.length_range]; omega) | decide))); (with_reducible conv => whnf))))
        refine ⟨⟨_, rfl, okT_it hd (List.mem_of_getElem? hi)⟩, fun r as' hp => ?_, fun C as' hx => False.elim hx⟩
        obtain ⟨rfl, rfl⟩ := hp _ rfl; clear hp; (try (generalize hρ : DL.backA _ _ _ = ρ'; dsimp only [DL.setS, DL.getS, DL.backA, DL.toPw, DL.RR.vr, DL.RR.sl, DL.nils, DL.wrL, List.set, Int.reduceToNat] at hρ; subst hρ)); ((with_reducible conv => whnf); repeat (first | ((with_reducible refine xT ?_ ?_); (· exact rfl); (with_reducible conv => whnf)) | ((with_reducible refine xF ?_ ?_); (· exact rfl); (with_reducible conv => whnf)) | ((with_reducible apply xE); (· exact rfl); (with_reducible conv => whnf)) | ((with_reducible refine And.intro ?_ ?_); (· (first | exact rfl | exact trivial | exact sh_int _ | exact sh_bool _ | ((try dsimp only [Int.reduceToNat]); first | omega | (refine mulw ?_ ?_ ?_ ?_ <;> omega) | (refine divw ?_ ?_ <;> omega) | (refine poww ?_ ?_ ?_ ?_ <;> omega) | (refine divp ?_ ?_ ?_ <;> omega) | (have := szl; simp only [List.length_append, List.length_cons, List.length_nil, List.length_map, List.length_range]; omega) | decide))); (with_reducible conv => whnf))))
        exact ⟨by rw [take_succ_of hi, List.map_append]; rfl, rfl⟩
      · rintro acc ρ ⟨rfl, rfl⟩
        (with_reducible conv => whnf)
        refine ⟨ds.map isIntg, by rw [List.take_length, List.map_map]; rfl, ?_⟩
        (with_reducible conv => whnf)
        have ha : (ds.map isIntg).all id = ds.all isIntg := by rw [List.all_map]; rfl
        rw [ha]
        cases hall : ds.all isIntg with
        | false =>
          ((with_reducible conv => whnf); repeat (first | ((with_reducible refine xT ?_ ?_); (· exact rfl); (with_reducible conv => whnf)) | ((with_reducible refine xF ?_ ?_); (· exact rfl); (with_reducible conv => whnf)) | ((with_reducible apply xE); (· exact rfl); (with_reducible conv => whnf)) | ((with_reducible refine And.intro ?_ ?_); (· (first | exact rfl | exact trivial | exact sh_int _ | exact sh_bool _ | ((try dsimp only [Int.reduceToNat]); first | omega | (refine mulw ?_ ?_ ?_ ?_ <;> omega) | (refine divw ?_ ?_ <;> omega) | (refine poww ?_ ?_ ?_ ?_ <;> omega) | (refine divp ?_ ?_ ?_ <;> omega) | (have := szl; simp only [List.length_append, List.length_cons, List.length_nil, List.length_map, List.length_range]; omega) | decide))); (with_reducible conv => whnf))))
          exact fin false (by simp only [hasM]; rw [hall]; simp)
        | true =>
          ((with_reducible conv => whnf); repeat (first | ((with_reducible refine xT ?_ ?_); (· exact rfl); (with_reducible conv => whnf)) | ((with_reducible refine xF ?_ ?_); (· exact rfl); (with_reducible conv => whnf)) | ((with_reducible apply xE); (· exact rfl); (with_reducible conv => whnf)) | ((with_reducible refine And.intro ?_ ?_); (· (first | exact rfl | exact trivial | exact sh_int _ | exact sh_bool _ | ((try dsimp only [Int.reduceToNat]); first | omega | (refine mulw ?_ ?_ ?_ ?_ <;> omega) | (refine divw ?_ ?_ <;> omega) | (refine poww ?_ ?_ ?_ ?_ <;> omega) | (refine divp ?_ ?_ ?_ <;> omega) | (have := szl; simp only [List.length_append, List.length_cons, List.length_nil, List.length_map, List.length_range]; omega) | decide))); (with_reducible conv => whnf))))
          obtain ⟨ms, rfl⟩ := ints_all hall
          obtain ⟨m, ms', rfl⟩ : ∃ m ms', ms = m :: ms' := by
            cases ms with
            | nil => exfalso; have := hs.1; simp at h; omega
            | cons m ms' => exact ⟨m, ms', rfl⟩
          refine ⟨_, at_ms (ms := m :: ms') (by omega) (by rw [List.length_cons]; omega), ?_⟩
          rw [show mAt (m :: ms') 0 = m from rfl]
          ((with_reducible conv => whnf); repeat (first | ((with_reducible refine xT ?_ ?_); (· exact rfl); (with_reducible conv => whnf)) | ((with_reducible refine xF ?_ ?_); (· exact rfl); (with_reducible conv => whnf)) | ((with_reducible apply xE); (· exact rfl); (with_reducible conv => whnf)) | ((with_reducible refine And.intro ?_ ?_); (· (first | exact rfl | exact trivial | exact sh_int _ | exact sh_bool _ | ((try dsimp only [Int.reduceToNat]); first | omega | (refine mulw ?_ ?_ ?_ ?_ <;> omega) | (refine divw ?_ ?_ <;> omega) | (refine poww ?_ ?_ ?_ ?_ <;> omega) | (refine divp ?_ ?_ ?_ <;> omega) | (have := szl; simp only [List.length_append, List.length_cons, List.length_nil, List.length_map, List.length_range]; omega) | decide))); (with_reducible conv => whnf))))
          refine fin _ ?_
          simp only [hasM]
          rw [hall, decide_eq_true h, eqv_int]
          simp
  | dict k =>
    (with_reducible conv => whnf)
    refine ⟨hd.1, ?_⟩
    ((with_reducible conv => whnf); repeat (first | ((with_reducible refine xT ?_ ?_); (· exact rfl); (with_reducible conv => whnf)) | ((with_reducible refine xF ?_ ?_); (· exact rfl); (with_reducible conv => whnf)) | ((with_reducible apply xE); (· exact rfl); (with_reducible conv => whnf)) | ((with_reducible refine And.intro ?_ ?_); (· (first | exact rfl | exact trivial | exact sh_int _ | exact sh_bool _ | ((try dsimp only [Int.reduceToNat]); first | omega | (refine mulw ?_ ?_ ?_ ?_ <;> omega) | (refine divw ?_ ?_ <;> omega) | (refine poww ?_ ?_ ?_ ?_ <;> omega) | (refine divp ?_ ?_ ?_ <;> omega) | (have := szl; simp only [List.length_append, List.length_cons, List.length_nil, List.length_map, List.length_range]; omega) | decide))); (with_reducible conv => whnf))))
    exact fin false rfl
  | _ =>
    ((with_reducible conv => whnf); repeat (first | ((with_reducible refine xT ?_ ?_); (· exact rfl); (with_reducible conv => whnf)) | ((with_reducible refine xF ?_ ?_); (· exact rfl); (with_reducible conv => whnf)) | ((with_reducible apply xE); (· exact rfl); (with_reducible conv => whnf)) | ((with_reducible refine And.intro ?_ ?_); (· (first | exact rfl | exact trivial | exact sh_int _ | exact sh_bool _ | ((try dsimp only [Int.reduceToNat]); first | omega | (refine mulw ?_ ?_ ?_ ?_ <;> omega) | (refine divw ?_ ?_ <;> omega) | (refine poww ?_ ?_ ?_ ?_ <;> omega) | (refine divp ?_ ?_ ?_ <;> omega) | (have := szl; simp only [List.length_append, List.length_cons, List.length_nil, List.length_map, List.length_range]; omega) | decide))); (with_reducible conv => whnf))))
    exact fin false rfl
theorem rd_check_wish (cl : Nat → Addr) (as ad) (hp : (sp_check_wish cl).pre as) : t_check_wish cl (endsOf (sp_check_wish cl) as ad) (startS as ad 0 ++ List.replicate 0 .nil) := by
  obtain ⟨n, bs, ms, rfl, h, hl⟩ := hp
  show t_check_wish cl (endsOf _ _ _) [.fz (sysD n bs), .fz (msD (0 :: ms))]
  unfold t_check_wish
  ((with_reducible conv => whnf); repeat (first | ((with_reducible refine xT ?_ ?_); (· exact rfl); (with_reducible conv => whnf)) | ((with_reducible refine xF ?_ ?_); (· exact rfl); (with_reducible conv => whnf)) | ((with_reducible apply xE); (· exact rfl); (with_reducible conv => whnf)) | ((with_reducible refine And.intro ?_ ?_); (· (first | exact rfl | exact trivial | exact sh_int _ | exact sh_bool _ | ((try dsimp only [Int.reduceToNat]); first | omega | (refine mulw ?_ ?_ ?_ ?_ <;> omega) | (refine divw ?_ ?_ <;> omega) | (refine poww ?_ ?_ ?_ ?_ <;> omega) | (refine divp ?_ ?_ ?_ <;> omega) | (have := szl; simp only [List.length_append, List.length_cons, List.length_nil, List.length_map, List.length_range]; omega) | decide))); (with_reducible conv => whnf))))
  refine ⟨⟨_, _, _, rfl, h, okT_ms _⟩, fun r as' hp => ?_, fun C as' hx => False.elim hx⟩
  obtain ⟨rfl, hp⟩ := hp
  have hp := hp _ _ _ rfl
  rw [(hasM_iff h.1).mpr ⟨ms, rfl, hl⟩] at hp
  subst hp
  (try (generalize hρ : DL.backA _ _ _ = ρ'; dsimp only [DL.setS, DL.getS, DL.backA, DL.toPw, DL.RR.vr, DL.RR.sl, DL.nils, DL.wrL, List.set, Int.reduceToNat] at hρ; subst hρ)); ((with_reducible conv => whnf); repeat (first | ((with_reducible refine xT ?_ ?_); (· exact rfl); (with_reducible conv => whnf)) | ((with_reducible refine xF ?_ ?_); (· exact rfl); (with_reducible conv => whnf)) | ((with_reducible apply xE); (· exact rfl); (with_reducible conv => whnf)) | ((with_reducible refine And.intro ?_ ?_); (· (first | exact rfl | exact trivial | exact sh_int _ | exact sh_bool _ | ((try dsimp only [Int.reduceToNat]); first | omega | (refine mulw ?_ ?_ ?_ ?_ <;> omega) | (refine divw ?_ ?_ <;> omega) | (refine poww ?_ ?_ ?_ ?_ <;> omega) | (refine divp ?_ ?_ ?_ <;> omega) | (have := szl; simp only [List.length_append, List.length_cons, List.length_nil, List.length_map, List.length_range]; omega) | decide))); (with_reducible conv => whnf))))
  exact ⟨rfl, rfl⟩
theorem rd_is_world_of (cl : Nat → Addr) (as ad) (hp : (sp_is_world_of cl).pre as) : t_is_world_of cl (endsOf (sp_is_world_of cl) as ad) (startS as ad 0 ++ List.replicate 1 .nil) := by
  obtain ⟨n, bs, d, rfl, hs, hd⟩ := hp
  show t_is_world_of cl (endsOf _ _ _) [.fz (sysD n bs), .fz d, .nil]
  have fin : ∀ b : Bool, isW n bs d = b → (sp_is_world_of cl).post [.fz (sysD n bs), .fz d] (.fz (.bool b)) [.fz (sysD n bs), .fz d] := by
    intro b hb
    refine ⟨rfl, fun n' bs' d' e => ?_⟩
    obtain ⟨e1, e3⟩ := sysD_inj (fz2 e).1
    have e2 := (fz2 e).2
    subst e1 e2 e3
    rw [hb]
  unfold t_is_world_of
  ((with_reducible conv => whnf); repeat (first | ((with_reducible refine xT ?_ ?_); (· exact rfl); (with_reducible conv => whnf)) | ((with_reducible refine xF ?_ ?_); (· exact rfl); (with_reducible conv => whnf)) | ((with_reducible apply xE); (· exact rfl); (with_reducible conv => whnf)) | ((with_reducible refine And.intro ?_ ?_); (· (first | exact rfl | exact trivial | exact sh_int _ | exact sh_bool _ | ((try dsimp only [Int.reduceToNat]); first | omega | (refine mulw ?_ ?_ ?_ ?_ <;> omega) | (refine divw ?_ ?_ <;> omega) | (refine poww ?_ ?_ ?_ ?_ <;> omega) | (refine divp ?_ ?_ ?_ <;> omega) | (have := szl; simp only [List.length_append, List.length_cons, List.length_nil, List.length_map, List.length_range]; omega) | decide))); (with_reducible conv => whnf))))
  refine ⟨⟨_, _, _, rfl, hs, hd⟩, fun r as' hp => ?_, fun C as' hx => False.elim hx⟩
  obtain ⟨rfl, hp⟩ := hp
  have hp := hp _ _ _ rfl
  subst hp
  (try (generalize hρ : DL.backA _ _ _ = ρ'; dsimp only [DL.setS, DL.getS, DL.backA, DL.toPw, DL.RR.vr, DL.RR.sl, DL.nils, DL.wrL, List.set, Int.reduceToNat] at hρ; subst hρ)); ((with_reducible conv => whnf); repeat (first | ((with_reducible refine xT ?_ ?_); (· exact rfl); (with_reducible conv => whnf)) | ((with_reducible refine xF ?_ ?_); (· exact rfl); (with_reducible conv => whnf)) | ((with_reducible apply xE); (· exact rfl); (with_reducible conv => whnf)) | ((with_reducible refine And.intro ?_ ?_); (· (first | exact rfl | exact trivial | exact sh_int _ | exact sh_bool _ | ((try dsimp only [Int.reduceToNat]); first | omega | (refine mulw ?_ ?_ ?_ ?_ <;> omega) | (refine divw ?_ ?_ <;> omega) | (refine poww ?_ ?_ ?_ ?_ <;> omega) | (refine divp ?_ ?_ ?_ <;> omega) | (have := szl; simp only [List.length_append, List.length_cons, List.length_nil, List.length_map, List.length_range]; omega) | decide))); (with_reducible conv => whnf))))
  refine xB (fun h => ?_) (fun h => ?_)
  · obtain ⟨ms, rfl, hl⟩ := (hasM_iff hs.1).mp h
    ((with_reducible conv => whnf); repeat (first | ((with_reducible refine xT ?_ ?_); (· exact rfl); (with_reducible conv => whnf)) | ((with_reducible refine xF ?_ ?_); (· exact rfl); (with_reducible conv => whnf)) | ((with_reducible apply xE); (· exact rfl); (with_reducible conv => whnf)) | ((with_reducible refine And.intro ?_ ?_); (· (first | exact rfl | exact trivial | exact sh_int _ | exact sh_bool _ | ((try dsimp only [Int.reduceToNat]); first | omega | (refine mulw ?_ ?_ ?_ ?_ <;> omega) | (refine divw ?_ ?_ <;> omega) | (refine poww ?_ ?_ ?_ ?_ <;> omega) | (refine divp ?_ ?_ ?_ <;> omega) | (have := szl; simp only [List.length_append, List.length_cons, List.length_nil, List.length_map, List.length_range]; omega) | decide))); (with_reducible conv => whnf))))
    (try unfold DL.sFor); (try unfold DL.sWhile); (try unfold DL.eLc)
    ((with_reducible conv => whnf); repeat (first | ((with_reducible refine xT ?_ ?_); (· exact rfl); (with_reducible conv => whnf)) | ((with_reducible refine xF ?_ ?_); (· exact rfl); (with_reducible conv => whnf)) | ((with_reducible apply xE); (· exact rfl); (with_reducible conv => whnf)) | ((with_reducible refine And.intro ?_ ?_); (· (first | exact rfl | exact trivial | exact sh_int _ | exact sh_bool _ | ((try dsimp only [Int.reduceToNat]); first | omega | (refine mulw ?_ ?_ ?_ ?_ <;> omega) | (refine divw ?_ ?_ <;> omega) | (refine poww ?_ ?_ ?_ ?_ <;> omega) | (refine divp ?_ ?_ ?_ <;> omega) | (have := szl; simp only [List.length_append, List.length_cons, List.length_nil, List.length_map, List.length_range]; omega) | decide))); (with_reducible conv => whnf))))
    refine ⟨fun i acc ρ => acc = (bs.take i).map (fun b => .bool (keepB (0 :: ms) b)) ∧ ρ = [.fz (sysD n bs), .fz (msD (0 :: ms)), .nil], ⟨rfl, rfl⟩, ?_, ?_⟩
    · rintro i x acc ρ hi ⟨rfl, rfl⟩
      rw [List.getElem?_map] at hi
      cases hb : bs[i]? with
      | none => rw [hb] at hi; cases hi
      | some b =>
        rw [hb] at hi
        cases hi
        ((with_reducible conv => whnf); repeat (first | ((with_reducible refine xT ?_ ?_); (· exact rfl); (with_reducible conv => whnf)) | ((with_reducible refine xF ?_ ?_); (· exact rfl); (with_reducible conv => whnf)) | ((with_reducible apply xE); (· exact rfl); (with_reducible conv => whnf)) | ((with_reducible refine And.intro ?_ ?_); (· (first | exact rfl | exact trivial | exact sh_int _ | exact sh_bool _ | ((try dsimp only [Int.reduceToNat]); first | omega | (refine mulw ?_ ?_ ?_ ?_ <;> omega) | (refine divw ?_ ?_ <;> omega) | (refine poww ?_ ?_ ?_ ?_ <;> omega) | (refine divp ?_ ?_ ?_ <;> omega) | (have := szl; simp only [List.length_append, List.length_cons, List.length_nil, List.length_map, List.length_range]; omega) | decide))); (with_reducible conv => whnf))))
        refine ⟨⟨_, n, _, rfl, hs.2.2.2 b (List.mem_of_getElem? hb), by rw [List.length_cons]; omega⟩, fun r as' hp => ?_, fun C as' hx => False.elim hx⟩
        obtain ⟨rfl, hp⟩ := hp
        have hp := hp _ _ rfl
        subst hp
        (try (generalize hρ : DL.backA _ _ _ = ρ'; dsimp only [DL.setS, DL.getS, DL.backA, DL.toPw, DL.RR.vr, DL.RR.sl, DL.nils, DL.wrL, List.set, Int.reduceToNat] at hρ; subst hρ)); ((with_reducible conv => whnf); repeat (first | ((with_reducible refine xT ?_ ?_); (· exact rfl); (with_reducible conv => whnf)) | ((with_reducible refine xF ?_ ?_); (· exact rfl); (with_reducible conv => whnf)) | ((with_reducible apply xE); (· exact rfl); (with_reducible conv => whnf)) | ((with_reducible refine And.intro ?_ ?_); (· (first | exact rfl | exact trivial | exact sh_int _ | exact sh_bool _ | ((try dsimp only [Int.reduceToNat]); first | omega | (refine mulw ?_ ?_ ?_ ?_ <;> omega) | (refine divw ?_ ?_ <;> omega) | (refine poww ?_ ?_ ?_ ?_ <;> omega) | (refine divp ?_ ?_ ?_ <;> omega) | (have := szl; simp only [List.length_append, List.length_cons, List.length_nil, List.length_map, List.length_range]; omega) | decide))); (with_reducible conv => whnf))))
        exact ⟨by rw [take_succ_of hb, List.map_append]; rfl, rfl⟩
    · rintro acc ρ ⟨rfl, rfl⟩
      (with_reducible conv => whnf)
      refine ⟨bs.map (keepB (0 :: ms)), by rw [List.length_map, List.take_length, List.map_map]; rfl, ?_⟩
      ((with_reducible conv => whnf); repeat (first | ((with_reducible refine xT ?_ ?_); (· exact rfl); (with_reducible conv => whnf)) | ((with_reducible refine xF ?_ ?_); (· exact rfl); (with_reducible conv => whnf)) | ((with_reducible apply xE); (· exact rfl); (with_reducible conv => whnf)) | ((with_reducible refine And.intro ?_ ?_); (· (first | exact rfl | exact trivial | exact sh_int _ | exact sh_bool _ | ((try dsimp only [Int.reduceToNat]); first | omega | (refine mulw ?_ ?_ ?_ ?_ <;> omega) | (refine divw ?_ ?_ <;> omega) | (refine poww ?_ ?_ ?_ ?_ <;> omega) | (refine divp ?_ ?_ ?_ <;> omega) | (have := szl; simp only [List.length_append, List.length_cons, List.length_nil, List.length_map, List.length_range]; omega) | decide))); (with_reducible conv => whnf))))
      refine fin _ ?_
      rw [isW_ms h, List.all_map]; rfl
  · ((with_reducible conv => whnf); repeat (first | ((with_reducible refine xT ?_ ?_); (· exact rfl); (with_reducible conv => whnf)) | ((with_reducible refine xF ?_ ?_); (· exact rfl); (with_reducible conv => whnf)) | ((with_reducible apply xE); (· exact rfl); (with_reducible conv => whnf)) | ((with_reducible refine And.intro ?_ ?_); (· (first | exact rfl | exact trivial | exact sh_int _ | exact sh_bool _ | ((try dsimp only [Int.reduceToNat]); first | omega | (refine mulw ?_ ?_ ?_ ?_ <;> omega) | (refine divw ?_ ?_ <;> omega) | (refine poww ?_ ?_ ?_ ?_ <;> omega) | (refine divp ?_ ?_ ?_ <;> omega) | (have := szl; simp only [List.length_append, List.length_cons, List.length_nil, List.length_map, List.length_range]; omega) | decide))); (with_reducible conv => whnf))))
    refine fin false ?_
    unfold isW
    rw [h, Bool.false_and]
theorem rd_is_world (cl : Nat → Addr) (as ad) (hp : (sp_is_world cl).pre as) : t_is_world cl (endsOf (sp_is_world cl) as ad) (startS as ad 0 ++ List.replicate 0 .nil) := by
  obtain ⟨n, bs, d, rfl, hs, hd⟩ := hp
  show t_is_world cl (endsOf _ _ _) [.fz (sysD n bs), .fz d]
  unfold t_is_world
  ((with_reducible conv => whnf); repeat (first | ((with_reducible refine xT ?_ ?_); (· exact rfl); (with_reducible conv => whnf)) | ((with_reducible refine xF ?_ ?_); (· exact rfl); (with_reducible conv => whnf)) | ((with_reducible apply xE); (· exact rfl); (with_reducible conv => whnf)) | ((with_reducible refine And.intro ?_ ?_); (· (first | exact rfl | exact trivial | exact sh_int _ | exact sh_bool _ | ((try dsimp only [Int.reduceToNat]); first | omega | (refine mulw ?_ ?_ ?_ ?_ <;> omega) | (refine divw ?_ ?_ <;> omega) | (refine poww ?_ ?_ ?_ ?_ <;> omega) | (refine divp ?_ ?_ ?_ <;> omega) | (have := szl; simp only [List.length_append, List.length_cons, List.length_nil, List.length_map, List.length_range]; omega) | decide))); (with_reducible conv => whnf))))
  refine ⟨⟨_, _, rfl, hs⟩, fun r as' hp => ?_, fun C as' hx => False.elim hx⟩
  obtain ⟨rfl, rfl⟩ := hp; (try (generalize hρ : DL.backA _ _ _ = ρ'; dsimp only [DL.setS, DL.getS, DL.backA, DL.toPw, DL.RR.vr, DL.RR.sl, DL.nils, DL.wrL, List.set, Int.reduceToNat] at hρ; subst hρ)); ((with_reducible conv => whnf); repeat (first | ((with_reducible refine xT ?_ ?_); (· exact rfl); (with_reducible conv => whnf)) | ((with_reducible refine xF ?_ ?_); (· exact rfl); (with_reducible conv => whnf)) | ((with_reducible apply xE); (· exact rfl); (with_reducible conv => whnf)) | ((with_reducible refine And.intro ?_ ?_); (· (first | exact rfl | exact trivial | exact sh_int _ | exact sh_bool _ | ((try dsimp only [Int.reduceToNat]); first | omega | (refine mulw ?_ ?_ ?_ ?_ <;> omega) | (refine divw ?_ ?_ <;> omega) | (refine poww ?_ ?_ ?_ ?_ <;> omega) | (refine divp ?_ ?_ ?_ <;> omega) | (have := szl; simp only [List.length_append, List.length_cons, List.length_nil, List.length_map, List.length_range]; omega) | decide))); (with_reducible conv => whnf))))
  refine ⟨⟨_, _, _, rfl, hs, hd⟩, fun r as' hp => ?_, fun C as' hx => False.elim hx⟩
  obtain ⟨rfl, hp⟩ := hp
  have hq := hp _ _ _ rfl
  subst hq
  (try (generalize hρ : DL.backA _ _ _ = ρ'; dsimp only [DL.setS, DL.getS, DL.backA, DL.toPw, DL.RR.vr, DL.RR.sl, DL.nils, DL.wrL, List.set, Int.reduceToNat] at hρ; subst hρ)); ((with_reducible conv => whnf); repeat (first | ((with_reducible refine xT ?_ ?_); (· exact rfl); (with_reducible conv => whnf)) | ((with_reducible refine xF ?_ ?_); (· exact rfl); (with_reducible conv => whnf)) | ((with_reducible apply xE); (· exact rfl); (with_reducible conv => whnf)) | ((with_reducible refine And.intro ?_ ?_); (· (first | exact rfl | exact trivial | exact sh_int _ | exact sh_bool _ | ((try dsimp only [Int.reduceToNat]); first | omega | (refine mulw ?_ ?_ ?_ ?_ <;> omega) | (refine divw ?_ ?_ <;> omega) | (refine poww ?_ ?_ ?_ ?_ <;> omega) | (refine divp ?_ ?_ ?_ <;> omega) | (have := szl; simp only [List.length_append, List.length_cons, List.length_nil, List.length_map, List.length_range]; omega) | decide))); (with_reducible conv => whnf))))
  exact ⟨rfl, hp⟩
end T08
set_option Elab.async false
set_option linter.all false
set_option maxRecDepth 100000
set_option maxHeartbeats 2000000
namespace T08
open PySem PySem.Spec PyProof.Rows L2 DL
theorem map_at {bs : List Bd} {i : Nat} {x : D} (hi : (bs.map bD)[i]? = some x) : ∃ b, bs[i]? = some b ∧ x = bD b := by
  rw [List.getElem?_map] at hi
  cases hb : bs[i]? with
  | none => rw [hb] at hi; cases hi
  | some b => rw [hb] at hi; cases hi; exact ⟨b, rfl, rfl⟩
theorem enum_at {ds : List D} {i : Nat} {x : D} (hi : (enumD ds)[i]? = some x) : ∃ d, ds[i]? = some d ∧ x = .tuple [.int (i : Nat), d] := by
  have hl := (List.getElem?_eq_some_iff.mp hi).1
  rw [enumD_len] at hl
  have h2 : ds[i]? = some ds[i] := List.getElem?_eq_getElem hl
  rw [enumD_get h2] at hi
  cases hi
  exact ⟨_, h2, rfl⟩
theorem rd_first_broken (cl : Nat → Addr) (as ad) (hp : (sp_first_broken cl).pre as) : t_first_broken cl (endsOf (sp_first_broken cl) as ad) (startS as ad 0 ++ List.replicate 2 .nil) := by
  obtain ⟨n, bs, ms, rfl, hs, hl⟩ := hp
  show t_first_broken cl (endsOf _ _ _) [.fz (sysD n bs), .fz (msD (0 :: ms)), .nil, .nil]
  have fin : ∀ d : D, brkF (keepB (0 :: ms)) bs 0 = d → (sp_first_broken cl).post [.fz (sysD n bs), .fz (msD (0 :: ms))] (.fz d) [.fz (sysD n bs), .fz (msD (0 :: ms))] := by
    intro d hd
    refine ⟨rfl, fun n' bs' ms' e => ?_⟩
    obtain ⟨e1, e3⟩ := sysD_inj (fz2 e).1
    have e2 := msD_inj (fz2 e).2
    subst e1 e2 e3
    rw [hd]
  unfold t_first_broken
  ((with_reducible conv => whnf); repeat (first | ((with_reducible refine xT ?_ ?_); (· exact rfl); (with_reducible conv => whnf)) | ((with_reducible refine xF ?_ ?_); (· exact rfl); (with_reducible conv => whnf)) | ((with_reducible apply xE); (· exact rfl); (with_reducible conv => whnf)) | ((with_reducible refine And.intro ?_ ?_); (· (first | exact rfl | exact trivial | exact sh_int _ | exact sh_bool _ | ((try dsimp only [Int.reduceToNat]); first | omega | (refine mulw ?_ ?_ ?_ ?_ <;> omega) | (refine divw ?_ ?_ <;> omega) | (refine poww ?_ ?_ ?_ ?_ <;> omega) | (refine divp ?_ ?_ ?_ <;> omega) | (have := szl; simp only [List.length_append, List.length_cons, List.length_nil, List.length_map, List.length_range]; omega) | decide))); (with_reducible conv => whnf))))
  refine ⟨⟨_, _, rfl, hs⟩, fun r as' hp => ?_, fun C as' hx => False.elim hx⟩
  obtain ⟨rfl, rfl⟩ := hp; (try (generalize hρ : DL.backA _ _ _ = ρ'; dsimp only [DL.setS, DL.getS, DL.backA, DL.toPw, DL.RR.vr, DL.RR.sl, DL.nils, DL.wrL, List.set, Int.reduceToNat] at hρ; subst hρ)); ((with_reducible conv => whnf); repeat (first | ((with_reducible refine xT ?_ ?_); (· exact rfl); (with_reducible conv => whnf)) | ((with_reducible refine xF ?_ ?_); (· exact rfl); (with_reducible conv => whnf)) | ((with_reducible apply xE); (· exact rfl); (with_reducible conv => whnf)) | ((with_reducible refine And.intro ?_ ?_); (· (first | exact rfl | exact trivial | exact sh_int _ | exact sh_bool _ | ((try dsimp only [Int.reduceToNat]); first | omega | (refine mulw ?_ ?_ ?_ ?_ <;> omega) | (refine divw ?_ ?_ <;> omega) | (refine poww ?_ ?_ ?_ ?_ <;> omega) | (refine divp ?_ ?_ ?_ <;> omega) | (have := szl; simp only [List.length_append, List.length_cons, List.length_nil, List.length_map, List.length_range]; omega) | decide))); (with_reducible conv => whnf))))
  refine ⟨⟨_, _, _, rfl, hs, hl⟩, fun r as' hp => ?_, fun C as' hx => False.elim hx⟩
  obtain ⟨rfl, rfl⟩ := hp; (try (generalize hρ : DL.backA _ _ _ = ρ'; dsimp only [DL.setS, DL.getS, DL.backA, DL.toPw, DL.RR.vr, DL.RR.sl, DL.nils, DL.wrL, List.set, Int.reduceToNat] at hρ; subst hρ)); ((with_reducible conv => whnf); repeat (first | ((with_reducible refine xT ?_ ?_); (· exact rfl); (with_reducible conv => whnf)) | ((with_reducible refine xF ?_ ?_); (· exact rfl); (with_reducible conv => whnf)) | ((with_reducible apply xE); (· exact rfl); (with_reducible conv => whnf)) | ((with_reducible refine And.intro ?_ ?_); (· (first | exact rfl | exact trivial | exact sh_int _ | exact sh_bool _ | ((try dsimp only [Int.reduceToNat]); first | omega | (refine mulw ?_ ?_ ?_ ?_ <;> omega) | (refine divw ?_ ?_ <;> omega) | (refine poww ?_ ?_ ?_ ?_ <;> omega) | (refine divp ?_ ?_ ?_ <;> omega) | (have := szl; simp only [List.length_append, List.length_cons, List.length_nil, List.length_map, List.length_range]; omega) | decide))); (with_reducible conv => whnf))))
  (try unfold DL.sFor); (try unfold DL.sWhile); (try unfold DL.eLc)
  ((with_reducible conv => whnf); repeat (first | ((with_reducible refine xT ?_ ?_); (· exact rfl); (with_reducible conv => whnf)) | ((with_reducible refine xF ?_ ?_); (· exact rfl); (with_reducible conv => whnf)) | ((with_reducible apply xE); (· exact rfl); (with_reducible conv => whnf)) | ((with_reducible refine And.intro ?_ ?_); (· (first | exact rfl | exact trivial | exact sh_int _ | exact sh_bool _ | ((try dsimp only [Int.reduceToNat]); first | omega | (refine mulw ?_ ?_ ?_ ?_ <;> omega) | (refine divw ?_ ?_ <;> omega) | (refine poww ?_ ?_ ?_ ?_ <;> omega) | (refine divp ?_ ?_ ?_ <;> omega) | (have := szl; simp only [List.length_append, List.length_cons, List.length_nil, List.length_map, List.length_range]; omega) | decide))); (with_reducible conv => whnf))))
  refine ⟨fun i ρ => brkF (keepB (0 :: ms)) bs 0 = brkF (keepB (0 :: ms)) (bs.drop i) i ∧ ∃ s2 s3, ρ = [.fz (sysD n bs), .fz (msD (0 :: ms)), s2, s3], ⟨rfl, _, _, rfl⟩, ?_, ?_⟩
  · rintro i x ρ hi ⟨hb, s2, s3, rfl⟩
    obtain ⟨d, h1, rfl⟩ := enum_at hi
    obtain ⟨b, h2, rfl⟩ := map_at h1
    rw [brk_drop h2] at hb
    unfold t_first_broken_b1
    ((with_reducible conv => whnf); repeat (first | ((with_reducible refine xT ?_ ?_); (· exact rfl); (with_reducible conv => whnf)) | ((with_reducible refine xF ?_ ?_); (· exact rfl); (with_reducible conv => whnf)) | ((with_reducible apply xE); (· exact rfl); (with_reducible conv => whnf)) | ((with_reducible refine And.intro ?_ ?_); (· (first | exact rfl | exact trivial | exact sh_int _ | exact sh_bool _ | ((try dsimp only [Int.reduceToNat]); first | omega | (refine mulw ?_ ?_ ?_ ?_ <;> omega) | (refine divw ?_ ?_ <;> omega) | (refine poww ?_ ?_ ?_ ?_ <;> omega) | (refine divp ?_ ?_ ?_ <;> omega) | (have := szl; simp only [List.length_append, List.length_cons, List.length_nil, List.length_map, List.length_range]; omega) | decide))); (with_reducible conv => whnf))))
    refine ⟨⟨_, n, _, rfl, hs.2.2.2 b (List.mem_of_getElem? h2), by rw [List.length_cons]; omega⟩, fun r as' hp => ?_, fun C as' hx => False.elim hx⟩
    obtain ⟨rfl, hp⟩ := hp
    have hp := hp _ _ rfl
    subst hp
    (try (generalize hρ : DL.backA _ _ _ = ρ'; dsimp only [DL.setS, DL.getS, DL.backA, DL.toPw, DL.RR.vr, DL.RR.sl, DL.nils, DL.wrL, List.set, Int.reduceToNat] at hρ; subst hρ)); (with_reducible conv => whnf)
    cases hk : keepB (0 :: ms) b with
    | true =>
      rw [hk, if_pos rfl] at hb
      ((with_reducible conv => whnf); repeat (first | ((with_reducible refine xT ?_ ?_); (· exact rfl); (with_reducible conv => whnf)) | ((with_reducible refine xF ?_ ?_); (· exact rfl); (with_reducible conv => whnf)) | ((with_reducible apply xE); (· exact rfl); (with_reducible conv => whnf)) | ((with_reducible refine And.intro ?_ ?_); (· (first | exact rfl | exact trivial | exact sh_int _ | exact sh_bool _ | ((try dsimp only [Int.reduceToNat]); first | omega | (refine mulw ?_ ?_ ?_ ?_ <;> omega) | (refine divw ?_ ?_ <;> omega) | (refine poww ?_ ?_ ?_ ?_ <;> omega) | (refine divp ?_ ?_ ?_ <;> omega) | (have := szl; simp only [List.length_append, List.length_cons, List.length_nil, List.length_map, List.length_range]; omega) | decide))); (with_reducible conv => whnf))))
      first | exact ⟨hb, _, _, rfl⟩ | exact ⟨_, _, rfl⟩
    | false =>
      rw [hk, if_neg Bool.false_ne_true] at hb
      ((with_reducible conv => whnf); repeat (first | ((with_reducible refine xT ?_ ?_); (· exact rfl); (with_reducible conv => whnf)) | ((with_reducible refine xF ?_ ?_); (· exact rfl); (with_reducible conv => whnf)) | ((with_reducible apply xE); (· exact rfl); (with_reducible conv => whnf)) | ((with_reducible refine And.intro ?_ ?_); (· (first | exact rfl | exact trivial | exact sh_int _ | exact sh_bool _ | ((try dsimp only [Int.reduceToNat]); first | omega | (refine mulw ?_ ?_ ?_ ?_ <;> omega) | (refine divw ?_ ?_ <;> omega) | (refine poww ?_ ?_ ?_ ?_ <;> omega) | (refine divp ?_ ?_ ?_ <;> omega) | (have := szl; simp only [List.length_append, List.length_cons, List.length_nil, List.length_map, List.length_range]; omega) | decide))); (with_reducible conv => whnf))))
      exact fin _ hb
  · rintro ρ ⟨hb, s2, s3, rfl⟩
    rw [enumD_len, List.length_map, List.drop_length] at hb
    ((with_reducible conv => whnf); repeat (first | ((with_reducible refine xT ?_ ?_); (· exact rfl); (with_reducible conv => whnf)) | ((with_reducible refine xF ?_ ?_); (· exact rfl); (with_reducible conv => whnf)) | ((with_reducible apply xE); (· exact rfl); (with_reducible conv => whnf)) | ((with_reducible refine And.intro ?_ ?_); (· (first | exact rfl | exact trivial | exact sh_int _ | exact sh_bool _ | ((try dsimp only [Int.reduceToNat]); first | omega | (refine mulw ?_ ?_ ?_ ?_ <;> omega) | (refine divw ?_ ?_ <;> omega) | (refine poww ?_ ?_ ?_ ?_ <;> omega) | (refine divp ?_ ?_ ?_ <;> omega) | (have := szl; simp only [List.length_append, List.length_cons, List.length_nil, List.length_map, List.length_range]; omega) | decide))); (with_reducible conv => whnf))))
    exact fin _ hb
theorem rd__law_broken (cl : Nat → Addr) (as ad) (hp : (sp__law_broken cl).pre as) : t__law_broken cl (endsOf (sp__law_broken cl) as ad) (startS as ad 0 ++ List.replicate 4 .nil) := by
  obtain ⟨n, bs, ms, rfl, hs, hl⟩ := hp
  show t__law_broken cl (endsOf _ _ _) [.fz (sysD n bs), .fz (msD (0 :: ms)), .nil, .nil, .nil, .nil]
  have fin : ∀ d : D, brkF (keepB (0 :: ms)) bs 0 = d → (sp__law_broken cl).post [.fz (sysD n bs), .fz (msD (0 :: ms))] (.fz d) [.fz (sysD n bs), .fz (msD (0 :: ms))] := by
    intro d hd
    refine ⟨rfl, fun n' bs' ms' e => ?_⟩
    obtain ⟨e1, e3⟩ := sysD_inj (fz2 e).1
    have e2 := msD_inj (fz2 e).2
    subst e1 e2 e3
    rw [hd]
  have hz := hs.2.2.1
  unfold t__law_broken
  ((with_reducible conv => whnf); repeat (first | ((with_reducible refine xT ?_ ?_); (· exact rfl); (with_reducible conv => whnf)) | ((with_reducible refine xF ?_ ?_); (· exact rfl); (with_reducible conv => whnf)) | ((with_reducible apply xE); (· exact rfl); (with_reducible conv => whnf)) | ((with_reducible refine And.intro ?_ ?_); (· (first | exact rfl | exact trivial | exact sh_int _ | exact sh_bool _ | ((try dsimp only [Int.reduceToNat]); first | omega | (refine mulw ?_ ?_ ?_ ?_ <;> omega) | (refine divw ?_ ?_ <;> omega) | (refine poww ?_ ?_ ?_ ?_ <;> omega) | (refine divp ?_ ?_ ?_ <;> omega) | (have := szl; simp only [List.length_append, List.length_cons, List.length_nil, List.length_map, List.length_range]; omega) | decide))); (with_reducible conv => whnf))))
  (try unfold DL.sFor); (try unfold DL.sWhile); (try unfold DL.eLc)
  ((with_reducible conv => whnf); repeat (first | ((with_reducible refine xT ?_ ?_); (· exact rfl); (with_reducible conv => whnf)) | ((with_reducible refine xF ?_ ?_); (· exact rfl); (with_reducible conv => whnf)) | ((with_reducible apply xE); (· exact rfl); (with_reducible conv => whnf)) | ((with_reducible refine And.intro ?_ ?_); (· (first | exact rfl | exact trivial | exact sh_int _ | exact sh_bool _ | ((try dsimp only [Int.reduceToNat]); first | omega | (refine mulw ?_ ?_ ?_ ?_ <;> omega) | (refine divw ?_ ?_ <;> omega) | (refine poww ?_ ?_ ?_ ?_ <;> omega) | (refine divp ?_ ?_ ?_ <;> omega) | (have := szl; simp only [List.length_append, List.length_cons, List.length_nil, List.length_map, List.length_range]; omega) | decide))); (with_reducible conv => whnf))))
  refine ⟨fun i ρ => brkF (keepB (0 :: ms)) bs 0 = brkF (keepB (0 :: ms)) (bs.drop i) i ∧ ∃ s2 s3 s4 s5, ρ = [.fz (sysD n bs), .fz (msD (0 :: ms)), s2, s3, s4, s5], ⟨rfl, _, _, _, _, rfl⟩, ?_, ?_⟩
  · rintro i x ρ hi ⟨hb, s2, s3, s4, s5, rfl⟩
    have hlt := (List.getElem?_eq_some_iff.mp hi).1
    rw [rgD_len] at hlt
    rw [rgD_get hlt] at hi
    cases hi
    rw [List.length_map] at hlt
    have hlt : i < bs.length := by omega
    have h2 : bs[i]? = some bs[i] := List.getElem?_eq_getElem hlt
    generalize bs[i] = b at h2
    rw [brk_drop h2] at hb
    obtain ⟨k1, k2, k3, k4, _⟩ := hs.2.2.2 b (List.mem_of_getElem? h2)
    unfold t__law_broken_b1
    ((with_reducible conv => whnf); repeat (first | ((with_reducible refine xT ?_ ?_); (· exact rfl); (with_reducible conv => whnf)) | ((with_reducible refine xF ?_ ?_); (· exact rfl); (with_reducible conv => whnf)) | ((with_reducible apply xE); (· exact rfl); (with_reducible conv => whnf)) | ((with_reducible refine And.intro ?_ ?_); (· (first | exact rfl | exact trivial | exact sh_int _ | exact sh_bool _ | ((try dsimp only [Int.reduceToNat]); first | omega | (refine mulw ?_ ?_ ?_ ?_ <;> omega) | (refine divw ?_ ?_ <;> omega) | (refine poww ?_ ?_ ?_ ?_ <;> omega) | (refine divp ?_ ?_ ?_ <;> omega) | (have := szl; simp only [List.length_append, List.length_cons, List.length_nil, List.length_map, List.length_range]; omega) | decide))); (with_reducible conv => whnf))))
    have hat : atI (bs.map bD) (0 + (i : Nat) * 1) = some (bD b) := by
      obtain ⟨y, e1, _, e2⟩ := atI_ex (xs := bs.map bD) (i := 0 + (i : Nat) * 1) (by omega) (by rw [List.length_map]; omega)
      rw [e1]
      rw [show (0 + (i : Int) * 1).toNat = i from by omega, List.getElem?_map, h2] at e2
      exact e2.symm
    refine ⟨_, hat, ?_⟩
    ((with_reducible conv => whnf); repeat (first | ((with_reducible refine xT ?_ ?_); (· exact rfl); (with_reducible conv => whnf)) | ((with_reducible refine xF ?_ ?_); (· exact rfl); (with_reducible conv => whnf)) | ((with_reducible apply xE); (· exact rfl); (with_reducible conv => whnf)) | ((with_reducible refine And.intro ?_ ?_); (· (first | exact rfl | exact trivial | exact sh_int _ | exact sh_bool _ | ((try dsimp only [Int.reduceToNat]); first | omega | (refine mulw ?_ ?_ ?_ ?_ <;> omega) | (refine divw ?_ ?_ <;> omega) | (refine poww ?_ ?_ ?_ ?_ <;> omega) | (refine divp ?_ ?_ ?_ <;> omega) | (have := szl; simp only [List.length_append, List.length_cons, List.length_nil, List.length_map, List.length_range]; omega) | decide))); (with_reducible conv => whnf))))
    refine ⟨_, at_ms k1 (by rw [List.length_cons]; omega), ?_⟩
    ((with_reducible conv => whnf); repeat (first | ((with_reducible refine xT ?_ ?_); (· exact rfl); (with_reducible conv => whnf)) | ((with_reducible refine xF ?_ ?_); (· exact rfl); (with_reducible conv => whnf)) | ((with_reducible apply xE); (· exact rfl); (with_reducible conv => whnf)) | ((with_reducible refine And.intro ?_ ?_); (· (first | exact rfl | exact trivial | exact sh_int _ | exact sh_bool _ | ((try dsimp only [Int.reduceToNat]); first | omega | (refine mulw ?_ ?_ ?_ ?_ <;> omega) | (refine divw ?_ ?_ <;> omega) | (refine poww ?_ ?_ ?_ ?_ <;> omega) | (refine divp ?_ ?_ ?_ <;> omega) | (have := szl; simp only [List.length_append, List.length_cons, List.length_nil, List.length_map, List.length_range]; omega) | decide))); (with_reducible conv => whnf))))
    refine ⟨_, at_ms k3 (by rw [List.length_cons]; omega), ?_⟩
    ((with_reducible conv => whnf); repeat (first | ((with_reducible refine xT ?_ ?_); (· exact rfl); (with_reducible conv => whnf)) | ((with_reducible refine xF ?_ ?_); (· exact rfl); (with_reducible conv => whnf)) | ((with_reducible apply xE); (· exact rfl); (with_reducible conv => whnf)) | ((with_reducible refine And.intro ?_ ?_); (· (first | exact rfl | exact trivial | exact sh_int _ | exact sh_bool _ | ((try dsimp only [Int.reduceToNat]); first | omega | (refine mulw ?_ ?_ ?_ ?_ <;> omega) | (refine divw ?_ ?_ <;> omega) | (refine poww ?_ ?_ ?_ ?_ <;> omega) | (refine divp ?_ ?_ ?_ <;> omega) | (have := szl; simp only [List.length_append, List.length_cons, List.length_nil, List.length_map, List.length_range]; omega) | decide))); (with_reducible conv => whnf))))
    refine xBd (fun h => ?_) (fun h => ?_)
    · have hk : keepB (0 :: ms) b = false := by unfold keepB; exact decide_eq_false (by omega)
      rw [hk, if_neg Bool.false_ne_true] at hb
      ((with_reducible conv => whnf); repeat (first | ((with_reducible refine xT ?_ ?_); (· exact rfl); (with_reducible conv => whnf)) | ((with_reducible refine xF ?_ ?_); (· exact rfl); (with_reducible conv => whnf)) | ((with_reducible apply xE); (· exact rfl); (with_reducible conv => whnf)) | ((with_reducible refine And.intro ?_ ?_); (· (first | exact rfl | exact trivial | exact sh_int _ | exact sh_bool _ | ((try dsimp only [Int.reduceToNat]); first | omega | (refine mulw ?_ ?_ ?_ ?_ <;> omega) | (refine divw ?_ ?_ <;> omega) | (refine poww ?_ ?_ ?_ ?_ <;> omega) | (refine divp ?_ ?_ ?_ <;> omega) | (have := szl; simp only [List.length_append, List.length_cons, List.length_nil, List.length_map, List.length_range]; omega) | decide))); (with_reducible conv => whnf))))
      rw [show (0 + (i : Int) * 1) = (i : Nat) from by omega]
      exact fin _ hb
    · have hk : keepB (0 :: ms) b = true := by unfold keepB; exact decide_eq_true (by omega)
      rw [hk, if_pos rfl] at hb
      ((with_reducible conv => whnf); repeat (first | ((with_reducible refine xT ?_ ?_); (· exact rfl); (with_reducible conv => whnf)) | ((with_reducible refine xF ?_ ?_); (· exact rfl); (with_reducible conv => whnf)) | ((with_reducible apply xE); (· exact rfl); (with_reducible conv => whnf)) | ((with_reducible refine And.intro ?_ ?_); (· (first | exact rfl | exact trivial | exact sh_int _ | exact sh_bool _ | ((try dsimp only [Int.reduceToNat]); first | omega | (refine mulw ?_ ?_ ?_ ?_ <;> omega) | (refine divw ?_ ?_ <;> omega) | (refine poww ?_ ?_ ?_ ?_ <;> omega) | (refine divp ?_ ?_ ?_ <;> omega) | (have := szl; simp only [List.length_append, List.length_cons, List.length_nil, List.length_map, List.length_range]; omega) | decide))); (with_reducible conv => whnf))))
      first | exact ⟨hb, _, _, _, _, rfl⟩ | exact ⟨_, _, _, _, rfl⟩
  · rintro ρ ⟨hb, s2, s3, s4, s5, rfl⟩
    rw [rgD_len, show ((bs.map bD).length : Int).toNat = bs.length from by rw [List.length_map]; omega, List.drop_length] at hb
    ((with_reducible conv => whnf); repeat (first | ((with_reducible refine xT ?_ ?_); (· exact rfl); (with_reducible conv => whnf)) | ((with_reducible refine xF ?_ ?_); (· exact rfl); (with_reducible conv => whnf)) | ((with_reducible apply xE); (· exact rfl); (with_reducible conv => whnf)) | ((with_reducible refine And.intro ?_ ?_); (· (first | exact rfl | exact trivial | exact sh_int _ | exact sh_bool _ | ((try dsimp only [Int.reduceToNat]); first | omega | (refine mulw ?_ ?_ ?_ ?_ <;> omega) | (refine divw ?_ ?_ <;> omega) | (refine poww ?_ ?_ ?_ ?_ <;> omega) | (refine divp ?_ ?_ ?_ <;> omega) | (have := szl; simp only [List.length_append, List.length_cons, List.length_nil, List.length_map, List.length_range]; omega) | decide))); (with_reducible conv => whnf))))
    exact fin _ hb
theorem rd__law_urn (cl : Nat → Addr) (as ad) (hp : (sp__law_urn cl).pre as) : t__law_urn cl (endsOf (sp__law_urn cl) as ad) (startS as ad 0 ++ List.replicate 1 .nil) := by
  obtain ⟨ns, t, rfl, h1, h2⟩ := hp
  show t__law_urn cl (endsOf _ _ _) [.sc ns, .fz (.int t), .nil]
  have e : (10 : Int) ^ Int.toNat 26 = 10 ^ 26 := rfl
  unfold t__law_urn
  ((with_reducible conv => whnf); repeat (first | ((with_reducible refine xT ?_ ?_); (· exact rfl); (with_reducible conv => whnf)) | ((with_reducible refine xF ?_ ?_); (· exact rfl); (with_reducible conv => whnf)) | ((with_reducible apply xE); (· exact rfl); (with_reducible conv => whnf)) | ((with_reducible refine And.intro ?_ ?_); (· (first | exact rfl | exact trivial | exact sh_int _ | exact sh_bool _ | ((try dsimp only [Int.reduceToNat]); first | omega | (refine mulw ?_ ?_ ?_ ?_ <;> omega) | (refine divw ?_ ?_ <;> omega) | (refine poww ?_ ?_ ?_ ?_ <;> omega) | (refine divp ?_ ?_ ?_ <;> omega) | (have := szl; simp only [List.length_append, List.length_cons, List.length_nil, List.length_map, List.length_range]; omega) | decide))); (with_reducible conv => whnf))))
  refine xBd (fun h => ?_) (fun h => ?_)
  · (with_reducible conv => whnf)
    obtain ⟨x, hx, _⟩ := atI_ex (xs := ns) h1 (by omega)
    refine ⟨x, hx, ?_⟩
    ((with_reducible conv => whnf); repeat (first | ((with_reducible refine xT ?_ ?_); (· exact rfl); (with_reducible conv => whnf)) | ((with_reducible refine xF ?_ ?_); (· exact rfl); (with_reducible conv => whnf)) | ((with_reducible apply xE); (· exact rfl); (with_reducible conv => whnf)) | ((with_reducible refine And.intro ?_ ?_); (· (first | exact rfl | exact trivial | exact sh_int _ | exact sh_bool _ | ((try dsimp only [Int.reduceToNat]); first | omega | (refine mulw ?_ ?_ ?_ ?_ <;> omega) | (refine divw ?_ ?_ <;> omega) | (refine poww ?_ ?_ ?_ ?_ <;> omega) | (refine divp ?_ ?_ ?_ <;> omega) | (have := szl; simp only [List.length_append, List.length_cons, List.length_nil, List.length_map, List.length_range]; omega) | decide))); (with_reducible conv => whnf))))
    intro ns t e; cases e
    have := modpos x (b := 10 ^ Int.toNat 26 + 67) (by decide)
    exact ⟨_, _, rfl, rfl, by omega, by omega⟩
  · ((with_reducible conv => whnf); repeat (first | ((with_reducible refine xT ?_ ?_); (· exact rfl); (with_reducible conv => whnf)) | ((with_reducible refine xF ?_ ?_); (· exact rfl); (with_reducible conv => whnf)) | ((with_reducible apply xE); (· exact rfl); (with_reducible conv => whnf)) | ((with_reducible refine And.intro ?_ ?_); (· (first | exact rfl | exact trivial | exact sh_int _ | exact sh_bool _ | ((try dsimp only [Int.reduceToNat]); first | omega | (refine mulw ?_ ?_ ?_ ?_ <;> omega) | (refine divw ?_ ?_ <;> omega) | (refine poww ?_ ?_ ?_ ?_ <;> omega) | (refine divp ?_ ?_ ?_ <;> omega) | (have := szl; simp only [List.length_append, List.length_cons, List.length_nil, List.length_map, List.length_range]; omega) | decide))); (with_reducible conv => whnf))))
    intro ns t e; cases e
    have := modpos (53 * t + 29) (b := 10 ^ Int.toNat 26 + 67) (by decide)
    exact ⟨_, _, rfl, rfl, by omega, by omega⟩
theorem rd__law_pick (cl : Nat → Addr) (as ad) (hp : (sp__law_pick cl).pre as) : t__law_pick cl (endsOf (sp__law_pick cl) as ad) (startS as ad 0 ++ List.replicate 2 .nil) := by
  obtain ⟨a, b, c, n, rfl, h1, h2, h3, h4, h5, h6⟩ := hp
  show t__law_pick cl (endsOf _ _ _) [.pw (ad 0) (.l [.int a, .int b, .int c]), .fz (.int n), .nil, .nil]
  unfold t__law_pick
  ((with_reducible conv => whnf); repeat' (first | ((with_reducible refine xT ?_ ?_); (· exact rfl); (with_reducible conv => whnf)) | ((with_reducible refine xF ?_ ?_); (· exact rfl); (with_reducible conv => whnf)) | ((with_reducible apply xE); (· exact rfl); (with_reducible conv => whnf)) | ((with_reducible refine And.intro ?_ ?_); (· (first | exact rfl | exact trivial | exact sh_int _ | exact sh_bool _ | ((try dsimp only [Int.reduceToNat]); first | omega | (refine mulw ?_ ?_ ?_ ?_ <;> omega) | (refine divw ?_ ?_ <;> omega) | (refine poww ?_ ?_ ?_ ?_ <;> omega) | (refine divp ?_ ?_ ?_ <;> omega) | (have := szl; simp only [List.length_append, List.length_cons, List.length_nil, List.length_map, List.length_range]; omega) | decide))); (with_reducible conv => whnf)) | (refine xBeq (fun h => ?_) (fun h => ?_) <;> (with_reducible conv => whnf)) | (refine xBne (fun h => ?_) (fun h => ?_) <;> (with_reducible conv => whnf)) | (refine xBd (fun h => ?_) (fun h => ?_) <;> (with_reducible conv => whnf)) | (refine xNd (fun h => ?_) (fun h => ?_) <;> (with_reducible conv => whnf)) | (refine xNB (fun h => ?_) (fun h => ?_) <;> (with_reducible conv => whnf)) | (refine xB (fun h => ?_) (fun h => ?_) <;> (with_reducible conv => whnf))))
  · intro a b c n e; cases e
    have := modpos a h5
    exact ⟨_, _, _, rfl, rfl, this.1, this.2, by omega, by omega⟩
  · intro a b c n e; cases e
    exact ⟨_, _, _, rfl, rfl, (modpos _ h5).1, (modpos _ h5).2, by omega, by omega⟩
end T08
set_option Elab.async false
set_option linter.all false
set_option maxRecDepth 100000
set_option maxHeartbeats 2000000
namespace T08
open PySem PySem.Spec PyProof.Rows L2 DL
theorem rd__law_reach (cl : Nat → Addr) (as ad) (hp : (sp__law_reach cl).pre as) : t__law_reach cl (endsOf (sp__law_reach cl) as ad) (startS as ad 0 ++ List.replicate 2 .nil) := by
  obtain ⟨a, b, c, rfl, h1, h2, h3, h4⟩ := hp
  show t__law_reach cl (endsOf _ _ _) [.pw (ad 0) (.l [.int a, .int b, .int c]), .nil, .nil]
  unfold t__law_reach
  ((with_reducible conv => whnf); repeat (first | ((with_reducible refine xT ?_ ?_); (· exact rfl); (with_reducible conv => whnf)) | ((with_reducible refine xF ?_ ?_); (· exact rfl); (with_reducible conv => whnf)) | ((with_reducible apply xE); (· exact rfl); (with_reducible conv => whnf)) | ((with_reducible refine And.intro ?_ ?_); (· (first | exact rfl | exact trivial | exact sh_int _ | exact sh_bool _ | ((try dsimp only [Int.reduceToNat]); first | omega | (refine mulw ?_ ?_ ?_ ?_ <;> omega) | (refine divw ?_ ?_ <;> omega) | (refine poww ?_ ?_ ?_ ?_ <;> omega) | (refine divp ?_ ?_ ?_ <;> omega) | (have := szl; simp only [List.length_append, List.length_cons, List.length_nil, List.length_map, List.length_range]; omega) | decide))); (with_reducible conv => whnf))))
  refine ⟨⟨_, _, _, _, rfl, by omega⟩, fun r as' hp => ?_, fun C as' hx => False.elim hx⟩
  obtain ⟨a1, c1, v1, rfl, rfl, k1⟩ := hp _ _ _ _ rfl; clear hp; (try (generalize hρ : DL.backA _ _ _ = ρ'; dsimp only [DL.setS, DL.getS, DL.backA, DL.toPw, DL.RR.vr, DL.RR.sl, DL.nils, DL.wrL, List.set, Int.reduceToNat] at hρ; subst hρ)); ((with_reducible conv => whnf); repeat (first | ((with_reducible refine xT ?_ ?_); (· exact rfl); (with_reducible conv => whnf)) | ((with_reducible refine xF ?_ ?_); (· exact rfl); (with_reducible conv => whnf)) | ((with_reducible apply xE); (· exact rfl); (with_reducible conv => whnf)) | ((with_reducible refine And.intro ?_ ?_); (· (first | exact rfl | exact trivial | exact sh_int _ | exact sh_bool _ | ((try dsimp only [Int.reduceToNat]); first | omega | (refine mulw ?_ ?_ ?_ ?_ <;> omega) | (refine divw ?_ ?_ <;> omega) | (refine poww ?_ ?_ ?_ ?_ <;> omega) | (refine divp ?_ ?_ ?_ <;> omega) | (have := szl; simp only [List.length_append, List.length_cons, List.length_nil, List.length_map, List.length_range]; omega) | decide))); (with_reducible conv => whnf))))
  refine ⟨⟨_, _, _, _, rfl, by omega⟩, fun r as' hp => ?_, fun C as' hx => False.elim hx⟩
  obtain ⟨a2, c2, v2, rfl, rfl, k2⟩ := hp _ _ _ _ rfl; clear hp; (try (generalize hρ : DL.backA _ _ _ = ρ'; dsimp only [DL.setS, DL.getS, DL.backA, DL.toPw, DL.RR.vr, DL.RR.sl, DL.nils, DL.wrL, List.set, Int.reduceToNat] at hρ; subst hρ)); ((with_reducible conv => whnf); repeat (first | ((with_reducible refine xT ?_ ?_); (· exact rfl); (with_reducible conv => whnf)) | ((with_reducible refine xF ?_ ?_); (· exact rfl); (with_reducible conv => whnf)) | ((with_reducible apply xE); (· exact rfl); (with_reducible conv => whnf)) | ((with_reducible refine And.intro ?_ ?_); (· (first | exact rfl | exact trivial | exact sh_int _ | exact sh_bool _ | ((try dsimp only [Int.reduceToNat]); first | omega | (refine mulw ?_ ?_ ?_ ?_ <;> omega) | (refine divw ?_ ?_ <;> omega) | (refine poww ?_ ?_ ?_ ?_ <;> omega) | (refine divp ?_ ?_ ?_ <;> omega) | (have := szl; simp only [List.length_append, List.length_cons, List.length_nil, List.length_map, List.length_range]; omega) | decide))); (with_reducible conv => whnf))))
  refine ⟨⟨_, _, _, _, rfl, by dsimp only [Int.reduceToNat]; omega⟩, fun r as' hp => ?_, fun C as' hx => False.elim hx⟩
  obtain ⟨a3, c3, v3, rfl, rfl, k3⟩ := hp _ _ _ _ rfl
  have k3 : 0 ≤ v3 ∧ v3 < 10 ^ 6 ∧ c2 ≤ c3 ∧ c3 ≤ c2 + 1 := k3
  clear hp; (try (generalize hρ : DL.backA _ _ _ = ρ'; dsimp only [DL.setS, DL.getS, DL.backA, DL.toPw, DL.RR.vr, DL.RR.sl, DL.nils, DL.wrL, List.set, Int.reduceToNat] at hρ; subst hρ)); ((with_reducible conv => whnf); repeat (first | ((with_reducible refine xT ?_ ?_); (· exact rfl); (with_reducible conv => whnf)) | ((with_reducible refine xF ?_ ?_); (· exact rfl); (with_reducible conv => whnf)) | ((with_reducible apply xE); (· exact rfl); (with_reducible conv => whnf)) | ((with_reducible refine And.intro ?_ ?_); (· (first | exact rfl | exact trivial | exact sh_int _ | exact sh_bool _ | ((try dsimp only [Int.reduceToNat]); first | omega | (refine mulw ?_ ?_ ?_ ?_ <;> omega) | (refine divw ?_ ?_ <;> omega) | (refine poww ?_ ?_ ?_ ?_ <;> omega) | (refine divp ?_ ?_ ?_ <;> omega) | (have := szl; simp only [List.length_append, List.length_cons, List.length_nil, List.length_map, List.length_range]; omega) | decide))); (with_reducible conv => whnf))))
  refine ⟨⟨_, _, _, _, rfl, by omega⟩, fun r as' hp => ?_, fun C as' hx => False.elim hx⟩
  obtain ⟨a4, c4, v4, rfl, rfl, k4⟩ := hp _ _ _ _ rfl; clear hp; (try (generalize hρ : DL.backA _ _ _ = ρ'; dsimp only [DL.setS, DL.getS, DL.backA, DL.toPw, DL.RR.vr, DL.RR.sl, DL.nils, DL.wrL, List.set, Int.reduceToNat] at hρ; subst hρ)); ((with_reducible conv => whnf); repeat (first | ((with_reducible refine xT ?_ ?_); (· exact rfl); (with_reducible conv => whnf)) | ((with_reducible refine xF ?_ ?_); (· exact rfl); (with_reducible conv => whnf)) | ((with_reducible apply xE); (· exact rfl); (with_reducible conv => whnf)) | ((with_reducible refine And.intro ?_ ?_); (· (first | exact rfl | exact trivial | exact sh_int _ | exact sh_bool _ | ((try dsimp only [Int.reduceToNat]); first | omega | (refine mulw ?_ ?_ ?_ ?_ <;> omega) | (refine divw ?_ ?_ <;> omega) | (refine poww ?_ ?_ ?_ ?_ <;> omega) | (refine divp ?_ ?_ ?_ <;> omega) | (have := szl; simp only [List.length_append, List.length_cons, List.length_nil, List.length_map, List.length_range]; omega) | decide))); (with_reducible conv => whnf))))
  refine ⟨⟨_, _, _, _, rfl, by omega⟩, fun r as' hp => ?_, fun C as' hx => False.elim hx⟩
  obtain ⟨a5, c5, v5, rfl, rfl, k5⟩ := hp _ _ _ _ rfl; clear hp; (try (generalize hρ : DL.backA _ _ _ = ρ'; dsimp only [DL.setS, DL.getS, DL.backA, DL.toPw, DL.RR.vr, DL.RR.sl, DL.nils, DL.wrL, List.set, Int.reduceToNat] at hρ; subst hρ)); ((with_reducible conv => whnf); repeat (first | ((with_reducible refine xT ?_ ?_); (· exact rfl); (with_reducible conv => whnf)) | ((with_reducible refine xF ?_ ?_); (· exact rfl); (with_reducible conv => whnf)) | ((with_reducible apply xE); (· exact rfl); (with_reducible conv => whnf)) | ((with_reducible refine And.intro ?_ ?_); (· (first | exact rfl | exact trivial | exact sh_int _ | exact sh_bool _ | ((try dsimp only [Int.reduceToNat]); first | omega | (refine mulw ?_ ?_ ?_ ?_ <;> omega) | (refine divw ?_ ?_ <;> omega) | (refine poww ?_ ?_ ?_ ?_ <;> omega) | (refine divp ?_ ?_ ?_ <;> omega) | (have := szl; simp only [List.length_append, List.length_cons, List.length_nil, List.length_map, List.length_range]; omega) | decide))); (with_reducible conv => whnf))))
  obtain ⟨x, hx, hm, _⟩ := atI_ex (xs := [PyData.int v1, .int v2, .int (v3 * 10 ^ Int.toNat 23 + v4)]) (i := v5) k5.1 k5.2.1
  obtain ⟨k, rfl⟩ : ∃ k : Int, x = .int k := by
    simp only [List.mem_cons, List.mem_nil_iff, or_false] at hm
    rcases hm with rfl | rfl | rfl <;> exact ⟨_, rfl⟩
  refine ⟨_, hx, ?_⟩
  ((with_reducible conv => whnf); repeat (first | ((with_reducible refine xT ?_ ?_); (· exact rfl); (with_reducible conv => whnf)) | ((with_reducible refine xF ?_ ?_); (· exact rfl); (with_reducible conv => whnf)) | ((with_reducible apply xE); (· exact rfl); (with_reducible conv => whnf)) | ((with_reducible refine And.intro ?_ ?_); (· (first | exact rfl | exact trivial | exact sh_int _ | exact sh_bool _ | ((try dsimp only [Int.reduceToNat]); first | omega | (refine mulw ?_ ?_ ?_ ?_ <;> omega) | (refine divw ?_ ?_ <;> omega) | (refine poww ?_ ?_ ?_ ?_ <;> omega) | (refine divp ?_ ?_ ?_ <;> omega) | (have := szl; simp only [List.length_append, List.length_cons, List.length_nil, List.length_map, List.length_range]; omega) | decide))); (with_reducible conv => whnf))))
  refine ⟨⟨_, _, _, _, rfl, by omega⟩, fun r as' hp => ?_, fun C as' hx => False.elim hx⟩
  obtain ⟨a6, c6, v6, rfl, rfl, k6⟩ := hp _ _ _ _ rfl; clear hp; (try (generalize hρ : DL.backA _ _ _ = ρ'; dsimp only [DL.setS, DL.getS, DL.backA, DL.toPw, DL.RR.vr, DL.RR.sl, DL.nils, DL.wrL, List.set, Int.reduceToNat] at hρ; subst hρ)); ((with_reducible conv => whnf); repeat (first | ((with_reducible refine xT ?_ ?_); (· exact rfl); (with_reducible conv => whnf)) | ((with_reducible refine xF ?_ ?_); (· exact rfl); (with_reducible conv => whnf)) | ((with_reducible apply xE); (· exact rfl); (with_reducible conv => whnf)) | ((with_reducible refine And.intro ?_ ?_); (· (first | exact rfl | exact trivial | exact sh_int _ | exact sh_bool _ | ((try dsimp only [Int.reduceToNat]); first | omega | (refine mulw ?_ ?_ ?_ ?_ <;> omega) | (refine divw ?_ ?_ <;> omega) | (refine poww ?_ ?_ ?_ ?_ <;> omega) | (refine divp ?_ ?_ ?_ <;> omega) | (have := szl; simp only [List.length_append, List.length_cons, List.length_nil, List.length_map, List.length_range]; omega) | decide))); (with_reducible conv => whnf))))
  obtain ⟨x, hx, hm, _⟩ := atI_ex (xs := [PyData.int k, .int (-k)]) (i := v6) k6.1 k6.2.1
  obtain ⟨k', rfl⟩ : ∃ k : Int, x = .int k := by
    simp only [List.mem_cons, List.mem_nil_iff, or_false] at hm
    rcases hm with rfl | rfl <;> exact ⟨_, rfl⟩
  refine ⟨_, hx, ?_⟩
  ((with_reducible conv => whnf); repeat (first | ((with_reducible refine xT ?_ ?_); (· exact rfl); (with_reducible conv => whnf)) | ((with_reducible refine xF ?_ ?_); (· exact rfl); (with_reducible conv => whnf)) | ((with_reducible apply xE); (· exact rfl); (with_reducible conv => whnf)) | ((with_reducible refine And.intro ?_ ?_); (· (first | exact rfl | exact trivial | exact sh_int _ | exact sh_bool _ | ((try dsimp only [Int.reduceToNat]); first | omega | (refine mulw ?_ ?_ ?_ ?_ <;> omega) | (refine divw ?_ ?_ <;> omega) | (refine poww ?_ ?_ ?_ ?_ <;> omega) | (refine divp ?_ ?_ ?_ <;> omega) | (have := szl; simp only [List.length_append, List.length_cons, List.length_nil, List.length_map, List.length_range]; omega) | decide))); (with_reducible conv => whnf))))
  intro a b c e; cases e
  exact ⟨_, _, _, rfl, rfl, by omega, by omega⟩
theorem rd__law_whole (cl : Nat → Addr) (as ad) (hp : (sp__law_whole cl).pre as) : t__law_whole cl (endsOf (sp__law_whole cl) as ad) (startS as ad 0 ++ List.replicate 0 .nil) := by
  obtain ⟨d, rfl, hd⟩ := hp
  show t__law_whole cl (endsOf _ _ _) [.fz d]
  unfold t__law_whole
  cases d with
  | dict k =>
    (with_reducible conv => whnf)
    refine ⟨hd, ?_⟩
    ((with_reducible conv => whnf); repeat (first | ((with_reducible refine xT ?_ ?_); (· exact rfl); (with_reducible conv => whnf)) | ((with_reducible refine xF ?_ ?_); (· exact rfl); (with_reducible conv => whnf)) | ((with_reducible apply xE); (· exact rfl); (with_reducible conv => whnf)) | ((with_reducible refine And.intro ?_ ?_); (· (first | exact rfl | exact trivial | exact sh_int _ | exact sh_bool _ | ((try dsimp only [Int.reduceToNat]); first | omega | (refine mulw ?_ ?_ ?_ ?_ <;> omega) | (refine divw ?_ ?_ <;> omega) | (refine poww ?_ ?_ ?_ ?_ <;> omega) | (refine divp ?_ ?_ ?_ <;> omega) | (have := szl; simp only [List.length_append, List.length_cons, List.length_nil, List.length_map, List.length_range]; omega) | decide))); (with_reducible conv => whnf))))
    intro d e; cases e; exact ⟨rfl, rfl⟩
  | _ =>
    ((with_reducible conv => whnf); repeat (first | ((with_reducible refine xT ?_ ?_); (· exact rfl); (with_reducible conv => whnf)) | ((with_reducible refine xF ?_ ?_); (· exact rfl); (with_reducible conv => whnf)) | ((with_reducible apply xE); (· exact rfl); (with_reducible conv => whnf)) | ((with_reducible refine And.intro ?_ ?_); (· (first | exact rfl | exact trivial | exact sh_int _ | exact sh_bool _ | ((try dsimp only [Int.reduceToNat]); first | omega | (refine mulw ?_ ?_ ?_ ?_ <;> omega) | (refine divw ?_ ?_ <;> omega) | (refine poww ?_ ?_ ?_ ?_ <;> omega) | (refine divp ?_ ?_ ?_ <;> omega) | (have := szl; simp only [List.length_append, List.length_cons, List.length_nil, List.length_map, List.length_range]; omega) | decide))); (with_reducible conv => whnf))))
    intro d e; cases e; exact ⟨rfl, rfl⟩
theorem rd__law_says (cl : Nat → Addr) (as ad) (hp : (sp__law_says cl).pre as) : t__law_says cl (endsOf (sp__law_says cl) as ad) (startS as ad 0 ++ List.replicate 0 .nil) := by
  obtain ⟨a, b, rfl⟩ := hp
  show t__law_says cl (endsOf _ _ _) [.fz (.bool a), .fz (.bool b)]
  unfold t__law_says
  ((with_reducible conv => whnf); repeat (first | ((with_reducible refine xT ?_ ?_); (· exact rfl); (with_reducible conv => whnf)) | ((with_reducible refine xF ?_ ?_); (· exact rfl); (with_reducible conv => whnf)) | ((with_reducible apply xE); (· exact rfl); (with_reducible conv => whnf)) | ((with_reducible refine And.intro ?_ ?_); (· (first | exact rfl | exact trivial | exact sh_int _ | exact sh_bool _ | ((try dsimp only [Int.reduceToNat]); first | omega | (refine mulw ?_ ?_ ?_ ?_ <;> omega) | (refine divw ?_ ?_ <;> omega) | (refine poww ?_ ?_ ?_ ?_ <;> omega) | (refine divp ?_ ?_ ?_ <;> omega) | (have := szl; simp only [List.length_append, List.length_cons, List.length_nil, List.length_map, List.length_range]; omega) | decide))); (with_reducible conv => whnf))))
  intro a b e; cases e
  exact ⟨rfl, by rw [Bool.false_xor]; rfl⟩
theorem okT_it' {cls : List Addr} {ds : List D} (h : okT cls (.tuple ds)) {d : D} (hd : d ∈ ds) : exOk cls d := by
  have := (h.2 ds rfl).1 d hd
  cases d with
  | dict k => exact absurd rfl (this k)
  | _ => trivial
theorem rd__law_moments (cl : Nat → Addr) (as ad) (hp : (sp__law_moments cl).pre as) : t__law_moments cl (endsOf (sp__law_moments cl) as ad) (startS as ad 0 ++ List.replicate 1 .nil) := by
  obtain ⟨n, bs, d, rfl, hs, hd⟩ := hp
  show t__law_moments cl (endsOf _ _ _) [.fz (sysD n bs), .fz d, .nil]
  have fin : ∀ b : Bool, hasM n d = b → (sp__law_moments cl).post [.fz (sysD n bs), .fz d] (.fz (.bool b)) [.fz (sysD n bs), .fz d] := by
    intro b hb
    refine ⟨rfl, fun n' bs' d' e => ?_⟩
    have e1 := (sysD_inj (fz2 e).1).1
    have e2 := (fz2 e).2
    subst e1 e2
    rw [hb]
  unfold t__law_moments
  cases d with
  | tuple ds =>
    ((with_reducible conv => whnf); repeat (first | ((with_reducible refine xT ?_ ?_); (· exact rfl); (with_reducible conv => whnf)) | ((with_reducible refine xF ?_ ?_); (· exact rfl); (with_reducible conv => whnf)) | ((with_reducible apply xE); (· exact rfl); (with_reducible conv => whnf)) | ((with_reducible refine And.intro ?_ ?_); (· (first | exact rfl | exact trivial | exact sh_int _ | exact sh_bool _ | ((try dsimp only [Int.reduceToNat]); first | omega | (refine mulw ?_ ?_ ?_ ?_ <;> omega) | (refine divw ?_ ?_ <;> omega) | (refine poww ?_ ?_ ?_ ?_ <;> omega) | (refine divp ?_ ?_ ?_ <;> omega) | (have := szl; simp only [List.length_append, List.length_cons, List.length_nil, List.length_map, List.length_range]; omega) | decide))); (with_reducible conv => whnf))))
    refine xBne (fun h => ?_) (fun h => ?_)
    · ((with_reducible conv => whnf); repeat (first | ((with_reducible refine xT ?_ ?_); (· exact rfl); (with_reducible conv => whnf)) | ((with_reducible refine xF ?_ ?_); (· exact rfl); (with_reducible conv => whnf)) | ((with_reducible apply xE); (· exact rfl); (with_reducible conv => whnf)) | ((with_reducible refine And.intro ?_ ?_); (· (first | exact rfl | exact trivial | exact sh_int _ | exact sh_bool _ | ((try dsimp only [Int.reduceToNat]); first | omega | (refine mulw ?_ ?_ ?_ ?_ <;> omega) | (refine divw ?_ ?_ <;> omega) | (refine poww ?_ ?_ ?_ ?_ <;> omega) | (refine divp ?_ ?_ ?_ <;> omega) | (have := szl; simp only [List.length_append, List.length_cons, List.length_nil, List.length_map, List.length_range]; omega) | decide))); (with_reducible conv => whnf))))
      exact fin false (by simp only [hasM]; rw [decide_eq_false h]; rfl)
    · ((with_reducible conv => whnf); repeat (first | ((with_reducible refine xT ?_ ?_); (· exact rfl); (with_reducible conv => whnf)) | ((with_reducible refine xF ?_ ?_); (· exact rfl); (with_reducible conv => whnf)) | ((with_reducible apply xE); (· exact rfl); (with_reducible conv => whnf)) | ((with_reducible refine And.intro ?_ ?_); (· (first | exact rfl | exact trivial | exact sh_int _ | exact sh_bool _ | ((try dsimp only [Int.reduceToNat]); first | omega | (refine mulw ?_ ?_ ?_ ?_ <;> omega) | (refine divw ?_ ?_ <;> omega) | (refine poww ?_ ?_ ?_ ?_ <;> omega) | (refine divp ?_ ?_ ?_ <;> omega) | (have := szl; simp only [List.length_append, List.length_cons, List.length_nil, List.length_map, List.length_range]; omega) | decide))); (with_reducible conv => whnf))))
      (try unfold DL.sFor); (try unfold DL.sWhile); (try unfold DL.eLc)
      ((with_reducible conv => whnf); repeat (first | ((with_reducible refine xT ?_ ?_); (· exact rfl); (with_reducible conv => whnf)) | ((with_reducible refine xF ?_ ?_); (· exact rfl); (with_reducible conv => whnf)) | ((with_reducible apply xE); (· exact rfl); (with_reducible conv => whnf)) | ((with_reducible refine And.intro ?_ ?_); (· (first | exact rfl | exact trivial | exact sh_int _ | exact sh_bool _ | ((try dsimp only [Int.reduceToNat]); first | omega | (refine mulw ?_ ?_ ?_ ?_ <;> omega) | (refine divw ?_ ?_ <;> omega) | (refine poww ?_ ?_ ?_ ?_ <;> omega) | (refine divp ?_ ?_ ?_ <;> omega) | (have := szl; simp only [List.length_append, List.length_cons, List.length_nil, List.length_map, List.length_range]; omega) | decide))); (with_reducible conv => whnf))))
      refine ⟨fun i acc ρ => acc = (ds.take i).filter (fun d => !isIntg d) ∧ ρ = [.fz (sysD n bs), .fz (.tuple ds), .nil], ⟨rfl, rfl⟩, ?_, ?_⟩
      · rintro i x acc ρ hi ⟨rfl, rfl⟩
        ((with_reducible conv => whnf); repeat (first | ((with_reducible refine xT ?_ ?_); (· exact rfl); (with_reducible conv => whnf)) | ((with_reducible refine xF ?_ ?_); (· exact rfl); (with_reducible conv => whnf)) | ((with_reducible apply xE); (· exact rfl); (with_reducible conv => whnf)) | ((with_reducible refine And.intro ?_ ?_); (· (first | exact rfl | exact trivial | exact sh_int _ | exact sh_bool _ | ((try dsimp only [Int.reduceToNat]); first | omega | (refine mulw ?_ ?_ ?_ ?_ <;> omega) | (refine divw ?_ ?_ <;> omega) | (refine poww ?_ ?_ ?_ ?_ <;> omega) | (refine divp ?_ ?_ ?_ <;> omega) | (have := szl; simp only [List.length_append, List.length_cons, List.length_nil, List.length_map, List.length_range]; omega) | decide))); (with_reducible conv => whnf))))
        refine ⟨⟨_, rfl, okT_it' hd (List.mem_of_getElem? hi)⟩, fun r as' hp => ?_, fun C as' hx => False.elim hx⟩
        obtain ⟨rfl, rfl⟩ := hp _ rfl; clear hp; (try (generalize hρ : DL.backA _ _ _ = ρ'; dsimp only [DL.setS, DL.getS, DL.backA, DL.toPw, DL.RR.vr, DL.RR.sl, DL.nils, DL.wrL, List.set, Int.reduceToNat] at hρ; subst hρ)); (with_reducible conv => whnf)
        cases hx : isIntg x with
        | true =>
          ((with_reducible conv => whnf); repeat (first | ((with_reducible refine xT ?_ ?_); (· exact rfl); (with_reducible conv => whnf)) | ((with_reducible refine xF ?_ ?_); (· exact rfl); (with_reducible conv => whnf)) | ((with_reducible apply xE); (· exact rfl); (with_reducible conv => whnf)) | ((with_reducible refine And.intro ?_ ?_); (· (first | exact rfl | exact trivial | exact sh_int _ | exact sh_bool _ | ((try dsimp only [Int.reduceToNat]); first | omega | (refine mulw ?_ ?_ ?_ ?_ <;> omega) | (refine divw ?_ ?_ <;> omega) | (refine poww ?_ ?_ ?_ ?_ <;> omega) | (refine divp ?_ ?_ ?_ <;> omega) | (have := szl; simp only [List.length_append, List.length_cons, List.length_nil, List.length_map, List.length_range]; omega) | decide))); (with_reducible conv => whnf))))
          exact ⟨by rw [take_succ_of hi, List.filter_append]; simp [hx], rfl⟩
        | false =>
          ((with_reducible conv => whnf); repeat (first | ((with_reducible refine xT ?_ ?_); (· exact rfl); (with_reducible conv => whnf)) | ((with_reducible refine xF ?_ ?_); (· exact rfl); (with_reducible conv => whnf)) | ((with_reducible apply xE); (· exact rfl); (with_reducible conv => whnf)) | ((with_reducible refine And.intro ?_ ?_); (· (first | exact rfl | exact trivial | exact sh_int _ | exact sh_bool _ | ((try dsimp only [Int.reduceToNat]); first | omega | (refine mulw ?_ ?_ ?_ ?_ <;> omega) | (refine divw ?_ ?_ <;> omega) | (refine poww ?_ ?_ ?_ ?_ <;> omega) | (refine divp ?_ ?_ ?_ <;> omega) | (have := szl; simp only [List.length_append, List.length_cons, List.length_nil, List.length_map, List.length_range]; omega) | decide))); (with_reducible conv => whnf))))
          exact ⟨by rw [take_succ_of hi, List.filter_append]; simp [hx], rfl⟩
      · rintro acc ρ ⟨rfl, rfl⟩
        rw [List.take_length]
        (with_reducible conv => whnf)
        refine ⟨(hd.2 ds rfl).2, sh_nil, ?_⟩
        rw [eqv_nil]
        (with_reducible conv => whnf)
        cases hall : ds.all isIntg with
        | false =>
          have hf : (ds.filter fun d => !isIntg d).isEmpty = false := by
            cases hq : (ds.filter fun d => !isIntg d) with
            | nil => rw [filt_nil.mp hq] at hall; cases hall
            | cons _ _ => rfl
          rw [hf]
          ((with_reducible conv => whnf); repeat (first | ((with_reducible refine xT ?_ ?_); (· exact rfl); (with_reducible conv => whnf)) | ((with_reducible refine xF ?_ ?_); (· exact rfl); (with_reducible conv => whnf)) | ((with_reducible apply xE); (· exact rfl); (with_reducible conv => whnf)) | ((with_reducible refine And.intro ?_ ?_); (· (first | exact rfl | exact trivial | exact sh_int _ | exact sh_bool _ | ((try dsimp only [Int.reduceToNat]); first | omega | (refine mulw ?_ ?_ ?_ ?_ <;> omega) | (refine divw ?_ ?_ <;> omega) | (refine poww ?_ ?_ ?_ ?_ <;> omega) | (refine divp ?_ ?_ ?_ <;> omega) | (have := szl; simp only [List.length_append, List.length_cons, List.length_nil, List.length_map, List.length_range]; omega) | decide))); (with_reducible conv => whnf))))
          exact fin false (by simp only [hasM]; rw [hall]; simp)
        | true =>
          rw [filt_nil.mpr hall]
          ((with_reducible conv => whnf); repeat (first | ((with_reducible refine xT ?_ ?_); (· exact rfl); (with_reducible conv => whnf)) | ((with_reducible refine xF ?_ ?_); (· exact rfl); (with_reducible conv => whnf)) | ((with_reducible apply xE); (· exact rfl); (with_reducible conv => whnf)) | ((with_reducible refine And.intro ?_ ?_); (· (first | exact rfl | exact trivial | exact sh_int _ | exact sh_bool _ | ((try dsimp only [Int.reduceToNat]); first | omega | (refine mulw ?_ ?_ ?_ ?_ <;> omega) | (refine divw ?_ ?_ <;> omega) | (refine poww ?_ ?_ ?_ ?_ <;> omega) | (refine divp ?_ ?_ ?_ <;> omega) | (have := szl; simp only [List.length_append, List.length_cons, List.length_nil, List.length_map, List.length_range]; omega) | decide))); (with_reducible conv => whnf))))
          obtain ⟨ms, rfl⟩ := ints_all hall
          obtain ⟨m, ms', rfl⟩ : ∃ m ms', ms = m :: ms' := by
            cases ms with
            | nil => exfalso; have := hs.1; simp at h; omega
            | cons m ms' => exact ⟨m, ms', rfl⟩
          refine ⟨_, at_ms (ms := m :: ms') (by omega) (by rw [List.length_cons]; omega), ?_⟩
          rw [show mAt (m :: ms') 0 = m from rfl]
          ((with_reducible conv => whnf); repeat (first | ((with_reducible refine xT ?_ ?_); (· exact rfl); (with_reducible conv => whnf)) | ((with_reducible refine xF ?_ ?_); (· exact rfl); (with_reducible conv => whnf)) | ((with_reducible apply xE); (· exact rfl); (with_reducible conv => whnf)) | ((with_reducible refine And.intro ?_ ?_); (· (first | exact rfl | exact trivial | exact sh_int _ | exact sh_bool _ | ((try dsimp only [Int.reduceToNat]); first | omega | (refine mulw ?_ ?_ ?_ ?_ <;> omega) | (refine divw ?_ ?_ <;> omega) | (refine poww ?_ ?_ ?_ ?_ <;> omega) | (refine divp ?_ ?_ ?_ <;> omega) | (have := szl; simp only [List.length_append, List.length_cons, List.length_nil, List.length_map, List.length_range]; omega) | decide))); (with_reducible conv => whnf))))
          refine fin _ ?_
          simp only [hasM]
          rw [hall, decide_eq_true h, eqv_int]
          simp
  | dict k =>
    (with_reducible conv => whnf)
    refine ⟨hd.1, ?_⟩
    ((with_reducible conv => whnf); repeat (first | ((with_reducible refine xT ?_ ?_); (· exact rfl); (with_reducible conv => whnf)) | ((with_reducible refine xF ?_ ?_); (· exact rfl); (with_reducible conv => whnf)) | ((with_reducible apply xE); (· exact rfl); (with_reducible conv => whnf)) | ((with_reducible refine And.intro ?_ ?_); (· (first | exact rfl | exact trivial | exact sh_int _ | exact sh_bool _ | ((try dsimp only [Int.reduceToNat]); first | omega | (refine mulw ?_ ?_ ?_ ?_ <;> omega) | (refine divw ?_ ?_ <;> omega) | (refine poww ?_ ?_ ?_ ?_ <;> omega) | (refine divp ?_ ?_ ?_ <;> omega) | (have := szl; simp only [List.length_append, List.length_cons, List.length_nil, List.length_map, List.length_range]; omega) | decide))); (with_reducible conv => whnf))))
    exact fin false rfl
  | _ =>
    ((with_reducible conv => whnf); repeat (first | ((with_reducible refine xT ?_ ?_); (· exact rfl); (with_reducible conv => whnf)) | ((with_reducible refine xF ?_ ?_); (· exact rfl); (with_reducible conv => whnf)) | ((with_reducible apply xE); (· exact rfl); (with_reducible conv => whnf)) | ((with_reducible refine And.intro ?_ ?_); (· (first | exact rfl | exact trivial | exact sh_int _ | exact sh_bool _ | ((try dsimp only [Int.reduceToNat]); first | omega | (refine mulw ?_ ?_ ?_ ?_ <;> omega) | (refine divw ?_ ?_ <;> omega) | (refine poww ?_ ?_ ?_ ?_ <;> omega) | (refine divp ?_ ?_ ?_ <;> omega) | (have := szl; simp only [List.length_append, List.length_cons, List.length_nil, List.length_map, List.length_range]; omega) | decide))); (with_reducible conv => whnf))))
    exact fin false rfl
end T08
set_option Elab.async false
set_option linter.all false
set_option maxRecDepth 100000
set_option maxHeartbeats 2000000
namespace T08
open PySem PySem.Spec PyProof.Rows L2 DL
variable {cl : Nat → Addr} {s0 s1 s2 s3 s4 s5 s6 s7 s8 s9 : Sl}
theorem rb_frame {p : Addr} {a b c n m : Int} {ms : List Int} {bs : List Bd} (D : DEnds) (h : 0 ≤ b ∧ b < 10 ^ 40 ∧ 0 ≤ c ∧ c < 10 ^ 11) (hn : 1 ≤ n ∧ n ≤ 100) (hl : (ms.length : Int) + 1 = n) (hz : bs.length ≤ 500) (hb : ∀ x ∈ bs, okB n x) (hk : bs.all (keepB (0 :: ms)) = true)
    (k : ∀ (a' c' : Int) (bs' : List Bd) (s6 s7 s8 : Sl), c ≤ c' → c' ≤ c + 10 → bs'.length ≤ bs.length + 1 → (∀ x ∈ bs', okB n x) → bs'.all (keepB (0 :: ms)) = true → D.nx [.pw p (.l [.int a', .int b, .int c']), .fz (.int n), s2, .fz (msD (0 :: ms)), .ow (.l (bs'.map bD)), s5, s6, s7, s8, s9]) :
    t__law_frame_b1 cl D [.pw p (.l [.int a, .int b, .int c]), .fz (.int n), s2, .fz (msD (0 :: ms)), .ow (.l (bs.map bD)), s5, s6, s7, s8, s9] := by
  unfold t__law_frame_b1
  ((with_reducible conv => whnf); repeat (first | ((with_reducible refine xT ?_ ?_); (· exact rfl); (with_reducible conv => whnf)) | ((with_reducible refine xF ?_ ?_); (· exact rfl); (with_reducible conv => whnf)) | ((with_reducible apply xE); (· exact rfl); (with_reducible conv => whnf)) | ((with_reducible refine And.intro ?_ ?_); (· (first | exact rfl | exact trivial | exact sh_int _ | exact sh_bool _ | ((try dsimp only [Int.reduceToNat]); first | omega | (refine mulw ?_ ?_ ?_ ?_ <;> omega) | (refine divw ?_ ?_ <;> omega) | (refine poww ?_ ?_ ?_ ?_ <;> omega) | (refine divp ?_ ?_ ?_ <;> omega) | (have := szl; simp only [List.length_append, List.length_cons, List.length_nil, List.length_map, List.length_range]; omega) | decide))); (with_reducible conv => whnf))))
  refine xBd (fun h1 => ?_) (fun h1 => ?_)
  · ((with_reducible conv => whnf); repeat (first | ((with_reducible refine xT ?_ ?_); (· exact rfl); (with_reducible conv => whnf)) | ((with_reducible refine xF ?_ ?_); (· exact rfl); (with_reducible conv => whnf)) | ((with_reducible apply xE); (· exact rfl); (with_reducible conv => whnf)) | ((with_reducible refine And.intro ?_ ?_); (· (first | exact rfl | exact trivial | exact sh_int _ | exact sh_bool _ | ((try dsimp only [Int.reduceToNat]); first | omega | (refine mulw ?_ ?_ ?_ ?_ <;> omega) | (refine divw ?_ ?_ <;> omega) | (refine poww ?_ ?_ ?_ ?_ <;> omega) | (refine divp ?_ ?_ ?_ <;> omega) | (have := szl; simp only [List.length_append, List.length_cons, List.length_nil, List.length_map, List.length_range]; omega) | decide))); (with_reducible conv => whnf))))
    refine ⟨⟨_, _, _, _, rfl, by omega⟩, fun r as' hp => ?_, fun C as' hx => False.elim hx⟩
    obtain ⟨a1, c1, i, rfl, rfl, k1⟩ := hp _ _ _ _ rfl; clear hp; (try (generalize hρ : DL.backA _ _ _ = ρ'; dsimp only [DL.setS, DL.getS, DL.backA, DL.toPw, DL.RR.vr, DL.RR.sl, DL.nils, DL.wrL, List.set, Int.reduceToNat] at hρ; subst hρ)); ((with_reducible conv => whnf); repeat (first | ((with_reducible refine xT ?_ ?_); (· exact rfl); (with_reducible conv => whnf)) | ((with_reducible refine xF ?_ ?_); (· exact rfl); (with_reducible conv => whnf)) | ((with_reducible apply xE); (· exact rfl); (with_reducible conv => whnf)) | ((with_reducible refine And.intro ?_ ?_); (· (first | exact rfl | exact trivial | exact sh_int _ | exact sh_bool _ | ((try dsimp only [Int.reduceToNat]); first | omega | (refine mulw ?_ ?_ ?_ ?_ <;> omega) | (refine divw ?_ ?_ <;> omega) | (refine poww ?_ ?_ ?_ ?_ <;> omega) | (refine divp ?_ ?_ ?_ <;> omega) | (have := szl; simp only [List.length_append, List.length_cons, List.length_nil, List.length_map, List.length_range]; omega) | decide))); (with_reducible conv => whnf))))
    refine ⟨⟨_, _, _, _, rfl, by omega⟩, fun r as' hp => ?_, fun C as' hx => False.elim hx⟩
    obtain ⟨a2, c2, v, rfl, rfl, k2⟩ := hp _ _ _ _ rfl; clear hp; (try (generalize hρ : DL.backA _ _ _ = ρ'; dsimp only [DL.setS, DL.getS, DL.backA, DL.toPw, DL.RR.vr, DL.RR.sl, DL.nils, DL.wrL, List.set, Int.reduceToNat] at hρ; subst hρ)); ((with_reducible conv => whnf); repeat (first | ((with_reducible refine xT ?_ ?_); (· exact rfl); (with_reducible conv => whnf)) | ((with_reducible refine xF ?_ ?_); (· exact rfl); (with_reducible conv => whnf)) | ((with_reducible apply xE); (· exact rfl); (with_reducible conv => whnf)) | ((with_reducible refine And.intro ?_ ?_); (· (first | exact rfl | exact trivial | exact sh_int _ | exact sh_bool _ | ((try dsimp only [Int.reduceToNat]); first | omega | (refine mulw ?_ ?_ ?_ ?_ <;> omega) | (refine divw ?_ ?_ <;> omega) | (refine poww ?_ ?_ ?_ ?_ <;> omega) | (refine divp ?_ ?_ ?_ <;> omega) | (have := szl; simp only [List.length_append, List.length_cons, List.length_nil, List.length_map, List.length_range]; omega) | decide))); (with_reducible conv => whnf))))
    have hj := modpos (i + 1 + v) (b := n) (by omega)
    have hij : i ≠ (i + 1 + v) % n := by
      intro e
      rcases Int.lt_or_le (i + 1 + v) n with z | z
      · rw [Int.emod_eq_of_lt (by omega) z] at e; omega
      · have : (i + 1 + v) % n = i + 1 + v - n := by
          rw [← Int.sub_emod_right, Int.emod_eq_of_lt (by omega) (by omega)]
        omega
    refine ⟨⟨_, _, _, _, rfl, by omega⟩, fun r as' hp => ?_, fun C as' hx => False.elim hx⟩
    obtain ⟨a3, c3, w1, rfl, rfl, k3⟩ := hp _ _ _ _ rfl; clear hp; (try (generalize hρ : DL.backA _ _ _ = ρ'; dsimp only [DL.setS, DL.getS, DL.backA, DL.toPw, DL.RR.vr, DL.RR.sl, DL.nils, DL.wrL, List.set, Int.reduceToNat] at hρ; subst hρ)); ((with_reducible conv => whnf); repeat (first | ((with_reducible refine xT ?_ ?_); (· exact rfl); (with_reducible conv => whnf)) | ((with_reducible refine xF ?_ ?_); (· exact rfl); (with_reducible conv => whnf)) | ((with_reducible apply xE); (· exact rfl); (with_reducible conv => whnf)) | ((with_reducible refine And.intro ?_ ?_); (· (first | exact rfl | exact trivial | exact sh_int _ | exact sh_bool _ | ((try dsimp only [Int.reduceToNat]); first | omega | (refine mulw ?_ ?_ ?_ ?_ <;> omega) | (refine divw ?_ ?_ <;> omega) | (refine poww ?_ ?_ ?_ ?_ <;> omega) | (refine divp ?_ ?_ ?_ <;> omega) | (have := szl; simp only [List.length_append, List.length_cons, List.length_nil, List.length_map, List.length_range]; omega) | decide))); (with_reducible conv => whnf))))
    refine ⟨⟨_, _, _, _, rfl, by omega⟩, fun r as' hp => ?_, fun C as' hx => False.elim hx⟩
    obtain ⟨a4, c4, w2, rfl, rfl, k4⟩ := hp _ _ _ _ rfl; clear hp; (try (generalize hρ : DL.backA _ _ _ = ρ'; dsimp only [DL.setS, DL.getS, DL.backA, DL.toPw, DL.RR.vr, DL.RR.sl, DL.nils, DL.wrL, List.set, Int.reduceToNat] at hρ; subst hρ)); ((with_reducible conv => whnf); repeat (first | ((with_reducible refine xT ?_ ?_); (· exact rfl); (with_reducible conv => whnf)) | ((with_reducible refine xF ?_ ?_); (· exact rfl); (with_reducible conv => whnf)) | ((with_reducible apply xE); (· exact rfl); (with_reducible conv => whnf)) | ((with_reducible refine And.intro ?_ ?_); (· (first | exact rfl | exact trivial | exact sh_int _ | exact sh_bool _ | ((try dsimp only [Int.reduceToNat]); first | omega | (refine mulw ?_ ?_ ?_ ?_ <;> omega) | (refine divw ?_ ?_ <;> omega) | (refine poww ?_ ?_ ?_ ?_ <;> omega) | (refine divp ?_ ?_ ?_ <;> omega) | (have := szl; simp only [List.length_append, List.length_cons, List.length_nil, List.length_map, List.length_range]; omega) | decide))); (with_reducible conv => whnf))))
    refine ⟨⟨_, _, _, _, rfl, by omega⟩, fun r as' hp => ?_, fun C as' hx => False.elim hx⟩
    obtain ⟨a5, c5, w3, rfl, rfl, k5⟩ := hp _ _ _ _ rfl; clear hp; (try (generalize hρ : DL.backA _ _ _ = ρ'; dsimp only [DL.setS, DL.getS, DL.backA, DL.toPw, DL.RR.vr, DL.RR.sl, DL.nils, DL.wrL, List.set, Int.reduceToNat] at hρ; subst hρ)); ((with_reducible conv => whnf); repeat (first | ((with_reducible refine xT ?_ ?_); (· exact rfl); (with_reducible conv => whnf)) | ((with_reducible refine xF ?_ ?_); (· exact rfl); (with_reducible conv => whnf)) | ((with_reducible apply xE); (· exact rfl); (with_reducible conv => whnf)) | ((with_reducible refine And.intro ?_ ?_); (· (first | exact rfl | exact trivial | exact sh_int _ | exact sh_bool _ | ((try dsimp only [Int.reduceToNat]); first | omega | (refine mulw ?_ ?_ ?_ ?_ <;> omega) | (refine divw ?_ ?_ <;> omega) | (refine poww ?_ ?_ ?_ ?_ <;> omega) | (refine divp ?_ ?_ ?_ <;> omega) | (have := szl; simp only [List.length_append, List.length_cons, List.length_nil, List.length_map, List.length_range]; omega) | decide))); (with_reducible conv => whnf))))
    obtain ⟨x, hx, hm, _⟩ := atI_ex (xs := [PyData.int 0, .int w1, .int w2]) (i := w3) k5.1 k5.2.1
    obtain ⟨q, rfl, hq⟩ : ∃ q : Int, x = .int q ∧ 0 ≤ q := by
      simp only [List.mem_cons, List.mem_nil_iff, or_false] at hm
      rcases hm with rfl | rfl | rfl
      · exact ⟨_, rfl, by omega⟩
      · exact ⟨_, rfl, by omega⟩
      · exact ⟨_, rfl, by omega⟩
    refine ⟨_, hx, ?_⟩
    ((with_reducible conv => whnf); repeat (first | ((with_reducible refine xT ?_ ?_); (· exact rfl); (with_reducible conv => whnf)) | ((with_reducible refine xF ?_ ?_); (· exact rfl); (with_reducible conv => whnf)) | ((with_reducible apply xE); (· exact rfl); (with_reducible conv => whnf)) | ((with_reducible refine And.intro ?_ ?_); (· (first | exact rfl | exact trivial | exact sh_int _ | exact sh_bool _ | ((try dsimp only [Int.reduceToNat]); first | omega | (refine mulw ?_ ?_ ?_ ?_ <;> omega) | (refine divw ?_ ?_ <;> omega) | (refine poww ?_ ?_ ?_ ?_ <;> omega) | (refine divp ?_ ?_ ?_ <;> omega) | (have := szl; simp only [List.length_append, List.length_cons, List.length_nil, List.length_map, List.length_range]; omega) | decide))); (with_reducible conv => whnf))))
    refine ⟨_, at_ms k1.1 (by rw [List.length_cons]; omega), ?_⟩
    ((with_reducible conv => whnf); repeat (first | ((with_reducible refine xT ?_ ?_); (· exact rfl); (with_reducible conv => whnf)) | ((with_reducible refine xF ?_ ?_); (· exact rfl); (with_reducible conv => whnf)) | ((with_reducible apply xE); (· exact rfl); (with_reducible conv => whnf)) | ((with_reducible refine And.intro ?_ ?_); (· (first | exact rfl | exact trivial | exact sh_int _ | exact sh_bool _ | ((try dsimp only [Int.reduceToNat]); first | omega | (refine mulw ?_ ?_ ?_ ?_ <;> omega) | (refine divw ?_ ?_ <;> omega) | (refine poww ?_ ?_ ?_ ?_ <;> omega) | (refine divp ?_ ?_ ?_ <;> omega) | (have := szl; simp only [List.length_append, List.length_cons, List.length_nil, List.length_map, List.length_range]; omega) | decide))); (with_reducible conv => whnf))))
    refine ⟨_, at_ms hj.1 (by rw [List.length_cons]; omega), ?_⟩
    ((with_reducible conv => whnf); repeat (first | ((with_reducible refine xT ?_ ?_); (· exact rfl); (with_reducible conv => whnf)) | ((with_reducible refine xF ?_ ?_); (· exact rfl); (with_reducible conv => whnf)) | ((with_reducible apply xE); (· exact rfl); (with_reducible conv => whnf)) | ((with_reducible refine And.intro ?_ ?_); (· (first | exact rfl | exact trivial | exact sh_int _ | exact sh_bool _ | ((try dsimp only [Int.reduceToNat]); first | omega | (refine mulw ?_ ?_ ?_ ?_ <;> omega) | (refine divw ?_ ?_ <;> omega) | (refine poww ?_ ?_ ?_ ?_ <;> omega) | (refine divp ?_ ?_ ?_ <;> omega) | (have := szl; simp only [List.length_append, List.length_cons, List.length_nil, List.length_map, List.length_range]; omega) | decide))); (with_reducible conv => whnf))))
    have hnew : keepB (0 :: ms) (i, (i + 1 + v) % n, mAt (0 :: ms) i - mAt (0 :: ms) ((i + 1 + v) % n) + q) = true := by
      unfold keepB
      refine decide_eq_true ?_
      show mAt (0 :: ms) i - mAt (0 :: ms) ((i + 1 + v) % n) ≤ mAt (0 :: ms) i - mAt (0 :: ms) ((i + 1 + v) % n) + q
      omega
    have fin := k a5 c5 (bs ++ [(i, (i + 1 + v) % n, mAt (0 :: ms) i - mAt (0 :: ms) ((i + 1 + v) % n) + q)]) (.fz (.int i)) (.fz (.int ((i + 1 + v) % n))) (.fz (.int q)) (by omega) (by omega) (by rw [List.length_append]; simp) (fun x hx => by
      rcases List.mem_append.mp hx with hx | hx
      · exact hb x hx
      · rw [List.mem_singleton.mp hx]
        exact ⟨k1.1, k1.2.1, hj.1, hj.2, hij⟩) (by rw [List.all_append, hk, List.all_cons, hnew]; rfl)
    rw [List.map_append] at fin
    exact fin
  · ((with_reducible conv => whnf); repeat (first | ((with_reducible refine xT ?_ ?_); (· exact rfl); (with_reducible conv => whnf)) | ((with_reducible refine xF ?_ ?_); (· exact rfl); (with_reducible conv => whnf)) | ((with_reducible apply xE); (· exact rfl); (with_reducible conv => whnf)) | ((with_reducible refine And.intro ?_ ?_); (· (first | exact rfl | exact trivial | exact sh_int _ | exact sh_bool _ | ((try dsimp only [Int.reduceToNat]); first | omega | (refine mulw ?_ ?_ ?_ ?_ <;> omega) | (refine divw ?_ ?_ <;> omega) | (refine poww ?_ ?_ ?_ ?_ <;> omega) | (refine divp ?_ ?_ ?_ <;> omega) | (have := szl; simp only [List.length_append, List.length_cons, List.length_nil, List.length_map, List.length_range]; omega) | decide))); (with_reducible conv => whnf))))
    exact k _ _ bs _ _ _ (by omega) (by omega) (by omega) hb hk
theorem frame_inj {x y : Int} (h : PyData.int x = .int y) : x = y := by injection h
theorem rd__law_frame (cl : Nat → Addr) (as ad) (hp : (sp__law_frame cl).pre as) : t__law_frame cl (endsOf (sp__law_frame cl) as ad) (startS as ad 0 ++ List.replicate 7 .nil) := by
  obtain ⟨a, b, c, n, m, rfl, h1, h2, h3, h4, h5, h6, h7, h8⟩ := hp
  show t__law_frame cl (endsOf _ _ _) [.pw (ad 0) (.l [.int a, .int b, .int c]), .fz (.int n), .fz (.int m), .nil, .nil, .nil, .nil, .nil, .nil, .nil]
  unfold t__law_frame
  ((with_reducible conv => whnf); repeat (first | ((with_reducible refine xT ?_ ?_); (· exact rfl); (with_reducible conv => whnf)) | ((with_reducible refine xF ?_ ?_); (· exact rfl); (with_reducible conv => whnf)) | ((with_reducible apply xE); (· exact rfl); (with_reducible conv => whnf)) | ((with_reducible refine And.intro ?_ ?_); (· (first | exact rfl | exact trivial | exact sh_int _ | exact sh_bool _ | ((try dsimp only [Int.reduceToNat]); first | omega | (refine mulw ?_ ?_ ?_ ?_ <;> omega) | (refine divw ?_ ?_ <;> omega) | (refine poww ?_ ?_ ?_ ?_ <;> omega) | (refine divp ?_ ?_ ?_ <;> omega) | (have := szl; simp only [List.length_append, List.length_cons, List.length_nil, List.length_map, List.length_range]; omega) | decide))); (with_reducible conv => whnf))))
  (try unfold DL.sFor); (try unfold DL.sWhile); (try unfold DL.eLc)
  ((with_reducible conv => whnf); repeat (first | ((with_reducible refine xT ?_ ?_); (· exact rfl); (with_reducible conv => whnf)) | ((with_reducible refine xF ?_ ?_); (· exact rfl); (with_reducible conv => whnf)) | ((with_reducible apply xE); (· exact rfl); (with_reducible conv => whnf)) | ((with_reducible refine And.intro ?_ ?_); (· (first | exact rfl | exact trivial | exact sh_int _ | exact sh_bool _ | ((try dsimp only [Int.reduceToNat]); first | omega | (refine mulw ?_ ?_ ?_ ?_ <;> omega) | (refine divw ?_ ?_ <;> omega) | (refine poww ?_ ?_ ?_ ?_ <;> omega) | (refine divp ?_ ?_ ?_ <;> omega) | (have := szl; simp only [List.length_append, List.length_cons, List.length_nil, List.length_map, List.length_range]; omega) | decide))); (with_reducible conv => whnf))))
  refine ⟨fun i acc ρ => ∃ (a' c' : Int) (ms : List Int), acc = ms.map .int ∧ ms.length = i ∧ c ≤ c' ∧ c' ≤ c + 10 * (i : Int) ∧ ρ = [.pw (ad 0) (.l [.int a', .int b, .int c']), .fz (.int n), .fz (.int m), .nil, .nil, .nil, .nil, .nil, .nil, .nil], ⟨a, c, [], rfl, rfl, by omega, by omega, rfl⟩, ?_, ?_⟩
  · rintro i x acc ρ hi ⟨a', c', ms, rfl, hl, hc, hc', rfl⟩
    have hlt := (List.getElem?_eq_some_iff.mp hi).1
    rw [rgD_len] at hlt
    ((with_reducible conv => whnf); repeat (first | ((with_reducible refine xT ?_ ?_); (· exact rfl); (with_reducible conv => whnf)) | ((with_reducible refine xF ?_ ?_); (· exact rfl); (with_reducible conv => whnf)) | ((with_reducible apply xE); (· exact rfl); (with_reducible conv => whnf)) | ((with_reducible refine And.intro ?_ ?_); (· (first | exact rfl | exact trivial | exact sh_int _ | exact sh_bool _ | ((try dsimp only [Int.reduceToNat]); first | omega | (refine mulw ?_ ?_ ?_ ?_ <;> omega) | (refine divw ?_ ?_ <;> omega) | (refine poww ?_ ?_ ?_ ?_ <;> omega) | (refine divp ?_ ?_ ?_ <;> omega) | (have := szl; simp only [List.length_append, List.length_cons, List.length_nil, List.length_map, List.length_range]; omega) | decide))); (with_reducible conv => whnf))))
    refine ⟨⟨_, _, _, rfl, by omega⟩, fun r as' hp => ?_, fun C as' hx => False.elim hx⟩
    obtain ⟨a1, c1, v, rfl, rfl, k1, k2⟩ := hp _ _ _ rfl; clear hp; (try (generalize hρ : DL.backA _ _ _ = ρ'; dsimp only [DL.setS, DL.getS, DL.backA, DL.toPw, DL.RR.vr, DL.RR.sl, DL.nils, DL.wrL, List.set, Int.reduceToNat] at hρ; subst hρ)); (with_reducible conv => whnf)
    exact ⟨a1, c1, ms ++ [v], by rw [List.map_append]; rfl, by rw [List.length_append, hl]; rfl, by omega, by omega, rfl⟩
  · rintro acc ρ ⟨a', c', ms, rfl, hl, hc, hc', rfl⟩
    rw [rgD_len] at hl hc'
    have hl1 : (ms.length : Int) + 1 = n := by omega
    ((with_reducible conv => whnf); repeat (first | ((with_reducible refine xT ?_ ?_); (· exact rfl); (with_reducible conv => whnf)) | ((with_reducible refine xF ?_ ?_); (· exact rfl); (with_reducible conv => whnf)) | ((with_reducible apply xE); (· exact rfl); (with_reducible conv => whnf)) | ((with_reducible refine And.intro ?_ ?_); (· (first | exact rfl | exact trivial | exact sh_int _ | exact sh_bool _ | ((try dsimp only [Int.reduceToNat]); first | omega | (refine mulw ?_ ?_ ?_ ?_ <;> omega) | (refine divw ?_ ?_ <;> omega) | (refine poww ?_ ?_ ?_ ?_ <;> omega) | (refine divp ?_ ?_ ?_ <;> omega) | (have := szl; simp only [List.length_append, List.length_cons, List.length_nil, List.length_map, List.length_range]; omega) | decide))); (with_reducible conv => whnf))))
    refine ⟨⟨_, _, _, _, rfl, by omega⟩, fun r as' hp => ?_, fun C as' hx => False.elim hx⟩
    obtain ⟨a1, c1, u, rfl, rfl, k1⟩ := hp _ _ _ _ rfl; clear hp; (try (generalize hρ : DL.backA _ _ _ = ρ'; dsimp only [DL.setS, DL.getS, DL.backA, DL.toPw, DL.RR.vr, DL.RR.sl, DL.nils, DL.wrL, List.set, Int.reduceToNat] at hρ; subst hρ)); ((with_reducible conv => whnf); repeat (first | ((with_reducible refine xT ?_ ?_); (· exact rfl); (with_reducible conv => whnf)) | ((with_reducible refine xF ?_ ?_); (· exact rfl); (with_reducible conv => whnf)) | ((with_reducible apply xE); (· exact rfl); (with_reducible conv => whnf)) | ((with_reducible refine And.intro ?_ ?_); (· (first | exact rfl | exact trivial | exact sh_int _ | exact sh_bool _ | ((try dsimp only [Int.reduceToNat]); first | omega | (refine mulw ?_ ?_ ?_ ?_ <;> omega) | (refine divw ?_ ?_ <;> omega) | (refine poww ?_ ?_ ?_ ?_ <;> omega) | (refine divp ?_ ?_ ?_ <;> omega) | (have := szl; simp only [List.length_append, List.length_cons, List.length_nil, List.length_map, List.length_range]; omega) | decide))); (with_reducible conv => whnf))))
    refine ⟨fun i ρ => ∃ (a' c' : Int) (bs : List Bd) (s5 s6 s7 s8 : Sl), ρ = [.pw (ad 0) (.l [.int a', .int b, .int c']), .fz (.int n), .fz (.int m), .fz (msD (0 :: ms)), .ow (.l (bs.map bD)), s5, s6, s7, s8, .nil] ∧ bs.length ≤ i ∧ c1 ≤ c' ∧ c' ≤ c1 + 10 * (i : Int) ∧ (∀ x ∈ bs, okB n x) ∧ bs.all (keepB (0 :: ms)) = true,
      ⟨a1, c1, [], _, _, _, _, rfl, Nat.le_refl _, by omega, by omega, fun x hx => (by cases hx), rfl⟩, ?_, ?_⟩
    · rintro i x ρ hi ⟨a', c', bs, s5, s6, s7, s8, rfl, e1, e2, e3, e4, e5⟩
      have hlt := (List.getElem?_eq_some_iff.mp hi).1
      rw [rgD_len] at hlt
      (with_reducible conv => whnf)
      exact rb_frame (m := m) _ (by omega) ⟨h5, h6⟩ hl1 (by omega) e4 e5 fun a' c' bs' s6 s7 s8 f1 f2 f3 f4 f5 => ⟨_, _, bs', _, _, _, _, rfl, by omega, by omega, by omega, f4, f5⟩
    · rintro ρ ⟨a', c', bs, s5, s6, s7, s8, rfl, e1, e2, e3, e4, e5⟩
      rw [rgD_len] at e1 e3
      ((with_reducible conv => whnf); repeat (first | ((with_reducible refine xT ?_ ?_); (· exact rfl); (with_reducible conv => whnf)) | ((with_reducible refine xF ?_ ?_); (· exact rfl); (with_reducible conv => whnf)) | ((with_reducible apply xE); (· exact rfl); (with_reducible conv => whnf)) | ((with_reducible refine And.intro ?_ ?_); (· (first | exact rfl | exact trivial | exact sh_int _ | exact sh_bool _ | ((try dsimp only [Int.reduceToNat]); first | omega | (refine mulw ?_ ?_ ?_ ?_ <;> omega) | (refine divw ?_ ?_ <;> omega) | (refine poww ?_ ?_ ?_ ?_ <;> omega) | (refine divp ?_ ?_ ?_ <;> omega) | (have := szl; simp only [List.length_append, List.length_cons, List.length_nil, List.length_map, List.length_range]; omega) | decide))); (with_reducible conv => whnf))))
      intro a0 b0 c0 n0 m0 e _ _ _ _
      cases e
      exact ⟨_, _, bs, ms, rfl, rfl, ⟨h5, by omega, by omega, e4⟩, by omega, hl1, e5, by omega, by omega⟩
end T08
set_option Elab.async false
set_option linter.all false
set_option maxRecDepth 100000
set_option maxHeartbeats 2000000
namespace T08
open PySem PySem.Spec PyProof.Rows L2 DL
variable {cl : Nat → Addr} {s0 s1 s2 s3 s4 s5 s6 s7 s8 s9 : Sl}
theorem rb_near {p : Addr} {a b c n : Int} {bs : List Bd} {ms : List Int} (D : DEnds) (h : 0 ≤ b ∧ b < 10 ^ 40 ∧ 0 ≤ c ∧ c < 10 ^ 11 - 1000) (hl : (ms.length : Int) + 1 = n) (hn : n ≤ 1000)
    (k : ∀ (a' c' : Int) (ms' : List Int) (s5 : Sl), c ≤ c' → c' ≤ c + 20 → ms'.length = ms.length → D.nx [.pw p (.l [.int a', .int b, .int c']), .fz (sysD n bs), s2, .ow (.l ((0 :: ms').map .int)), s4, s5]) :
    t__law_near_b1 cl D [.pw p (.l [.int a, .int b, .int c]), .fz (sysD n bs), s2, .ow (.l ((0 :: ms).map .int)), s4, s5] := by
  unfold t__law_near_b1
  ((with_reducible conv => whnf); repeat (first | ((with_reducible refine xT ?_ ?_); (· exact rfl); (with_reducible conv => whnf)) | ((with_reducible refine xF ?_ ?_); (· exact rfl); (with_reducible conv => whnf)) | ((with_reducible apply xE); (· exact rfl); (with_reducible conv => whnf)) | ((with_reducible refine And.intro ?_ ?_); (· (first | exact rfl | exact trivial | exact sh_int _ | exact sh_bool _ | ((try dsimp only [Int.reduceToNat]); first | omega | (refine mulw ?_ ?_ ?_ ?_ <;> omega) | (refine divw ?_ ?_ <;> omega) | (refine poww ?_ ?_ ?_ ?_ <;> omega) | (refine divp ?_ ?_ ?_ <;> omega) | (have := szl; simp only [List.length_append, List.length_cons, List.length_nil, List.length_map, List.length_range]; omega) | decide))); (with_reducible conv => whnf))))
  refine xBd (fun h1 => ?_) (fun h1 => ?_)
  · ((with_reducible conv => whnf); repeat (first | ((with_reducible refine xT ?_ ?_); (· exact rfl); (with_reducible conv => whnf)) | ((with_reducible refine xF ?_ ?_); (· exact rfl); (with_reducible conv => whnf)) | ((with_reducible apply xE); (· exact rfl); (with_reducible conv => whnf)) | ((with_reducible refine And.intro ?_ ?_); (· (first | exact rfl | exact trivial | exact sh_int _ | exact sh_bool _ | ((try dsimp only [Int.reduceToNat]); first | omega | (refine mulw ?_ ?_ ?_ ?_ <;> omega) | (refine divw ?_ ?_ <;> omega) | (refine poww ?_ ?_ ?_ ?_ <;> omega) | (refine divp ?_ ?_ ?_ <;> omega) | (have := szl; simp only [List.length_append, List.length_cons, List.length_nil, List.length_map, List.length_range]; omega) | decide))); (with_reducible conv => whnf))))
    refine ⟨⟨_, _, _, _, rfl, by omega⟩, fun r as' hp => ?_, fun C as' hx => False.elim hx⟩
    obtain ⟨a1, c1, i, rfl, rfl, k1⟩ := hp _ _ _ _ rfl; clear hp; (try (generalize hρ : DL.backA _ _ _ = ρ'; dsimp only [DL.setS, DL.getS, DL.backA, DL.toPw, DL.RR.vr, DL.RR.sl, DL.nils, DL.wrL, List.set, Int.reduceToNat] at hρ; subst hρ)); ((with_reducible conv => whnf); repeat (first | ((with_reducible refine xT ?_ ?_); (· exact rfl); (with_reducible conv => whnf)) | ((with_reducible refine xF ?_ ?_); (· exact rfl); (with_reducible conv => whnf)) | ((with_reducible apply xE); (· exact rfl); (with_reducible conv => whnf)) | ((with_reducible refine And.intro ?_ ?_); (· (first | exact rfl | exact trivial | exact sh_int _ | exact sh_bool _ | ((try dsimp only [Int.reduceToNat]); first | omega | (refine mulw ?_ ?_ ?_ ?_ <;> omega) | (refine divw ?_ ?_ <;> omega) | (refine poww ?_ ?_ ?_ ?_ <;> omega) | (refine divp ?_ ?_ ?_ <;> omega) | (have := szl; simp only [List.length_append, List.length_cons, List.length_nil, List.length_map, List.length_range]; omega) | decide))); (with_reducible conv => whnf))))
    refine ⟨_, at_ms (ms := 0 :: ms) (by omega) (by rw [List.length_cons]; omega), ?_⟩
    ((with_reducible conv => whnf); repeat (first | ((with_reducible refine xT ?_ ?_); (· exact rfl); (with_reducible conv => whnf)) | ((with_reducible refine xF ?_ ?_); (· exact rfl); (with_reducible conv => whnf)) | ((with_reducible apply xE); (· exact rfl); (with_reducible conv => whnf)) | ((with_reducible refine And.intro ?_ ?_); (· (first | exact rfl | exact trivial | exact sh_int _ | exact sh_bool _ | ((try dsimp only [Int.reduceToNat]); first | omega | (refine mulw ?_ ?_ ?_ ?_ <;> omega) | (refine divw ?_ ?_ <;> omega) | (refine poww ?_ ?_ ?_ ?_ <;> omega) | (refine divp ?_ ?_ ?_ <;> omega) | (have := szl; simp only [List.length_append, List.length_cons, List.length_nil, List.length_map, List.length_range]; omega) | decide))); (with_reducible conv => whnf))))
    refine ⟨⟨_, _, _, _, rfl, by omega⟩, fun r as' hp => ?_, fun C as' hx => False.elim hx⟩
    obtain ⟨a2, c2, v, rfl, rfl, k2⟩ := hp _ _ _ _ rfl; clear hp; (try (generalize hρ : DL.backA _ _ _ = ρ'; dsimp only [DL.setS, DL.getS, DL.backA, DL.toPw, DL.RR.vr, DL.RR.sl, DL.nils, DL.wrL, List.set, Int.reduceToNat] at hρ; subst hρ)); ((with_reducible conv => whnf); repeat (first | ((with_reducible refine xT ?_ ?_); (· exact rfl); (with_reducible conv => whnf)) | ((with_reducible refine xF ?_ ?_); (· exact rfl); (with_reducible conv => whnf)) | ((with_reducible apply xE); (· exact rfl); (with_reducible conv => whnf)) | ((with_reducible refine And.intro ?_ ?_); (· (first | exact rfl | exact trivial | exact sh_int _ | exact sh_bool _ | ((try dsimp only [Int.reduceToNat]); first | omega | (refine mulw ?_ ?_ ?_ ?_ <;> omega) | (refine divw ?_ ?_ <;> omega) | (refine poww ?_ ?_ ?_ ?_ <;> omega) | (refine divp ?_ ?_ ?_ <;> omega) | (have := szl; simp only [List.length_append, List.length_cons, List.length_nil, List.length_map, List.length_range]; omega) | decide))); (with_reducible conv => whnf))))
    refine ⟨⟨_, _, _, rfl, by omega⟩, fun r as' hp => ?_, fun C as' hx => False.elim hx⟩
    obtain ⟨a3, c3, w, rfl, rfl, k3⟩ := hp _ _ _ rfl; clear hp; (try (generalize hρ : DL.backA _ _ _ = ρ'; dsimp only [DL.setS, DL.getS, DL.backA, DL.toPw, DL.RR.vr, DL.RR.sl, DL.nils, DL.wrL, List.set, Int.reduceToNat] at hρ; subst hρ)); ((with_reducible conv => whnf); repeat (first | ((with_reducible refine xT ?_ ?_); (· exact rfl); (with_reducible conv => whnf)) | ((with_reducible refine xF ?_ ?_); (· exact rfl); (with_reducible conv => whnf)) | ((with_reducible apply xE); (· exact rfl); (with_reducible conv => whnf)) | ((with_reducible refine And.intro ?_ ?_); (· (first | exact rfl | exact trivial | exact sh_int _ | exact sh_bool _ | ((try dsimp only [Int.reduceToNat]); first | omega | (refine mulw ?_ ?_ ?_ ?_ <;> omega) | (refine divw ?_ ?_ <;> omega) | (refine poww ?_ ?_ ?_ ?_ <;> omega) | (refine divp ?_ ?_ ?_ <;> omega) | (have := szl; simp only [List.length_append, List.length_cons, List.length_nil, List.length_map, List.length_range]; omega) | decide))); (with_reducible conv => whnf))))
    refine ⟨⟨_, _, _, _, rfl, by omega⟩, fun r as' hp => ?_, fun C as' hx => False.elim hx⟩
    obtain ⟨a4, c4, u, rfl, rfl, k4⟩ := hp _ _ _ _ rfl; clear hp; (try (generalize hρ : DL.backA _ _ _ = ρ'; dsimp only [DL.setS, DL.getS, DL.backA, DL.toPw, DL.RR.vr, DL.RR.sl, DL.nils, DL.wrL, List.set, Int.reduceToNat] at hρ; subst hρ)); ((with_reducible conv => whnf); repeat (first | ((with_reducible refine xT ?_ ?_); (· exact rfl); (with_reducible conv => whnf)) | ((with_reducible refine xF ?_ ?_); (· exact rfl); (with_reducible conv => whnf)) | ((with_reducible apply xE); (· exact rfl); (with_reducible conv => whnf)) | ((with_reducible refine And.intro ?_ ?_); (· (first | exact rfl | exact trivial | exact sh_int _ | exact sh_bool _ | ((try dsimp only [Int.reduceToNat]); first | omega | (refine mulw ?_ ?_ ?_ ?_ <;> omega) | (refine divw ?_ ?_ <;> omega) | (refine poww ?_ ?_ ?_ ?_ <;> omega) | (refine divp ?_ ?_ ?_ <;> omega) | (have := szl; simp only [List.length_append, List.length_cons, List.length_nil, List.length_map, List.length_range]; omega) | decide))); (with_reducible conv => whnf))))
    obtain ⟨x, hx, hm, _⟩ := atI_ex (xs := [PyData.int 1, .int (-1), .int (v - 20), .int w]) (i := u) k4.1 k4.2.1
    obtain ⟨q, rfl⟩ : ∃ q : Int, x = .int q := by
      simp only [List.mem_cons, List.mem_nil_iff, or_false] at hm
      rcases hm with rfl | rfl | rfl | rfl <;> exact ⟨_, rfl⟩
    refine ⟨_, hx, ?_⟩
    ((with_reducible conv => whnf); repeat (first | ((with_reducible refine xT ?_ ?_); (· exact rfl); (with_reducible conv => whnf)) | ((with_reducible refine xF ?_ ?_); (· exact rfl); (with_reducible conv => whnf)) | ((with_reducible apply xE); (· exact rfl); (with_reducible conv => whnf)) | ((with_reducible refine And.intro ?_ ?_); (· (first | exact rfl | exact trivial | exact sh_int _ | exact sh_bool _ | ((try dsimp only [Int.reduceToNat]); first | omega | (refine mulw ?_ ?_ ?_ ?_ <;> omega) | (refine divw ?_ ?_ <;> omega) | (refine poww ?_ ?_ ?_ ?_ <;> omega) | (refine divp ?_ ?_ ?_ <;> omega) | (have := szl; simp only [List.length_append, List.length_cons, List.length_nil, List.length_map, List.length_range]; omega) | decide))); (with_reducible conv => whnf))))
    have hix : ixN ((0 :: ms).map PyData.int).length (1 + i) = some (i.toNat + 1) := by
      unfold ixN
      rw [if_pos (by omega), if_pos (by rw [List.length_map, List.length_cons]; omega)]
      congr 1; omega
    refine ⟨_, hix, ?_⟩
    have fin := k a4 c4 (ms.set i.toNat (mAt (0 :: ms) (1 + i) + q)) (.fz (.int (1 + i))) (by omega) (by omega) (by rw [List.length_set])
    rw [List.map_cons, List.map_set] at fin
    exact fin
  · ((with_reducible conv => whnf); repeat (first | ((with_reducible refine xT ?_ ?_); (· exact rfl); (with_reducible conv => whnf)) | ((with_reducible refine xF ?_ ?_); (· exact rfl); (with_reducible conv => whnf)) | ((with_reducible apply xE); (· exact rfl); (with_reducible conv => whnf)) | ((with_reducible refine And.intro ?_ ?_); (· (first | exact rfl | exact trivial | exact sh_int _ | exact sh_bool _ | ((try dsimp only [Int.reduceToNat]); first | omega | (refine mulw ?_ ?_ ?_ ?_ <;> omega) | (refine divw ?_ ?_ <;> omega) | (refine poww ?_ ?_ ?_ ?_ <;> omega) | (refine divp ?_ ?_ ?_ <;> omega) | (have := szl; simp only [List.length_append, List.length_cons, List.length_nil, List.length_map, List.length_range]; omega) | decide))); (with_reducible conv => whnf))))
    exact k _ _ ms _ (by omega) (by omega) rfl
theorem rd__law_near (cl : Nat → Addr) (as ad) (hp : (sp__law_near cl).pre as) : t__law_near cl (endsOf (sp__law_near cl) as ad) (startS as ad 0 ++ List.replicate 3 .nil) := by
  obtain ⟨a, b, c, n, bs, ms, rfl, h1, h2, h3, h4, hs, hl⟩ := hp
  show t__law_near cl (endsOf _ _ _) [.pw (ad 0) (.l [.int a, .int b, .int c]), .fz (sysD n bs), .fz (msD (0 :: ms)), .nil, .nil, .nil]
  unfold t__law_near
  ((with_reducible conv => whnf); repeat (first | ((with_reducible refine xT ?_ ?_); (· exact rfl); (with_reducible conv => whnf)) | ((with_reducible refine xF ?_ ?_); (· exact rfl); (with_reducible conv => whnf)) | ((with_reducible apply xE); (· exact rfl); (with_reducible conv => whnf)) | ((with_reducible refine And.intro ?_ ?_); (· (first | exact rfl | exact trivial | exact sh_int _ | exact sh_bool _ | ((try dsimp only [Int.reduceToNat]); first | omega | (refine mulw ?_ ?_ ?_ ?_ <;> omega) | (refine divw ?_ ?_ <;> omega) | (refine poww ?_ ?_ ?_ ?_ <;> omega) | (refine divp ?_ ?_ ?_ <;> omega) | (have := szl; simp only [List.length_append, List.length_cons, List.length_nil, List.length_map, List.length_range]; omega) | decide))); (with_reducible conv => whnf))))
  (try unfold DL.sFor); (try unfold DL.sWhile); (try unfold DL.eLc)
  ((with_reducible conv => whnf); repeat (first | ((with_reducible refine xT ?_ ?_); (· exact rfl); (with_reducible conv => whnf)) | ((with_reducible refine xF ?_ ?_); (· exact rfl); (with_reducible conv => whnf)) | ((with_reducible apply xE); (· exact rfl); (with_reducible conv => whnf)) | ((with_reducible refine And.intro ?_ ?_); (· (first | exact rfl | exact trivial | exact sh_int _ | exact sh_bool _ | ((try dsimp only [Int.reduceToNat]); first | omega | (refine mulw ?_ ?_ ?_ ?_ <;> omega) | (refine divw ?_ ?_ <;> omega) | (refine poww ?_ ?_ ?_ ?_ <;> omega) | (refine divp ?_ ?_ ?_ <;> omega) | (have := szl; simp only [List.length_append, List.length_cons, List.length_nil, List.length_map, List.length_range]; omega) | decide))); (with_reducible conv => whnf))))
  refine ⟨⟨_, _, _, _, rfl, by omega⟩, fun r as' hp => ?_, fun C as' hx => False.elim hx⟩
  obtain ⟨a1, c1, u, rfl, rfl, k1⟩ := hp _ _ _ _ rfl; clear hp; (try (generalize hρ : DL.backA _ _ _ = ρ'; dsimp only [DL.setS, DL.getS, DL.backA, DL.toPw, DL.RR.vr, DL.RR.sl, DL.nils, DL.wrL, List.set, Int.reduceToNat] at hρ; subst hρ)); ((with_reducible conv => whnf); repeat (first | ((with_reducible refine xT ?_ ?_); (· exact rfl); (with_reducible conv => whnf)) | ((with_reducible refine xF ?_ ?_); (· exact rfl); (with_reducible conv => whnf)) | ((with_reducible apply xE); (· exact rfl); (with_reducible conv => whnf)) | ((with_reducible refine And.intro ?_ ?_); (· (first | exact rfl | exact trivial | exact sh_int _ | exact sh_bool _ | ((try dsimp only [Int.reduceToNat]); first | omega | (refine mulw ?_ ?_ ?_ ?_ <;> omega) | (refine divw ?_ ?_ <;> omega) | (refine poww ?_ ?_ ?_ ?_ <;> omega) | (refine divp ?_ ?_ ?_ <;> omega) | (have := szl; simp only [List.length_append, List.length_cons, List.length_nil, List.length_map, List.length_range]; omega) | decide))); (with_reducible conv => whnf))))
  refine ⟨fun i ρ => ∃ (a' c' : Int) (ms' : List Int) (s4 s5 : Sl), ρ = [.pw (ad 0) (.l [.int a', .int b, .int c']), .fz (sysD n bs), .fz (msD (0 :: ms)), .ow (.l ((0 :: ms').map .int)), s4, s5] ∧ ms'.length = ms.length ∧ c1 ≤ c' ∧ c' ≤ c1 + 20 * (i : Int), ⟨a1, c1, ms, _, _, rfl, rfl, by omega, by omega⟩, ?_, ?_⟩
  · rintro i x ρ hi ⟨a', c', ms', s4, s5, rfl, e1, e2, e3⟩
    have hlt := (List.getElem?_eq_some_iff.mp hi).1
    rw [rgD_len] at hlt
    (with_reducible conv => whnf)
    exact rb_near _ (by omega) (by omega) hs.2.1 fun a' c' ms' s5 f1 f2 f3 => ⟨_, _, ms', _, _, rfl, by omega, by omega, by omega⟩
  · rintro ρ ⟨a', c', ms', s4, s5, rfl, e1, e2, e3⟩
    rw [rgD_len] at e3
    ((with_reducible conv => whnf); repeat (first | ((with_reducible refine xT ?_ ?_); (· exact rfl); (with_reducible conv => whnf)) | ((with_reducible refine xF ?_ ?_); (· exact rfl); (with_reducible conv => whnf)) | ((with_reducible apply xE); (· exact rfl); (with_reducible conv => whnf)) | ((with_reducible refine And.intro ?_ ?_); (· (first | exact rfl | exact trivial | exact sh_int _ | exact sh_bool _ | ((try dsimp only [Int.reduceToNat]); first | omega | (refine mulw ?_ ?_ ?_ ?_ <;> omega) | (refine divw ?_ ?_ <;> omega) | (refine poww ?_ ?_ ?_ ?_ <;> omega) | (refine divp ?_ ?_ ?_ <;> omega) | (have := szl; simp only [List.length_append, List.length_cons, List.length_nil, List.length_map, List.length_range]; omega) | decide))); (with_reducible conv => whnf))))
    intro a0 b0 c0 n0 bs0 ms0 e
    have em : msD (0 :: ms) = msD (0 :: ms0) := by injection e with e e'; exact (fz2 e').2
    have em := msD_inj em
    have eb : b = b0 ∧ c = c0 := by
      injection e with e _
      injection e with e
      injection e with e
      injection e with _ e
      injection e with e2 e
      injection e with e3 _
      injection e2 with e2
      injection e3 with e3
      exact ⟨e2, e3⟩
    have es : sysD n bs = sysD n0 bs0 := by injection e with e e'; exact (fz2 e').1
    obtain ⟨q1, q2⟩ := sysD_inj es
    injection em with _ em
    obtain ⟨rfl, rfl⟩ := eb
    subst em q1 q2
    exact ⟨_, _, ms', rfl, e1, rfl, by omega, by omega⟩
end T08
set_option Elab.async false
set_option linter.all false
set_option maxRecDepth 100000
set_option maxHeartbeats 2000000
namespace T08
open PySem PySem.Spec PyProof.Rows L2 DL
theorem cut_map (ms : List Int) (lo hi : Option Int) : cutA (ms.map PyData.int) lo hi = (cutA ms lo hi).map PyData.int := by
  unfold cutA
  rw [List.length_map, ← List.map_drop, ← List.map_take]
theorem okT_flat {cls : List Addr} {d : D} (h : exOk cls d) (h2 : ∀ ds, d ≠ .tuple ds) : okT cls d := ⟨h, fun ds e => absurd e (h2 ds)⟩
theorem okT_one {cls : List Addr} (xs ys : List Int) (o : D) (ho : ∀ k, o ≠ .dict k) (hs : SeqAt.shaped (.list [o]) = true) : okT cls (.tuple (xs.map .int ++ [o] ++ ys.map .int)) := by
  refine ⟨trivial, fun ds e => ?_⟩
  injection e with e
  subst e
  refine ⟨fun d hd k hk => ?_, ?_⟩
  · subst hk
    rcases List.mem_append.mp hd with hd | hd
    · rcases List.mem_append.mp hd with hd | hd
      · obtain ⟨x, _, e⟩ := List.mem_map.mp hd; cases e
      · exact ho k (List.mem_singleton.mp hd).symm
    · obtain ⟨x, _, e⟩ := List.mem_map.mp hd; cases e
  · rw [List.filter_append, List.filter_append, filt_nil.mpr (all_ints xs), filt_nil.mpr (all_ints ys), List.nil_append, List.append_nil]
    rw [List.filter_cons]
    split
    · exact hs
    · exact sh_nil
theorem okT_ints {cls : List Addr} (ms : List Int) : okT cls (.tuple (ms.map .int)) := by
  refine ⟨trivial, fun ds e => ?_⟩
  injection e with e
  subst e
  refine ⟨fun d hd k hk => ?_, by rw [filt_nil.mpr (all_ints ms)]; exact sh_nil⟩
  subst hk
  obtain ⟨x, _, e⟩ := List.mem_map.mp hd
  cases e
theorem rd__law_odd (cl : Nat → Addr) (as ad) (hp : (sp__law_odd cl).pre as) : t__law_odd cl (endsOf (sp__law_odd cl) as ad) (startS as ad 0 ++ List.replicate 4 .nil) := by
  obtain ⟨a, b, c, ms, rfl, h1, h2, h3, h4, hz⟩ := hp
  show t__law_odd cl (endsOf _ _ _) [.pw (ad 0) (.l [.int a, .int b, .int c]), .fz (msD (0 :: ms)), .nil, .nil, .nil, .nil]
  unfold t__law_odd
  ((with_reducible conv => whnf); repeat (first | ((with_reducible refine xT ?_ ?_); (· exact rfl); (with_reducible conv => whnf)) | ((with_reducible refine xF ?_ ?_); (· exact rfl); (with_reducible conv => whnf)) | ((with_reducible apply xE); (· exact rfl); (with_reducible conv => whnf)) | ((with_reducible refine And.intro ?_ ?_); (· (first | exact rfl | exact trivial | exact sh_int _ | exact sh_bool _ | ((try dsimp only [Int.reduceToNat]); first | omega | (refine mulw ?_ ?_ ?_ ?_ <;> omega) | (refine divw ?_ ?_ <;> omega) | (refine poww ?_ ?_ ?_ ?_ <;> omega) | (refine divp ?_ ?_ ?_ <;> omega) | (have := szl; simp only [List.length_append, List.length_cons, List.length_nil, List.length_map, List.length_range]; omega) | decide))); (with_reducible conv => whnf))))
  refine ⟨⟨_, _, _, _, rfl, by rw [List.length_map, List.length_cons]; omega⟩, fun r as' hp => ?_, fun C as' hx => False.elim hx⟩
  obtain ⟨a1, c1, t, rfl, rfl, k1⟩ := hp _ _ _ _ rfl; clear hp; (try (generalize hρ : DL.backA _ _ _ = ρ'; dsimp only [DL.setS, DL.getS, DL.backA, DL.toPw, DL.RR.vr, DL.RR.sl, DL.nils, DL.wrL, List.set, Int.reduceToNat] at hρ; subst hρ)); ((with_reducible conv => whnf); repeat (first | ((with_reducible refine xT ?_ ?_); (· exact rfl); (with_reducible conv => whnf)) | ((with_reducible refine xF ?_ ?_); (· exact rfl); (with_reducible conv => whnf)) | ((with_reducible apply xE); (· exact rfl); (with_reducible conv => whnf)) | ((with_reducible refine And.intro ?_ ?_); (· (first | exact rfl | exact trivial | exact sh_int _ | exact sh_bool _ | ((try dsimp only [Int.reduceToNat]); first | omega | (refine mulw ?_ ?_ ?_ ?_ <;> omega) | (refine divw ?_ ?_ <;> omega) | (refine poww ?_ ?_ ?_ ?_ <;> omega) | (refine divp ?_ ?_ ?_ <;> omega) | (have := szl; simp only [List.length_append, List.length_cons, List.length_nil, List.length_map, List.length_range]; omega) | decide))); (with_reducible conv => whnf))))
  rw [List.length_map, List.length_cons] at k1
  refine ⟨⟨_, _, _, _, rfl, by omega⟩, fun r as' hp => ?_, fun C as' hx => False.elim hx⟩
  obtain ⟨a2, c2, u, rfl, rfl, k2⟩ := hp _ _ _ _ rfl; clear hp; (try (generalize hρ : DL.backA _ _ _ = ρ'; dsimp only [DL.setS, DL.getS, DL.backA, DL.toPw, DL.RR.vr, DL.RR.sl, DL.nils, DL.wrL, List.set, Int.reduceToNat] at hρ; subst hρ)); ((with_reducible conv => whnf); repeat (first | ((with_reducible refine xT ?_ ?_); (· exact rfl); (with_reducible conv => whnf)) | ((with_reducible refine xF ?_ ?_); (· exact rfl); (with_reducible conv => whnf)) | ((with_reducible apply xE); (· exact rfl); (with_reducible conv => whnf)) | ((with_reducible refine And.intro ?_ ?_); (· (first | exact rfl | exact trivial | exact sh_int _ | exact sh_bool _ | ((try dsimp only [Int.reduceToNat]); first | omega | (refine mulw ?_ ?_ ?_ ?_ <;> omega) | (refine divw ?_ ?_ <;> omega) | (refine poww ?_ ?_ ?_ ?_ <;> omega) | (refine divp ?_ ?_ ?_ <;> omega) | (have := szl; simp only [List.length_append, List.length_cons, List.length_nil, List.length_map, List.length_range]; omega) | decide))); (with_reducible conv => whnf))))
  obtain ⟨o, ho, hm, _⟩ := atI_ex (xs := [PyData.bool true, .bool false, .none, .str "0", .tuple [.int 0], .list [.int 0]]) (i := u) k2.1 k2.2.1
  have go : (∀ k, o ≠ .dict k) ∧ SeqAt.shaped (.list [o]) = true := by
    simp only [List.mem_cons, List.mem_nil_iff, or_false] at hm
    rcases hm with rfl | rfl | rfl | rfl | rfl | rfl <;> exact ⟨fun k z => (nomatch z), by decide +kernel⟩
  refine ⟨o, ho, ?_⟩
  ((with_reducible conv => whnf); repeat (first | ((with_reducible refine xT ?_ ?_); (· exact rfl); (with_reducible conv => whnf)) | ((with_reducible refine xF ?_ ?_); (· exact rfl); (with_reducible conv => whnf)) | ((with_reducible apply xE); (· exact rfl); (with_reducible conv => whnf)) | ((with_reducible refine And.intro ?_ ?_); (· (first | exact rfl | exact trivial | exact sh_int _ | exact sh_bool _ | ((try dsimp only [Int.reduceToNat]); first | omega | (refine mulw ?_ ?_ ?_ ?_ <;> omega) | (refine divw ?_ ?_ <;> omega) | (refine poww ?_ ?_ ?_ ?_ <;> omega) | (refine divp ?_ ?_ ?_ <;> omega) | (have := szl; simp only [List.length_append, List.length_cons, List.length_nil, List.length_map, List.length_range]; omega) | decide))); (with_reducible conv => whnf))))
  refine ⟨⟨_, _, _, _, rfl, by omega⟩, fun r as' hp => ?_, fun C as' hx => False.elim hx⟩
  obtain ⟨a3, c3, v, rfl, rfl, k3⟩ := hp _ _ _ _ rfl; clear hp; (try (generalize hρ : DL.backA _ _ _ = ρ'; dsimp only [DL.setS, DL.getS, DL.backA, DL.toPw, DL.RR.vr, DL.RR.sl, DL.nils, DL.wrL, List.set, Int.reduceToNat] at hρ; subst hρ)); ((with_reducible conv => whnf); repeat (first | ((with_reducible refine xT ?_ ?_); (· exact rfl); (with_reducible conv => whnf)) | ((with_reducible refine xF ?_ ?_); (· exact rfl); (with_reducible conv => whnf)) | ((with_reducible apply xE); (· exact rfl); (with_reducible conv => whnf)) | ((with_reducible refine And.intro ?_ ?_); (· (first | exact rfl | exact trivial | exact sh_int _ | exact sh_bool _ | ((try dsimp only [Int.reduceToNat]); first | omega | (refine mulw ?_ ?_ ?_ ?_ <;> omega) | (refine divw ?_ ?_ <;> omega) | (refine poww ?_ ?_ ?_ ?_ <;> omega) | (refine divp ?_ ?_ ?_ <;> omega) | (have := szl; simp only [List.length_append, List.length_cons, List.length_nil, List.length_map, List.length_range]; omega) | decide))); (with_reducible conv => whnf))))
  have fin : ∀ (a' c' : Int) (d : D), okT [cl 3] d → c ≤ c' → c' ≤ c + 10 → (sp__law_odd cl).post [.ow (.l [.int a, .int b, .int c]), .fz (msD (0 :: ms))] (.fz d) [.ow (.l [.int a', .int b, .int c']), .fz (msD (0 :: ms))] := by
    intro a' c' d hd e1 e2 a0 b0 c0 ms0 e
    have em : msD (0 :: ms) = msD (0 :: ms0) := by injection e with e e'; exact fz1 e'
    have em := msD_inj em
    injection em with _ em
    have eb : b = b0 ∧ c = c0 := by
      injection e with e _
      injection e with e
      injection e with e
      injection e with _ e
      injection e with e2 e
      injection e with e3 _
      injection e2 with e2
      injection e3 with e3
      exact ⟨e2, e3⟩
    obtain ⟨rfl, rfl⟩ := eb
    subst em
    exact ⟨_, _, d, rfl, hd, rfl, e1, e2⟩
  have le1 : ∀ lo hi, (cutA ((0 :: ms).map PyData.int) lo hi).length ≤ 1001 := fun lo hi => by
    have := cutA_le ((0 :: ms).map PyData.int) lo hi
    rw [List.length_map, List.length_cons] at this
    omega
  have zz := szl
  refine xBd (fun h => ?_) (fun h => ?_)
  · ((with_reducible conv => whnf); repeat (first | ((with_reducible refine xT ?_ ?_); (· exact rfl); (with_reducible conv => whnf)) | ((with_reducible refine xF ?_ ?_); (· exact rfl); (with_reducible conv => whnf)) | ((with_reducible apply xE); (· exact rfl); (with_reducible conv => whnf)) | ((with_reducible refine And.intro ?_ ?_); (· (first | exact rfl | exact trivial | exact sh_int _ | exact sh_bool _ | ((try dsimp only [Int.reduceToNat]); first | omega | (refine mulw ?_ ?_ ?_ ?_ <;> omega) | (refine divw ?_ ?_ <;> omega) | (refine poww ?_ ?_ ?_ ?_ <;> omega) | (refine divp ?_ ?_ ?_ <;> omega) | (have := szl; simp only [List.length_append, List.length_cons, List.length_nil, List.length_map, List.length_range]; omega) | decide))); (with_reducible conv => whnf))))
    refine ⟨by have := le1 none (some t); rw [List.length_singleton]; omega, ?_⟩
    ((with_reducible conv => whnf); repeat (first | ((with_reducible refine xT ?_ ?_); (· exact rfl); (with_reducible conv => whnf)) | ((with_reducible refine xF ?_ ?_); (· exact rfl); (with_reducible conv => whnf)) | ((with_reducible apply xE); (· exact rfl); (with_reducible conv => whnf)) | ((with_reducible refine And.intro ?_ ?_); (· (first | exact rfl | exact trivial | exact sh_int _ | exact sh_bool _ | ((try dsimp only [Int.reduceToNat]); first | omega | (refine mulw ?_ ?_ ?_ ?_ <;> omega) | (refine divw ?_ ?_ <;> omega) | (refine poww ?_ ?_ ?_ ?_ <;> omega) | (refine divp ?_ ?_ ?_ <;> omega) | (have := szl; simp only [List.length_append, List.length_cons, List.length_nil, List.length_map, List.length_range]; omega) | decide))); (with_reducible conv => whnf))))
    refine ⟨by have := le1 none (some t); have := le1 (some (t + 1)) none; rw [List.length_append, List.length_singleton]; omega, ?_⟩
    ((with_reducible conv => whnf); repeat (first | ((with_reducible refine xT ?_ ?_); (· exact rfl); (with_reducible conv => whnf)) | ((with_reducible refine xF ?_ ?_); (· exact rfl); (with_reducible conv => whnf)) | ((with_reducible apply xE); (· exact rfl); (with_reducible conv => whnf)) | ((with_reducible refine And.intro ?_ ?_); (· (first | exact rfl | exact trivial | exact sh_int _ | exact sh_bool _ | ((try dsimp only [Int.reduceToNat]); first | omega | (refine mulw ?_ ?_ ?_ ?_ <;> omega) | (refine divw ?_ ?_ <;> omega) | (refine poww ?_ ?_ ?_ ?_ <;> omega) | (refine divp ?_ ?_ ?_ <;> omega) | (have := szl; simp only [List.length_append, List.length_cons, List.length_nil, List.length_map, List.length_range]; omega) | decide))); (with_reducible conv => whnf))))
    refine fin _ _ _ ?_ (by omega) (by omega)
    rw [cut_map, cut_map]
    exact okT_one _ _ o go.1 go.2
  · ((with_reducible conv => whnf); repeat (first | ((with_reducible refine xT ?_ ?_); (· exact rfl); (with_reducible conv => whnf)) | ((with_reducible refine xF ?_ ?_); (· exact rfl); (with_reducible conv => whnf)) | ((with_reducible apply xE); (· exact rfl); (with_reducible conv => whnf)) | ((with_reducible refine And.intro ?_ ?_); (· (first | exact rfl | exact trivial | exact sh_int _ | exact sh_bool _ | ((try dsimp only [Int.reduceToNat]); first | omega | (refine mulw ?_ ?_ ?_ ?_ <;> omega) | (refine divw ?_ ?_ <;> omega) | (refine poww ?_ ?_ ?_ ?_ <;> omega) | (refine divp ?_ ?_ ?_ <;> omega) | (have := szl; simp only [List.length_append, List.length_cons, List.length_nil, List.length_map, List.length_range]; omega) | decide))); (with_reducible conv => whnf))))
    refine ⟨by have := le1 (some 1) none; rw [List.length_singleton]; omega, ?_⟩
    ((with_reducible conv => whnf); repeat (first | ((with_reducible refine xT ?_ ?_); (· exact rfl); (with_reducible conv => whnf)) | ((with_reducible refine xF ?_ ?_); (· exact rfl); (with_reducible conv => whnf)) | ((with_reducible apply xE); (· exact rfl); (with_reducible conv => whnf)) | ((with_reducible refine And.intro ?_ ?_); (· (first | exact rfl | exact trivial | exact sh_int _ | exact sh_bool _ | ((try dsimp only [Int.reduceToNat]); first | omega | (refine mulw ?_ ?_ ?_ ?_ <;> omega) | (refine divw ?_ ?_ <;> omega) | (refine poww ?_ ?_ ?_ ?_ <;> omega) | (refine divp ?_ ?_ ?_ <;> omega) | (have := szl; simp only [List.length_append, List.length_cons, List.length_nil, List.length_map, List.length_range]; omega) | decide))); (with_reducible conv => whnf))))
    refine ⟨⟨by omega, by rw [List.length_map, List.length_cons]; omega, by decide⟩, ?_⟩
    ((with_reducible conv => whnf); repeat (first | ((with_reducible refine xT ?_ ?_); (· exact rfl); (with_reducible conv => whnf)) | ((with_reducible refine xF ?_ ?_); (· exact rfl); (with_reducible conv => whnf)) | ((with_reducible apply xE); (· exact rfl); (with_reducible conv => whnf)) | ((with_reducible refine And.intro ?_ ?_); (· (first | exact rfl | exact trivial | exact sh_int _ | exact sh_bool _ | ((try dsimp only [Int.reduceToNat]); first | omega | (refine mulw ?_ ?_ ?_ ?_ <;> omega) | (refine divw ?_ ?_ <;> omega) | (refine poww ?_ ?_ ?_ ?_ <;> omega) | (refine divp ?_ ?_ ?_ <;> omega) | (have := szl; simp only [List.length_append, List.length_cons, List.length_nil, List.length_map, List.length_range]; omega) | decide))); (with_reducible conv => whnf))))
    refine ⟨⟨_, _, _, _, rfl, by omega⟩, fun r as' hp => ?_, fun C as' hx => False.elim hx⟩
    obtain ⟨a4, c4, q, rfl, rfl, k4⟩ := hp _ _ _ _ rfl; clear hp; (try (generalize hρ : DL.backA _ _ _ = ρ'; dsimp only [DL.setS, DL.getS, DL.backA, DL.toPw, DL.RR.vr, DL.RR.sl, DL.nils, DL.wrL, List.set, Int.reduceToNat] at hρ; subst hρ)); ((with_reducible conv => whnf); repeat (first | ((with_reducible refine xT ?_ ?_); (· exact rfl); (with_reducible conv => whnf)) | ((with_reducible refine xF ?_ ?_); (· exact rfl); (with_reducible conv => whnf)) | ((with_reducible apply xE); (· exact rfl); (with_reducible conv => whnf)) | ((with_reducible refine And.intro ?_ ?_); (· (first | exact rfl | exact trivial | exact sh_int _ | exact sh_bool _ | ((try dsimp only [Int.reduceToNat]); first | omega | (refine mulw ?_ ?_ ?_ ?_ <;> omega) | (refine divw ?_ ?_ <;> omega) | (refine poww ?_ ?_ ?_ ?_ <;> omega) | (refine divp ?_ ?_ ?_ <;> omega) | (have := szl; simp only [List.length_append, List.length_cons, List.length_nil, List.length_map, List.length_range]; omega) | decide))); (with_reducible conv => whnf))))
    obtain ⟨x, hx, hm, _⟩ := atI_ex (xs := [PyData.list ((0 :: ms).map .int), .tuple ((0 :: ms).map .int ++ [.int 0]), .tuple (cutA ((0 :: ms).map .int) (some 1) none), .tuple ([.int 1] ++ cutA ((0 :: ms).map .int) (some 1) none), .none, .str "", .int 0, .bool true, .tuple [], .list [msD (0 :: ms)], .dict [(.int (cl 3 : Nat), .none)], .str (repS "0" ((0 :: ms).map PyData.int).length)]) (i := q) k4.1 k4.2.1
    refine ⟨x, hx, ?_⟩
    ((with_reducible conv => whnf); repeat (first | ((with_reducible refine xT ?_ ?_); (· exact rfl); (with_reducible conv => whnf)) | ((with_reducible refine xF ?_ ?_); (· exact rfl); (with_reducible conv => whnf)) | ((with_reducible apply xE); (· exact rfl); (with_reducible conv => whnf)) | ((with_reducible refine And.intro ?_ ?_); (· (first | exact rfl | exact trivial | exact sh_int _ | exact sh_bool _ | ((try dsimp only [Int.reduceToNat]); first | omega | (refine mulw ?_ ?_ ?_ ?_ <;> omega) | (refine divw ?_ ?_ <;> omega) | (refine poww ?_ ?_ ?_ ?_ <;> omega) | (refine divp ?_ ?_ ?_ <;> omega) | (have := szl; simp only [List.length_append, List.length_cons, List.length_nil, List.length_map, List.length_range]; omega) | decide))); (with_reducible conv => whnf))))
    refine fin _ _ _ ?_ (by omega) (by omega)
    simp only [List.mem_cons, List.mem_nil_iff, or_false] at hm
    rcases hm with rfl | rfl | rfl | rfl | rfl | rfl | rfl | rfl | rfl | rfl | rfl | rfl
    · exact okT_flat trivial fun _ z => (nomatch z)
    · exact okT_ints (0 :: ms ++ [0]) |> (fun h => by rw [List.map_append] at h; exact h)
    · rw [cut_map]; exact okT_ints _
    · rw [cut_map]; exact okT_ints (1 :: cutA (0 :: ms) (some 1) none)
    · exact okT_flat trivial fun _ z => (nomatch z)
    · exact okT_flat trivial fun _ z => (nomatch z)
    · exact okT_flat trivial fun _ z => (nomatch z)
    · exact okT_flat trivial fun _ z => (nomatch z)
    · exact okT_ints []
    · exact okT_flat trivial fun _ z => (nomatch z)
    · exact okT_flat ⟨cl 3, by simp, rfl⟩ fun _ z => (nomatch z)
    · exact okT_flat trivial fun _ z => (nomatch z)
end T08
set_option Elab.async false
set_option linter.all false
set_option maxRecDepth 100000
set_option maxHeartbeats 2000000
namespace T08
open PySem PySem.Spec PyProof.Rows L2 DL
variable {cl : Nat → Addr} {s0 s1 s2 s3 s4 s5 s6 s7 s8 s9 : Sl}
theorem okT_ms2 {cls : List Addr} (ms : List Int) : okT cls (msD ms) := by
  refine ⟨trivial, fun ds e => ?_⟩
  injection e with e
  subst e
  refine ⟨fun d hd k hk => ?_, by rw [filt_nil.mpr (all_ints ms)]; exact sh_nil⟩
  subst hk
  obtain ⟨x, _, e⟩ := List.mem_map.mp hd
  cases e
theorem isW_of {n : Int} {bs : List Bd} {ms : List Int} (hs : okS n bs) (hl : (ms.length : Int) + 1 = n) : isW n bs (msD (0 :: ms)) = bs.all (keepB (0 :: ms)) := by
  have hI : ∀ ms : List Int, intsOf (ms.map PyData.int) = some ms := by
    intro ms
    induction ms with
    | nil => rfl
    | cons m ms ih => show (intsOf (ms.map PyData.int)).map (m :: ·) = _; rw [ih]; rfl
  unfold isW
  rw [(hasM_iff hs.1).mpr ⟨ms, rfl, hl⟩, Bool.true_and]
  show (match intsOf ((0 :: ms).map PyData.int) with | some ms => bs.all (keepB ms) | none => false) = _
  rw [hI]
theorem rb_right {p : Addr} {a b c n : Int} {bs : List Bd} {ms : List Int} (D : DEnds) (h : 0 ≤ b ∧ b < 10 ^ 40 ∧ 0 ≤ c ∧ c < 10 ^ 9) (hs : okS n bs) (hl : (ms.length : Int) + 1 = n) (hk : bs.all (keepB (0 :: ms)) = true)
    (k : ∀ (a' c' : Int) (s6 s7 s8 : Sl), c ≤ c' → c' ≤ c + 2000 → D.nx [.pw p (.l [.int a', .int b, .int c']), s1, s2, s3, .fz (sysD n bs), .fz (msD (0 :: ms)), s6, s7, s8]) :
    t__law_right_b1 cl D [.pw p (.l [.int a, .int b, .int c]), s1, s2, s3, .fz (sysD n bs), .fz (msD (0 :: ms)), s6, s7, s8] := by
  have hn : brkF (keepB (0 :: ms)) bs 0 = .none := by
    rcases brk_none (p := keepB (0 :: ms)) bs 0 with ⟨j, e⟩ | e
    · have := brk_all (p := keepB (0 :: ms)) bs 0
      rw [e, hk] at this; cases this
    · exact e
  unfold t__law_right_b1
  ((with_reducible conv => whnf); repeat (first | ((with_reducible refine xT ?_ ?_); (· exact rfl); (with_reducible conv => whnf)) | ((with_reducible refine xF ?_ ?_); (· exact rfl); (with_reducible conv => whnf)) | ((with_reducible apply xE); (· exact rfl); (with_reducible conv => whnf)) | ((with_reducible refine And.intro ?_ ?_); (· (first | exact rfl | exact trivial | exact sh_int _ | exact sh_bool _ | ((try dsimp only [Int.reduceToNat]); first | omega | (refine mulw ?_ ?_ ?_ ?_ <;> omega) | (refine divw ?_ ?_ <;> omega) | (refine poww ?_ ?_ ?_ ?_ <;> omega) | (refine divp ?_ ?_ ?_ <;> omega) | (have := szl; simp only [List.length_append, List.length_cons, List.length_nil, List.length_map, List.length_range]; omega) | decide))); (with_reducible conv => whnf))))
  refine ⟨⟨_, _, _, rfl, hs, okT_ms2 _⟩, fun r as' hp => ?_, fun C as' hx => False.elim hx⟩
  obtain ⟨rfl, hp⟩ := hp
  have hp := hp _ _ _ rfl
  rw [isW_of hs hl, hk] at hp
  subst hp
  (try (generalize hρ : DL.backA _ _ _ = ρ'; dsimp only [DL.setS, DL.getS, DL.backA, DL.toPw, DL.RR.vr, DL.RR.sl, DL.nils, DL.wrL, List.set, Int.reduceToNat] at hρ; subst hρ)); ((with_reducible conv => whnf); repeat (first | ((with_reducible refine xT ?_ ?_); (· exact rfl); (with_reducible conv => whnf)) | ((with_reducible refine xF ?_ ?_); (· exact rfl); (with_reducible conv => whnf)) | ((with_reducible apply xE); (· exact rfl); (with_reducible conv => whnf)) | ((with_reducible refine And.intro ?_ ?_); (· (first | exact rfl | exact trivial | exact sh_int _ | exact sh_bool _ | ((try dsimp only [Int.reduceToNat]); first | omega | (refine mulw ?_ ?_ ?_ ?_ <;> omega) | (refine divw ?_ ?_ <;> omega) | (refine poww ?_ ?_ ?_ ?_ <;> omega) | (refine divp ?_ ?_ ?_ <;> omega) | (have := szl; simp only [List.length_append, List.length_cons, List.length_nil, List.length_map, List.length_range]; omega) | decide))); (with_reducible conv => whnf))))
  refine ⟨⟨_, _, _, rfl, hs, hl⟩, fun r as' hp => ?_, fun C as' hx => False.elim hx⟩
  obtain ⟨rfl, hp⟩ := hp
  have hp := hp _ _ _ rfl
  rw [hn] at hp
  subst hp
  (try (generalize hρ : DL.backA _ _ _ = ρ'; dsimp only [DL.setS, DL.getS, DL.backA, DL.toPw, DL.RR.vr, DL.RR.sl, DL.nils, DL.wrL, List.set, Int.reduceToNat] at hρ; subst hρ)); ((with_reducible conv => whnf); repeat (first | ((with_reducible refine xT ?_ ?_); (· exact rfl); (with_reducible conv => whnf)) | ((with_reducible refine xF ?_ ?_); (· exact rfl); (with_reducible conv => whnf)) | ((with_reducible apply xE); (· exact rfl); (with_reducible conv => whnf)) | ((with_reducible refine And.intro ?_ ?_); (· (first | exact rfl | exact trivial | exact sh_int _ | exact sh_bool _ | ((try dsimp only [Int.reduceToNat]); first | omega | (refine mulw ?_ ?_ ?_ ?_ <;> omega) | (refine divw ?_ ?_ <;> omega) | (refine poww ?_ ?_ ?_ ?_ <;> omega) | (refine divp ?_ ?_ ?_ <;> omega) | (have := szl; simp only [List.length_append, List.length_cons, List.length_nil, List.length_map, List.length_range]; omega) | decide))); (with_reducible conv => whnf))))
  clear hp
  refine ⟨⟨_, _, _, _, rfl, by omega⟩, fun r as' hp => ?_, fun C as' hx => False.elim hx⟩
  obtain ⟨a1, c1, v, rfl, rfl, k1⟩ := hp _ _ _ _ rfl; clear hp; (try (generalize hρ : DL.backA _ _ _ = ρ'; dsimp only [DL.setS, DL.getS, DL.backA, DL.toPw, DL.RR.vr, DL.RR.sl, DL.nils, DL.wrL, List.set, Int.reduceToNat] at hρ; subst hρ)); ((with_reducible conv => whnf); repeat (first | ((with_reducible refine xT ?_ ?_); (· exact rfl); (with_reducible conv => whnf)) | ((with_reducible refine xF ?_ ?_); (· exact rfl); (with_reducible conv => whnf)) | ((with_reducible apply xE); (· exact rfl); (with_reducible conv => whnf)) | ((with_reducible refine And.intro ?_ ?_); (· (first | exact rfl | exact trivial | exact sh_int _ | exact sh_bool _ | ((try dsimp only [Int.reduceToNat]); first | omega | (refine mulw ?_ ?_ ?_ ?_ <;> omega) | (refine divw ?_ ?_ <;> omega) | (refine poww ?_ ?_ ?_ ?_ <;> omega) | (refine divp ?_ ?_ ?_ <;> omega) | (have := szl; simp only [List.length_append, List.length_cons, List.length_nil, List.length_map, List.length_range]; omega) | decide))); (with_reducible conv => whnf))))
  refine xBd (fun h1 => ?_) (fun h1 => ?_)
  · ((with_reducible conv => whnf); repeat (first | ((with_reducible refine xT ?_ ?_); (· exact rfl); (with_reducible conv => whnf)) | ((with_reducible refine xF ?_ ?_); (· exact rfl); (with_reducible conv => whnf)) | ((with_reducible apply xE); (· exact rfl); (with_reducible conv => whnf)) | ((with_reducible refine And.intro ?_ ?_); (· (first | exact rfl | exact trivial | exact sh_int _ | exact sh_bool _ | ((try dsimp only [Int.reduceToNat]); first | omega | (refine mulw ?_ ?_ ?_ ?_ <;> omega) | (refine divw ?_ ?_ <;> omega) | (refine poww ?_ ?_ ?_ ?_ <;> omega) | (refine divp ?_ ?_ ?_ <;> omega) | (have := szl; simp only [List.length_append, List.length_cons, List.length_nil, List.length_map, List.length_range]; omega) | decide))); (with_reducible conv => whnf))))
    refine ⟨⟨_, _, _, _, _, _, rfl, by omega, by omega, by omega, by omega, hs, hl⟩, fun r as' hp => ?_, fun C as' hx => False.elim hx⟩
    obtain ⟨a2, c2, ms', rfl, hl', rfl, k2⟩ := hp _ _ _ _ _ _ rfl; clear hp; (try (generalize hρ : DL.backA _ _ _ = ρ'; dsimp only [DL.setS, DL.getS, DL.backA, DL.toPw, DL.RR.vr, DL.RR.sl, DL.nils, DL.wrL, List.set, Int.reduceToNat] at hρ; subst hρ)); ((with_reducible conv => whnf); repeat (first | ((with_reducible refine xT ?_ ?_); (· exact rfl); (with_reducible conv => whnf)) | ((with_reducible refine xF ?_ ?_); (· exact rfl); (with_reducible conv => whnf)) | ((with_reducible apply xE); (· exact rfl); (with_reducible conv => whnf)) | ((with_reducible refine And.intro ?_ ?_); (· (first | exact rfl | exact trivial | exact sh_int _ | exact sh_bool _ | ((try dsimp only [Int.reduceToNat]); first | omega | (refine mulw ?_ ?_ ?_ ?_ <;> omega) | (refine divw ?_ ?_ <;> omega) | (refine poww ?_ ?_ ?_ ?_ <;> omega) | (refine divp ?_ ?_ ?_ <;> omega) | (have := szl; simp only [List.length_append, List.length_cons, List.length_nil, List.length_map, List.length_range]; omega) | decide))); (with_reducible conv => whnf))))
    have hl2 : (ms'.length : Int) + 1 = n := by omega
    refine ⟨⟨_, _, _, rfl, hs, hl2⟩, fun r as' hp => ?_, fun C as' hx => False.elim hx⟩
    obtain ⟨rfl, hp⟩ := hp
    have hp := hp _ _ _ rfl
    subst hp
    (try (generalize hρ : DL.backA _ _ _ = ρ'; dsimp only [DL.setS, DL.getS, DL.backA, DL.toPw, DL.RR.vr, DL.RR.sl, DL.nils, DL.wrL, List.set, Int.reduceToNat] at hρ; subst hρ)); ((with_reducible conv => whnf); repeat (first | ((with_reducible refine xT ?_ ?_); (· exact rfl); (with_reducible conv => whnf)) | ((with_reducible refine xF ?_ ?_); (· exact rfl); (with_reducible conv => whnf)) | ((with_reducible apply xE); (· exact rfl); (with_reducible conv => whnf)) | ((with_reducible refine And.intro ?_ ?_); (· (first | exact rfl | exact trivial | exact sh_int _ | exact sh_bool _ | ((try dsimp only [Int.reduceToNat]); first | omega | (refine mulw ?_ ?_ ?_ ?_ <;> omega) | (refine divw ?_ ?_ <;> omega) | (refine poww ?_ ?_ ?_ ?_ <;> omega) | (refine divp ?_ ?_ ?_ <;> omega) | (have := szl; simp only [List.length_append, List.length_cons, List.length_nil, List.length_map, List.length_range]; omega) | decide))); (with_reducible conv => whnf))))
    refine ⟨⟨_, _, _, rfl, hs, hl2⟩, fun r as' hp => ?_, fun C as' hx => False.elim hx⟩
    obtain ⟨rfl, hp⟩ := hp
    have hp := hp _ _ _ rfl
    subst hp
    (try (generalize hρ : DL.backA _ _ _ = ρ'; dsimp only [DL.setS, DL.getS, DL.backA, DL.toPw, DL.RR.vr, DL.RR.sl, DL.nils, DL.wrL, List.set, Int.reduceToNat] at hρ; subst hρ)); ((with_reducible conv => whnf); repeat (first | ((with_reducible refine xT ?_ ?_); (· exact rfl); (with_reducible conv => whnf)) | ((with_reducible refine xF ?_ ?_); (· exact rfl); (with_reducible conv => whnf)) | ((with_reducible apply xE); (· exact rfl); (with_reducible conv => whnf)) | ((with_reducible refine And.intro ?_ ?_); (· (first | exact rfl | exact trivial | exact sh_int _ | exact sh_bool _ | ((try dsimp only [Int.reduceToNat]); first | omega | (refine mulw ?_ ?_ ?_ ?_ <;> omega) | (refine divw ?_ ?_ <;> omega) | (refine poww ?_ ?_ ?_ ?_ <;> omega) | (refine divp ?_ ?_ ?_ <;> omega) | (have := szl; simp only [List.length_append, List.length_cons, List.length_nil, List.length_map, List.length_range]; omega) | decide))); (with_reducible conv => whnf))))
    have hw := isW_of hs hl2
    rw [← brk_all bs 0] at hw
    rcases brk_none (p := keepB (0 :: ms')) bs 0 with ⟨j, e⟩ | e
    · rw [e] at hw ⊢
      ((with_reducible conv => whnf); repeat (first | ((with_reducible refine xT ?_ ?_); (· exact rfl); (with_reducible conv => whnf)) | ((with_reducible refine xF ?_ ?_); (· exact rfl); (with_reducible conv => whnf)) | ((with_reducible apply xE); (· exact rfl); (with_reducible conv => whnf)) | ((with_reducible refine And.intro ?_ ?_); (· (first | exact rfl | exact trivial | exact sh_int _ | exact sh_bool _ | ((try dsimp only [Int.reduceToNat]); first | omega | (refine mulw ?_ ?_ ?_ ?_ <;> omega) | (refine divw ?_ ?_ <;> omega) | (refine poww ?_ ?_ ?_ ?_ <;> omega) | (refine divp ?_ ?_ ?_ <;> omega) | (have := szl; simp only [List.length_append, List.length_cons, List.length_nil, List.length_map, List.length_range]; omega) | decide))); (with_reducible conv => whnf))))
      refine xBne (fun h => absurd rfl h) (fun _ => ?_)
      ((with_reducible conv => whnf); repeat (first | ((with_reducible refine xT ?_ ?_); (· exact rfl); (with_reducible conv => whnf)) | ((with_reducible refine xF ?_ ?_); (· exact rfl); (with_reducible conv => whnf)) | ((with_reducible apply xE); (· exact rfl); (with_reducible conv => whnf)) | ((with_reducible refine And.intro ?_ ?_); (· (first | exact rfl | exact trivial | exact sh_int _ | exact sh_bool _ | ((try dsimp only [Int.reduceToNat]); first | omega | (refine mulw ?_ ?_ ?_ ?_ <;> omega) | (refine divw ?_ ?_ <;> omega) | (refine poww ?_ ?_ ?_ ?_ <;> omega) | (refine divp ?_ ?_ ?_ <;> omega) | (have := szl; simp only [List.length_append, List.length_cons, List.length_nil, List.length_map, List.length_range]; omega) | decide))); (with_reducible conv => whnf))))
      refine ⟨⟨_, rfl, trivial⟩, fun r as' hp => ?_, fun C as' hx => False.elim hx⟩
      obtain ⟨rfl, rfl⟩ := hp _ rfl; clear hp; (try (generalize hρ : DL.backA _ _ _ = ρ'; dsimp only [DL.setS, DL.getS, DL.backA, DL.toPw, DL.RR.vr, DL.RR.sl, DL.nils, DL.wrL, List.set, Int.reduceToNat] at hρ; subst hρ)); ((with_reducible conv => whnf); repeat (first | ((with_reducible refine xT ?_ ?_); (· exact rfl); (with_reducible conv => whnf)) | ((with_reducible refine xF ?_ ?_); (· exact rfl); (with_reducible conv => whnf)) | ((with_reducible apply xE); (· exact rfl); (with_reducible conv => whnf)) | ((with_reducible refine And.intro ?_ ?_); (· (first | exact rfl | exact trivial | exact sh_int _ | exact sh_bool _ | ((try dsimp only [Int.reduceToNat]); first | omega | (refine mulw ?_ ?_ ?_ ?_ <;> omega) | (refine divw ?_ ?_ <;> omega) | (refine poww ?_ ?_ ?_ ?_ <;> omega) | (refine divp ?_ ?_ ?_ <;> omega) | (have := szl; simp only [List.length_append, List.length_cons, List.length_nil, List.length_map, List.length_range]; omega) | decide))); (with_reducible conv => whnf))))
      refine ⟨⟨_, _, _, rfl, hs, okT_ms2 _⟩, fun r as' hp => ?_, fun C as' hx => False.elim hx⟩
      obtain ⟨rfl, hp⟩ := hp
      have hp := hp _ _ _ rfl
      rw [hw] at hp
      subst hp
      (try (generalize hρ : DL.backA _ _ _ = ρ'; dsimp only [DL.setS, DL.getS, DL.backA, DL.toPw, DL.RR.vr, DL.RR.sl, DL.nils, DL.wrL, List.set, Int.reduceToNat] at hρ; subst hρ)); ((with_reducible conv => whnf); repeat (first | ((with_reducible refine xT ?_ ?_); (· exact rfl); (with_reducible conv => whnf)) | ((with_reducible refine xF ?_ ?_); (· exact rfl); (with_reducible conv => whnf)) | ((with_reducible apply xE); (· exact rfl); (with_reducible conv => whnf)) | ((with_reducible refine And.intro ?_ ?_); (· (first | exact rfl | exact trivial | exact sh_int _ | exact sh_bool _ | ((try dsimp only [Int.reduceToNat]); first | omega | (refine mulw ?_ ?_ ?_ ?_ <;> omega) | (refine divw ?_ ?_ <;> omega) | (refine poww ?_ ?_ ?_ ?_ <;> omega) | (refine divp ?_ ?_ ?_ <;> omega) | (have := szl; simp only [List.length_append, List.length_cons, List.length_nil, List.length_map, List.length_range]; omega) | decide))); (with_reducible conv => whnf))))
      refine ⟨⟨_, _, rfl⟩, fun r as' hp => ?_, fun C as' hx => False.elim hx⟩
      obtain ⟨rfl, rfl⟩ := hp _ _ rfl; clear hp; (try (generalize hρ : DL.backA _ _ _ = ρ'; dsimp only [DL.setS, DL.getS, DL.backA, DL.toPw, DL.RR.vr, DL.RR.sl, DL.nils, DL.wrL, List.set, Int.reduceToNat] at hρ; subst hρ)); ((with_reducible conv => whnf); repeat (first | ((with_reducible refine xT ?_ ?_); (· exact rfl); (with_reducible conv => whnf)) | ((with_reducible refine xF ?_ ?_); (· exact rfl); (with_reducible conv => whnf)) | ((with_reducible apply xE); (· exact rfl); (with_reducible conv => whnf)) | ((with_reducible refine And.intro ?_ ?_); (· (first | exact rfl | exact trivial | exact sh_int _ | exact sh_bool _ | ((try dsimp only [Int.reduceToNat]); first | omega | (refine mulw ?_ ?_ ?_ ?_ <;> omega) | (refine divw ?_ ?_ <;> omega) | (refine poww ?_ ?_ ?_ ?_ <;> omega) | (refine divp ?_ ?_ ?_ <;> omega) | (have := szl; simp only [List.length_append, List.length_cons, List.length_nil, List.length_map, List.length_range]; omega) | decide))); (with_reducible conv => whnf))))
      exact k _ _ _ _ _ (by omega) (by omega)
    · rw [e] at hw ⊢
      ((with_reducible conv => whnf); repeat (first | ((with_reducible refine xT ?_ ?_); (· exact rfl); (with_reducible conv => whnf)) | ((with_reducible refine xF ?_ ?_); (· exact rfl); (with_reducible conv => whnf)) | ((with_reducible apply xE); (· exact rfl); (with_reducible conv => whnf)) | ((with_reducible refine And.intro ?_ ?_); (· (first | exact rfl | exact trivial | exact sh_int _ | exact sh_bool _ | ((try dsimp only [Int.reduceToNat]); first | omega | (refine mulw ?_ ?_ ?_ ?_ <;> omega) | (refine divw ?_ ?_ <;> omega) | (refine poww ?_ ?_ ?_ ?_ <;> omega) | (refine divp ?_ ?_ ?_ <;> omega) | (have := szl; simp only [List.length_append, List.length_cons, List.length_nil, List.length_map, List.length_range]; omega) | decide))); (with_reducible conv => whnf))))
      refine ⟨⟨_, _, _, rfl, hs, okT_ms2 _⟩, fun r as' hp => ?_, fun C as' hx => False.elim hx⟩
      obtain ⟨rfl, hp⟩ := hp
      have hp := hp _ _ _ rfl
      rw [hw] at hp
      subst hp
      (try (generalize hρ : DL.backA _ _ _ = ρ'; dsimp only [DL.setS, DL.getS, DL.backA, DL.toPw, DL.RR.vr, DL.RR.sl, DL.nils, DL.wrL, List.set, Int.reduceToNat] at hρ; subst hρ)); ((with_reducible conv => whnf); repeat (first | ((with_reducible refine xT ?_ ?_); (· exact rfl); (with_reducible conv => whnf)) | ((with_reducible refine xF ?_ ?_); (· exact rfl); (with_reducible conv => whnf)) | ((with_reducible apply xE); (· exact rfl); (with_reducible conv => whnf)) | ((with_reducible refine And.intro ?_ ?_); (· (first | exact rfl | exact trivial | exact sh_int _ | exact sh_bool _ | ((try dsimp only [Int.reduceToNat]); first | omega | (refine mulw ?_ ?_ ?_ ?_ <;> omega) | (refine divw ?_ ?_ <;> omega) | (refine poww ?_ ?_ ?_ ?_ <;> omega) | (refine divp ?_ ?_ ?_ <;> omega) | (have := szl; simp only [List.length_append, List.length_cons, List.length_nil, List.length_map, List.length_range]; omega) | decide))); (with_reducible conv => whnf))))
      refine ⟨⟨_, _, rfl⟩, fun r as' hp => ?_, fun C as' hx => False.elim hx⟩
      obtain ⟨rfl, rfl⟩ := hp _ _ rfl; clear hp; (try (generalize hρ : DL.backA _ _ _ = ρ'; dsimp only [DL.setS, DL.getS, DL.backA, DL.toPw, DL.RR.vr, DL.RR.sl, DL.nils, DL.wrL, List.set, Int.reduceToNat] at hρ; subst hρ)); ((with_reducible conv => whnf); repeat (first | ((with_reducible refine xT ?_ ?_); (· exact rfl); (with_reducible conv => whnf)) | ((with_reducible refine xF ?_ ?_); (· exact rfl); (with_reducible conv => whnf)) | ((with_reducible apply xE); (· exact rfl); (with_reducible conv => whnf)) | ((with_reducible refine And.intro ?_ ?_); (· (first | exact rfl | exact trivial | exact sh_int _ | exact sh_bool _ | ((try dsimp only [Int.reduceToNat]); first | omega | (refine mulw ?_ ?_ ?_ ?_ <;> omega) | (refine divw ?_ ?_ <;> omega) | (refine poww ?_ ?_ ?_ ?_ <;> omega) | (refine divp ?_ ?_ ?_ <;> omega) | (have := szl; simp only [List.length_append, List.length_cons, List.length_nil, List.length_map, List.length_range]; omega) | decide))); (with_reducible conv => whnf))))
      exact k _ _ _ _ _ (by omega) (by omega)
  · ((with_reducible conv => whnf); repeat (first | ((with_reducible refine xT ?_ ?_); (· exact rfl); (with_reducible conv => whnf)) | ((with_reducible refine xF ?_ ?_); (· exact rfl); (with_reducible conv => whnf)) | ((with_reducible apply xE); (· exact rfl); (with_reducible conv => whnf)) | ((with_reducible refine And.intro ?_ ?_); (· (first | exact rfl | exact trivial | exact sh_int _ | exact sh_bool _ | ((try dsimp only [Int.reduceToNat]); first | omega | (refine mulw ?_ ?_ ?_ ?_ <;> omega) | (refine divw ?_ ?_ <;> omega) | (refine poww ?_ ?_ ?_ ?_ <;> omega) | (refine divp ?_ ?_ ?_ <;> omega) | (have := szl; simp only [List.length_append, List.length_cons, List.length_nil, List.length_map, List.length_range]; omega) | decide))); (with_reducible conv => whnf))))
    refine ⟨⟨_, _, _, _, rfl, by omega, by omega, by omega, by omega, by have := hs.2.1; omega⟩, fun r as' hp => ?_, fun C as' hx => False.elim hx⟩
    obtain ⟨a2, c2, d, rfl, hd, rfl, k2⟩ := hp _ _ _ _ rfl; clear hp; (try (generalize hρ : DL.backA _ _ _ = ρ'; dsimp only [DL.setS, DL.getS, DL.backA, DL.toPw, DL.RR.vr, DL.RR.sl, DL.nils, DL.wrL, List.set, Int.reduceToNat] at hρ; subst hρ)); ((with_reducible conv => whnf); repeat (first | ((with_reducible refine xT ?_ ?_); (· exact rfl); (with_reducible conv => whnf)) | ((with_reducible refine xF ?_ ?_); (· exact rfl); (with_reducible conv => whnf)) | ((with_reducible apply xE); (· exact rfl); (with_reducible conv => whnf)) | ((with_reducible refine And.intro ?_ ?_); (· (first | exact rfl | exact trivial | exact sh_int _ | exact sh_bool _ | ((try dsimp only [Int.reduceToNat]); first | omega | (refine mulw ?_ ?_ ?_ ?_ <;> omega) | (refine divw ?_ ?_ <;> omega) | (refine poww ?_ ?_ ?_ ?_ <;> omega) | (refine divp ?_ ?_ ?_ <;> omega) | (have := szl; simp only [List.length_append, List.length_cons, List.length_nil, List.length_map, List.length_range]; omega) | decide))); (with_reducible conv => whnf))))
    refine ⟨⟨_, _, _, rfl, hs, hd⟩, fun r as' hp => ?_, fun C as' hx => False.elim hx⟩
    obtain ⟨rfl, hp⟩ := hp
    have hp := hp _ _ _ rfl
    subst hp
    (try (generalize hρ : DL.backA _ _ _ = ρ'; dsimp only [DL.setS, DL.getS, DL.backA, DL.toPw, DL.RR.vr, DL.RR.sl, DL.nils, DL.wrL, List.set, Int.reduceToNat] at hρ; subst hρ)); (with_reducible conv => whnf)
    cases hm : hasM n d with
    | false =>
      ((with_reducible conv => whnf); repeat (first | ((with_reducible refine xT ?_ ?_); (· exact rfl); (with_reducible conv => whnf)) | ((with_reducible refine xF ?_ ?_); (· exact rfl); (with_reducible conv => whnf)) | ((with_reducible apply xE); (· exact rfl); (with_reducible conv => whnf)) | ((with_reducible refine And.intro ?_ ?_); (· (first | exact rfl | exact trivial | exact sh_int _ | exact sh_bool _ | ((try dsimp only [Int.reduceToNat]); first | omega | (refine mulw ?_ ?_ ?_ ?_ <;> omega) | (refine divw ?_ ?_ <;> omega) | (refine poww ?_ ?_ ?_ ?_ <;> omega) | (refine divp ?_ ?_ ?_ <;> omega) | (have := szl; simp only [List.length_append, List.length_cons, List.length_nil, List.length_map, List.length_range]; omega) | decide))); (with_reducible conv => whnf))))
      refine ⟨⟨_, _, _, rfl, hs, hd⟩, fun r as' hp => ?_, fun C as' hx => False.elim hx⟩
      obtain ⟨rfl, hp⟩ := hp
      have hp := hp _ _ _ rfl
      rw [show isW n bs d = false by unfold isW; rw [hm, Bool.false_and]] at hp
      subst hp
      (try (generalize hρ : DL.backA _ _ _ = ρ'; dsimp only [DL.setS, DL.getS, DL.backA, DL.toPw, DL.RR.vr, DL.RR.sl, DL.nils, DL.wrL, List.set, Int.reduceToNat] at hρ; subst hρ)); ((with_reducible conv => whnf); repeat (first | ((with_reducible refine xT ?_ ?_); (· exact rfl); (with_reducible conv => whnf)) | ((with_reducible refine xF ?_ ?_); (· exact rfl); (with_reducible conv => whnf)) | ((with_reducible apply xE); (· exact rfl); (with_reducible conv => whnf)) | ((with_reducible refine And.intro ?_ ?_); (· (first | exact rfl | exact trivial | exact sh_int _ | exact sh_bool _ | ((try dsimp only [Int.reduceToNat]); first | omega | (refine mulw ?_ ?_ ?_ ?_ <;> omega) | (refine divw ?_ ?_ <;> omega) | (refine poww ?_ ?_ ?_ ?_ <;> omega) | (refine divp ?_ ?_ ?_ <;> omega) | (have := szl; simp only [List.length_append, List.length_cons, List.length_nil, List.length_map, List.length_range]; omega) | decide))); (with_reducible conv => whnf))))
      refine ⟨⟨_, _, rfl⟩, fun r as' hp => ?_, fun C as' hx => False.elim hx⟩
      obtain ⟨rfl, rfl⟩ := hp _ _ rfl; clear hp; (try (generalize hρ : DL.backA _ _ _ = ρ'; dsimp only [DL.setS, DL.getS, DL.backA, DL.toPw, DL.RR.vr, DL.RR.sl, DL.nils, DL.wrL, List.set, Int.reduceToNat] at hρ; subst hρ)); ((with_reducible conv => whnf); repeat (first | ((with_reducible refine xT ?_ ?_); (· exact rfl); (with_reducible conv => whnf)) | ((with_reducible refine xF ?_ ?_); (· exact rfl); (with_reducible conv => whnf)) | ((with_reducible apply xE); (· exact rfl); (with_reducible conv => whnf)) | ((with_reducible refine And.intro ?_ ?_); (· (first | exact rfl | exact trivial | exact sh_int _ | exact sh_bool _ | ((try dsimp only [Int.reduceToNat]); first | omega | (refine mulw ?_ ?_ ?_ ?_ <;> omega) | (refine divw ?_ ?_ <;> omega) | (refine poww ?_ ?_ ?_ ?_ <;> omega) | (refine divp ?_ ?_ ?_ <;> omega) | (have := szl; simp only [List.length_append, List.length_cons, List.length_nil, List.length_map, List.length_range]; omega) | decide))); (with_reducible conv => whnf))))
      exact k _ _ _ _ _ (by omega) (by omega)
    | true =>
      obtain ⟨ms', rfl, hl2⟩ := (hasM_iff hs.1).mp hm
      ((with_reducible conv => whnf); repeat (first | ((with_reducible refine xT ?_ ?_); (· exact rfl); (with_reducible conv => whnf)) | ((with_reducible refine xF ?_ ?_); (· exact rfl); (with_reducible conv => whnf)) | ((with_reducible apply xE); (· exact rfl); (with_reducible conv => whnf)) | ((with_reducible refine And.intro ?_ ?_); (· (first | exact rfl | exact trivial | exact sh_int _ | exact sh_bool _ | ((try dsimp only [Int.reduceToNat]); first | omega | (refine mulw ?_ ?_ ?_ ?_ <;> omega) | (refine divw ?_ ?_ <;> omega) | (refine poww ?_ ?_ ?_ ?_ <;> omega) | (refine divp ?_ ?_ ?_ <;> omega) | (have := szl; simp only [List.length_append, List.length_cons, List.length_nil, List.length_map, List.length_range]; omega) | decide))); (with_reducible conv => whnf))))
      refine ⟨⟨_, _, _, rfl, hs, hl2⟩, fun r as' hp => ?_, fun C as' hx => False.elim hx⟩
      obtain ⟨rfl, hp⟩ := hp
      have hp := hp _ _ _ rfl
      subst hp
      (try (generalize hρ : DL.backA _ _ _ = ρ'; dsimp only [DL.setS, DL.getS, DL.backA, DL.toPw, DL.RR.vr, DL.RR.sl, DL.nils, DL.wrL, List.set, Int.reduceToNat] at hρ; subst hρ)); ((with_reducible conv => whnf); repeat (first | ((with_reducible refine xT ?_ ?_); (· exact rfl); (with_reducible conv => whnf)) | ((with_reducible refine xF ?_ ?_); (· exact rfl); (with_reducible conv => whnf)) | ((with_reducible apply xE); (· exact rfl); (with_reducible conv => whnf)) | ((with_reducible refine And.intro ?_ ?_); (· (first | exact rfl | exact trivial | exact sh_int _ | exact sh_bool _ | ((try dsimp only [Int.reduceToNat]); first | omega | (refine mulw ?_ ?_ ?_ ?_ <;> omega) | (refine divw ?_ ?_ <;> omega) | (refine poww ?_ ?_ ?_ ?_ <;> omega) | (refine divp ?_ ?_ ?_ <;> omega) | (have := szl; simp only [List.length_append, List.length_cons, List.length_nil, List.length_map, List.length_range]; omega) | decide))); (with_reducible conv => whnf))))
      refine ⟨⟨_, _, _, rfl, hs, hd⟩, fun r as' hp => ?_, fun C as' hx => False.elim hx⟩
      obtain ⟨rfl, hp⟩ := hp
      have hp := hp _ _ _ rfl
      rw [isW_of hs hl2, ← brk_all bs 0] at hp
      subst hp
      (try (generalize hρ : DL.backA _ _ _ = ρ'; dsimp only [DL.setS, DL.getS, DL.backA, DL.toPw, DL.RR.vr, DL.RR.sl, DL.nils, DL.wrL, List.set, Int.reduceToNat] at hρ; subst hρ)); ((with_reducible conv => whnf); repeat (first | ((with_reducible refine xT ?_ ?_); (· exact rfl); (with_reducible conv => whnf)) | ((with_reducible refine xF ?_ ?_); (· exact rfl); (with_reducible conv => whnf)) | ((with_reducible apply xE); (· exact rfl); (with_reducible conv => whnf)) | ((with_reducible refine And.intro ?_ ?_); (· (first | exact rfl | exact trivial | exact sh_int _ | exact sh_bool _ | ((try dsimp only [Int.reduceToNat]); first | omega | (refine mulw ?_ ?_ ?_ ?_ <;> omega) | (refine divw ?_ ?_ <;> omega) | (refine poww ?_ ?_ ?_ ?_ <;> omega) | (refine divp ?_ ?_ ?_ <;> omega) | (have := szl; simp only [List.length_append, List.length_cons, List.length_nil, List.length_map, List.length_range]; omega) | decide))); (with_reducible conv => whnf))))
      refine ⟨⟨_, _, rfl⟩, fun r as' hp => ?_, fun C as' hx => False.elim hx⟩
      obtain ⟨rfl, rfl⟩ := hp _ _ rfl
      rw [Bool.false_xor, beq_self_eq_true]
      clear hp; (try (generalize hρ : DL.backA _ _ _ = ρ'; dsimp only [DL.setS, DL.getS, DL.backA, DL.toPw, DL.RR.vr, DL.RR.sl, DL.nils, DL.wrL, List.set, Int.reduceToNat] at hρ; subst hρ)); ((with_reducible conv => whnf); repeat (first | ((with_reducible refine xT ?_ ?_); (· exact rfl); (with_reducible conv => whnf)) | ((with_reducible refine xF ?_ ?_); (· exact rfl); (with_reducible conv => whnf)) | ((with_reducible apply xE); (· exact rfl); (with_reducible conv => whnf)) | ((with_reducible refine And.intro ?_ ?_); (· (first | exact rfl | exact trivial | exact sh_int _ | exact sh_bool _ | ((try dsimp only [Int.reduceToNat]); first | omega | (refine mulw ?_ ?_ ?_ ?_ <;> omega) | (refine divw ?_ ?_ <;> omega) | (refine poww ?_ ?_ ?_ ?_ <;> omega) | (refine divp ?_ ?_ ?_ <;> omega) | (have := szl; simp only [List.length_append, List.length_cons, List.length_nil, List.length_map, List.length_range]; omega) | decide))); (with_reducible conv => whnf))))
      exact k _ _ _ _ _ (by omega) (by omega)
end T08
set_option Elab.async false
set_option linter.all false
set_option maxRecDepth 100000
set_option maxHeartbeats 2000000
namespace T08
open PySem PySem.Spec PyProof.Rows L2 DL
theorem mAt_app {l : List Int} {x : Int} {i : Int} (h0 : 0 ≤ i) (h1 : i < l.length) : mAt (l ++ [x]) i = mAt l i := by
  unfold mAt
  simp only [List.getD_eq_getElem?_getD]
  rw [List.getElem?_append_left (by omega)]
theorem mAt_last {l : List Int} {x : Int} : mAt (l ++ [x]) (l.length : Int) = x := by
  unfold mAt
  simp only [List.getD_eq_getElem?_getD]
  rw [List.getElem?_append_right (by omega)]
  simp
theorem keep_app {l : List Int} {x n : Int} {bs : List Bd} (hl : (l.length : Int) = n) (hb : ∀ b ∈ bs, okB n b) : bs.all (keepB (l ++ [x])) = bs.all (keepB l) := by
  induction bs with
  | nil => rfl
  | cons b bs ih =>
    rw [List.all_cons, List.all_cons, ih fun b hb' => hb b (by simp [hb'])]
    obtain ⟨k1, k2, k3, k4, _⟩ := hb b (by simp)
    congr 1
    unfold keepB
    rw [mAt_app k1 (by omega), mAt_app k3 (by omega)]
theorem rd__law_right (cl : Nat → Addr) (as ad) (hp : (sp__law_right cl).pre as) : t__law_right cl (endsOf (sp__law_right cl) as ad) (startS as ad 0 ++ List.replicate 8 .nil) := by
  obtain ⟨a, b, rfl, h1, h2⟩ := hp
  show t__law_right cl (endsOf _ _ _) [.pw (ad 0) (.l [.int a, .int b, .int 0]), .nil, .nil, .nil, .nil, .nil, .nil, .nil, .nil]
  unfold t__law_right
  ((with_reducible conv => whnf); repeat (first | ((with_reducible refine xT ?_ ?_); (· exact rfl); (with_reducible conv => whnf)) | ((with_reducible refine xF ?_ ?_); (· exact rfl); (with_reducible conv => whnf)) | ((with_reducible apply xE); (· exact rfl); (with_reducible conv => whnf)) | ((with_reducible refine And.intro ?_ ?_); (· (first | exact rfl | exact trivial | exact sh_int _ | exact sh_bool _ | ((try dsimp only [Int.reduceToNat]); first | omega | (refine mulw ?_ ?_ ?_ ?_ <;> omega) | (refine divw ?_ ?_ <;> omega) | (refine poww ?_ ?_ ?_ ?_ <;> omega) | (refine divp ?_ ?_ ?_ <;> omega) | (have := szl; simp only [List.length_append, List.length_cons, List.length_nil, List.length_map, List.length_range]; omega) | decide))); (with_reducible conv => whnf))))
  refine ⟨⟨_, _, _, _, rfl, by omega⟩, fun r as' hp => ?_, fun C as' hx => False.elim hx⟩
  obtain ⟨a1, c1, v, rfl, rfl, k1⟩ := hp _ _ _ _ rfl; clear hp; (try (generalize hρ : DL.backA _ _ _ = ρ'; dsimp only [DL.setS, DL.getS, DL.backA, DL.toPw, DL.RR.vr, DL.RR.sl, DL.nils, DL.wrL, List.set, Int.reduceToNat] at hρ; subst hρ)); ((with_reducible conv => whnf); repeat (first | ((with_reducible refine xT ?_ ?_); (· exact rfl); (with_reducible conv => whnf)) | ((with_reducible refine xF ?_ ?_); (· exact rfl); (with_reducible conv => whnf)) | ((with_reducible apply xE); (· exact rfl); (with_reducible conv => whnf)) | ((with_reducible refine And.intro ?_ ?_); (· (first | exact rfl | exact trivial | exact sh_int _ | exact sh_bool _ | ((try dsimp only [Int.reduceToNat]); first | omega | (refine mulw ?_ ?_ ?_ ?_ <;> omega) | (refine divw ?_ ?_ <;> omega) | (refine poww ?_ ?_ ?_ ?_ <;> omega) | (refine divp ?_ ?_ ?_ <;> omega) | (have := szl; simp only [List.length_append, List.length_cons, List.length_nil, List.length_map, List.length_range]; omega) | decide))); (with_reducible conv => whnf))))
  obtain ⟨w, hw, ew⟩ : ∃ w : Int, (w = 0 ∨ w = 1) ∧ (if (false ^^ PyData.eqv (.int v) (.int 7)) = true then (1 : Int) else 0) = w := by
    split
    · exact ⟨1, .inr rfl, rfl⟩
    · exact ⟨0, .inl rfl, rfl⟩
  rw [ew]
  have both : ∃ x y : Int, atI [PyData.int 8, .int 23] w = some (.int x) ∧ atI [PyData.int 14, .int 100] w = some (.int y) ∧ 1 ≤ x ∧ x ≤ 23 ∧ 0 ≤ y ∧ y ≤ 100 := by
    rcases hw with rfl | rfl
    · exact ⟨8, 14, rfl, rfl, by decide⟩
    · exact ⟨23, 100, rfl, rfl, by decide⟩
  obtain ⟨x, y, ex, ey, xy⟩ := both
  ((with_reducible conv => whnf); repeat (first | ((with_reducible refine xT ?_ ?_); (· exact rfl); (with_reducible conv => whnf)) | ((with_reducible refine xF ?_ ?_); (· exact rfl); (with_reducible conv => whnf)) | ((with_reducible apply xE); (· exact rfl); (with_reducible conv => whnf)) | ((with_reducible refine And.intro ?_ ?_); (· (first | exact rfl | exact trivial | exact sh_int _ | exact sh_bool _ | ((try dsimp only [Int.reduceToNat]); first | omega | (refine mulw ?_ ?_ ?_ ?_ <;> omega) | (refine divw ?_ ?_ <;> omega) | (refine poww ?_ ?_ ?_ ?_ <;> omega) | (refine divp ?_ ?_ ?_ <;> omega) | (have := szl; simp only [List.length_append, List.length_cons, List.length_nil, List.length_map, List.length_range]; omega) | decide))); (with_reducible conv => whnf))))
  refine ⟨_, ex, ?_⟩
  ((with_reducible conv => whnf); repeat (first | ((with_reducible refine xT ?_ ?_); (· exact rfl); (with_reducible conv => whnf)) | ((with_reducible refine xF ?_ ?_); (· exact rfl); (with_reducible conv => whnf)) | ((with_reducible apply xE); (· exact rfl); (with_reducible conv => whnf)) | ((with_reducible refine And.intro ?_ ?_); (· (first | exact rfl | exact trivial | exact sh_int _ | exact sh_bool _ | ((try dsimp only [Int.reduceToNat]); first | omega | (refine mulw ?_ ?_ ?_ ?_ <;> omega) | (refine divw ?_ ?_ <;> omega) | (refine poww ?_ ?_ ?_ ?_ <;> omega) | (refine divp ?_ ?_ ?_ <;> omega) | (have := szl; simp only [List.length_append, List.length_cons, List.length_nil, List.length_map, List.length_range]; omega) | decide))); (with_reducible conv => whnf))))
  refine ⟨⟨_, _, _, _, rfl, by omega⟩, fun r as' hp => ?_, fun C as' hx => False.elim hx⟩
  obtain ⟨a2, c2, u, rfl, rfl, k2⟩ := hp _ _ _ _ rfl; clear hp; (try (generalize hρ : DL.backA _ _ _ = ρ'; dsimp only [DL.setS, DL.getS, DL.backA, DL.toPw, DL.RR.vr, DL.RR.sl, DL.nils, DL.wrL, List.set, Int.reduceToNat] at hρ; subst hρ)); ((with_reducible conv => whnf); repeat (first | ((with_reducible refine xT ?_ ?_); (· exact rfl); (with_reducible conv => whnf)) | ((with_reducible refine xF ?_ ?_); (· exact rfl); (with_reducible conv => whnf)) | ((with_reducible apply xE); (· exact rfl); (with_reducible conv => whnf)) | ((with_reducible refine And.intro ?_ ?_); (· (first | exact rfl | exact trivial | exact sh_int _ | exact sh_bool _ | ((try dsimp only [Int.reduceToNat]); first | omega | (refine mulw ?_ ?_ ?_ ?_ <;> omega) | (refine divw ?_ ?_ <;> omega) | (refine poww ?_ ?_ ?_ ?_ <;> omega) | (refine divp ?_ ?_ ?_ <;> omega) | (have := szl; simp only [List.length_append, List.length_cons, List.length_nil, List.length_map, List.length_range]; omega) | decide))); (with_reducible conv => whnf))))
  refine ⟨_, ey, ?_⟩
  ((with_reducible conv => whnf); repeat (first | ((with_reducible refine xT ?_ ?_); (· exact rfl); (with_reducible conv => whnf)) | ((with_reducible refine xF ?_ ?_); (· exact rfl); (with_reducible conv => whnf)) | ((with_reducible apply xE); (· exact rfl); (with_reducible conv => whnf)) | ((with_reducible refine And.intro ?_ ?_); (· (first | exact rfl | exact trivial | exact sh_int _ | exact sh_bool _ | ((try dsimp only [Int.reduceToNat]); first | omega | (refine mulw ?_ ?_ ?_ ?_ <;> omega) | (refine divw ?_ ?_ <;> omega) | (refine poww ?_ ?_ ?_ ?_ <;> omega) | (refine divp ?_ ?_ ?_ <;> omega) | (have := szl; simp only [List.length_append, List.length_cons, List.length_nil, List.length_map, List.length_range]; omega) | decide))); (with_reducible conv => whnf))))
  refine ⟨⟨_, _, _, _, _, rfl, by omega⟩, fun r as' hp => ?_, fun C as' hx => False.elim hx⟩
  obtain ⟨a3, c3, bs, ms, rfl, rfl, hs, hz, hl, hk, k3, k4⟩ := hp _ _ _ _ _ rfl (by omega) (by omega) (by omega) (by omega); clear hp; (try (generalize hρ : DL.backA _ _ _ = ρ'; dsimp only [DL.setS, DL.getS, DL.backA, DL.toPw, DL.RR.vr, DL.RR.sl, DL.nils, DL.wrL, List.set, Int.reduceToNat] at hρ; subst hρ)); ((with_reducible conv => whnf); repeat (first | ((with_reducible refine xT ?_ ?_); (· exact rfl); (with_reducible conv => whnf)) | ((with_reducible refine xF ?_ ?_); (· exact rfl); (with_reducible conv => whnf)) | ((with_reducible apply xE); (· exact rfl); (with_reducible conv => whnf)) | ((with_reducible refine And.intro ?_ ?_); (· (first | exact rfl | exact trivial | exact sh_int _ | exact sh_bool _ | ((try dsimp only [Int.reduceToNat]); first | omega | (refine mulw ?_ ?_ ?_ ?_ <;> omega) | (refine divw ?_ ?_ <;> omega) | (refine poww ?_ ?_ ?_ ?_ <;> omega) | (refine divp ?_ ?_ ?_ <;> omega) | (have := szl; simp only [List.length_append, List.length_cons, List.length_nil, List.length_map, List.length_range]; omega) | decide))); (with_reducible conv => whnf))))
  (try unfold DL.sFor); (try unfold DL.sWhile); (try unfold DL.eLc)
  ((with_reducible conv => whnf); repeat (first | ((with_reducible refine xT ?_ ?_); (· exact rfl); (with_reducible conv => whnf)) | ((with_reducible refine xF ?_ ?_); (· exact rfl); (with_reducible conv => whnf)) | ((with_reducible apply xE); (· exact rfl); (with_reducible conv => whnf)) | ((with_reducible refine And.intro ?_ ?_); (· (first | exact rfl | exact trivial | exact sh_int _ | exact sh_bool _ | ((try dsimp only [Int.reduceToNat]); first | omega | (refine mulw ?_ ?_ ?_ ?_ <;> omega) | (refine divw ?_ ?_ <;> omega) | (refine poww ?_ ?_ ?_ ?_ <;> omega) | (refine divp ?_ ?_ ?_ <;> omega) | (have := szl; simp only [List.length_append, List.length_cons, List.length_nil, List.length_map, List.length_range]; omega) | decide))); (with_reducible conv => whnf))))
  refine ⟨fun i ρ => ∃ (a' c' : Int) (s2 s6 s7 s8 : Sl), ρ = [.pw (ad 0) (.l [.int a', .int b, .int c']), .fz (.int w), s2, .nil, .fz (sysD (1 + u) bs), .fz (msD (0 :: ms)), s6, s7, s8] ∧ c3 ≤ c' ∧ c' ≤ c3 + 2000 * (i : Int), ⟨_, _, _, _, _, _, rfl, by omega, by omega⟩, ?_, ?_⟩
  · rintro i x ρ hi ⟨a', c', s2, s6, s7, s8, rfl, e1, e2⟩
    have hlt := (List.getElem?_eq_some_iff.mp hi).1
    rw [rgD_len] at hlt
    have hlt : i < 8 := hlt
    (with_reducible conv => whnf)
    exact rb_right _ (by omega) hs hl hk fun a' c' s6 s7 s8 f1 f2 => ⟨_, _, _, _, _, _, rfl, by omega, by omega⟩
  rintro ρ ⟨a', c', s2, s6, s7, s8, rfl, e1, e2⟩
  have hbs := hs.2.2.1
  have zz := szl
  ((with_reducible conv => whnf); repeat (first | ((with_reducible refine xT ?_ ?_); (· exact rfl); (with_reducible conv => whnf)) | ((with_reducible refine xF ?_ ?_); (· exact rfl); (with_reducible conv => whnf)) | ((with_reducible apply xE); (· exact rfl); (with_reducible conv => whnf)) | ((with_reducible refine And.intro ?_ ?_); (· (first | exact rfl | exact trivial | exact sh_int _ | exact sh_bool _ | ((try dsimp only [Int.reduceToNat]); first | omega | (refine mulw ?_ ?_ ?_ ?_ <;> omega) | (refine divw ?_ ?_ <;> omega) | (refine poww ?_ ?_ ?_ ?_ <;> omega) | (refine divp ?_ ?_ ?_ <;> omega) | (have := szl; simp only [List.length_append, List.length_cons, List.length_nil, List.length_map, List.length_range]; omega) | decide))); (with_reducible conv => whnf))))
  have es : PyData.tuple [.int (1 + u + 1), .tuple (bs.map bD ++ [.tuple [.int (1 + u), .int 0, .int 3], .tuple [.int 0, .int (1 + u), .int (-4)]])] = sysD (1 + u + 1) (bs ++ [(1 + u, 0, 3), (0, 1 + u, -4)]) := by
    show _ = PyData.tuple [.int (1 + u + 1), .tuple ((bs ++ [(1 + u, 0, 3), (0, 1 + u, -4)]).map bD)]
    rw [List.map_append]; rfl
  have em : ∀ x : Int, PyData.tuple ((0 :: ms).map .int ++ [.int x]) = msD (0 :: (ms ++ [x])) := fun x => by
    show _ = PyData.tuple ((0 :: (ms ++ [x])).map .int)
    rw [List.map_cons, List.map_cons, List.map_append]; rfl
  have hs2 : okS (1 + u + 1) (bs ++ [(1 + u, 0, 3), (0, 1 + u, -4)]) := by
    refine ⟨by omega, by omega, by rw [List.length_append]; show bs.length + 2 ≤ 1000; omega, fun q hq => ?_⟩
    rcases List.mem_append.mp hq with hq | hq
    · obtain ⟨q1, q2, q3, q4, q5⟩ := hs.2.2.2 q hq
      exact ⟨q1, by omega, q3, by omega, q5⟩
    · simp only [List.mem_cons, List.mem_nil_iff, or_false] at hq
      rcases hq with rfl | rfl
      · exact ⟨by show 0 ≤ 1 + u; omega, by show 1 + u < 1 + u + 1; omega, by show (0 : Int) ≤ 0; omega, by show (0 : Int) < 1 + u + 1; omega, by show 1 + u ≠ 0; omega⟩
      · exact ⟨by show (0 : Int) ≤ 0; omega, by show (0 : Int) < 1 + u + 1; omega, by show 0 ≤ 1 + u; omega, by show 1 + u < 1 + u + 1; omega, by show (0 : Int) ≠ 1 + u; omega⟩
  have hl2 : ∀ x : Int, ((ms ++ [x]).length : Int) + 1 = 1 + u + 1 := fun x => by rw [List.length_append]; show ((ms.length + 1 : Nat) : Int) + 1 = _; omega
  have at0 : ∀ x : Int, mAt (0 :: (ms ++ [x])) 0 = 0 := fun x => rfl
  have atn : ∀ x : Int, mAt (0 :: (ms ++ [x])) (1 + u) = x := fun x => by
    have := mAt_last (l := 0 :: ms) (x := x)
    rw [List.length_cons, show ((ms.length + 1 : Nat) : Int) = 1 + u from by omega] at this
    exact this
  have hkk : ∀ x : Int, bs.all (keepB (0 :: (ms ++ [x]))) = true := fun x => by
    have := keep_app (l := 0 :: ms) (x := x) (n := 1 + u) (bs := bs) (by rw [List.length_cons]; omega) hs.2.2.2
    rw [hk] at this
    exact this
  rw [es, em]
  refine ⟨⟨_, _, _, rfl, hs2, okT_ms2 _⟩, fun r as' hp => ?_, fun C as' hx => False.elim hx⟩
  obtain ⟨rfl, hp⟩ := hp
  have hp := hp _ _ _ rfl
  have hw : isW (1 + u + 1) (bs ++ [(1 + u, 0, 3), (0, 1 + u, -4)]) (msD (0 :: (ms ++ [3]))) = false := by
    rw [isW_of hs2 (hl2 3), List.all_append, hkk 3]
    have : keepB (0 :: (ms ++ [3])) (0, 1 + u, -4) = false := by
      unfold keepB
      refine decide_eq_false ?_
      show ¬ mAt (0 :: (ms ++ [3])) 0 - mAt (0 :: (ms ++ [3])) (1 + u) ≤ -4
      rw [at0, atn]; decide
    rw [List.all_cons, List.all_cons, this]; simp
  rw [hw] at hp
  subst hp
  (try (generalize hρ : DL.backA _ _ _ = ρ'; dsimp only [DL.setS, DL.getS, DL.backA, DL.toPw, DL.RR.vr, DL.RR.sl, DL.nils, DL.wrL, List.set, Int.reduceToNat] at hρ; subst hρ)); ((with_reducible conv => whnf); repeat (first | ((with_reducible refine xT ?_ ?_); (· exact rfl); (with_reducible conv => whnf)) | ((with_reducible refine xF ?_ ?_); (· exact rfl); (with_reducible conv => whnf)) | ((with_reducible apply xE); (· exact rfl); (with_reducible conv => whnf)) | ((with_reducible refine And.intro ?_ ?_); (· (first | exact rfl | exact trivial | exact sh_int _ | exact sh_bool _ | ((try dsimp only [Int.reduceToNat]); first | omega | (refine mulw ?_ ?_ ?_ ?_ <;> omega) | (refine divw ?_ ?_ <;> omega) | (refine poww ?_ ?_ ?_ ?_ <;> omega) | (refine divp ?_ ?_ ?_ <;> omega) | (have := szl; simp only [List.length_append, List.length_cons, List.length_nil, List.length_map, List.length_range]; omega) | decide))); (with_reducible conv => whnf))))
  rw [em]
  refine ⟨⟨_, _, _, rfl, hs2, hl2 4⟩, fun r as' hp => ?_, fun C as' hx => False.elim hx⟩
  obtain ⟨rfl, hp⟩ := hp
  have hp := hp _ _ _ rfl
  have hb4 : brkF (keepB (0 :: (ms ++ [4]))) (bs ++ [(1 + u, 0, 3), (0, 1 + u, -4)]) 0 = .int (bs.length : Nat) := by
    rw [brk_app _ _ _ (hkk 4)]
    have : keepB (0 :: (ms ++ [4])) (1 + u, 0, 3) = false := by
      unfold keepB
      refine decide_eq_false ?_
      show ¬ mAt (0 :: (ms ++ [4])) (1 + u) - mAt (0 :: (ms ++ [4])) 0 ≤ 3
      rw [at0, atn]; decide
    show (if keepB (0 :: (ms ++ [4])) (1 + u, 0, 3) = true then _ else _) = _
    rw [this, if_neg Bool.false_ne_true, Nat.zero_add]
  rw [hb4] at hp
  subst hp
  (try (generalize hρ : DL.backA _ _ _ = ρ'; dsimp only [DL.setS, DL.getS, DL.backA, DL.toPw, DL.RR.vr, DL.RR.sl, DL.nils, DL.wrL, List.set, Int.reduceToNat] at hρ; subst hρ)); ((with_reducible conv => whnf); repeat (first | ((with_reducible refine xT ?_ ?_); (· exact rfl); (with_reducible conv => whnf)) | ((with_reducible refine xF ?_ ?_); (· exact rfl); (with_reducible conv => whnf)) | ((with_reducible apply xE); (· exact rfl); (with_reducible conv => whnf)) | ((with_reducible refine And.intro ?_ ?_); (· (first | exact rfl | exact trivial | exact sh_int _ | exact sh_bool _ | ((try dsimp only [Int.reduceToNat]); first | omega | (refine mulw ?_ ?_ ?_ ?_ <;> omega) | (refine divw ?_ ?_ <;> omega) | (refine poww ?_ ?_ ?_ ?_ <;> omega) | (refine divp ?_ ?_ ?_ <;> omega) | (have := szl; simp only [List.length_append, List.length_cons, List.length_nil, List.length_map, List.length_range]; omega) | decide))); (with_reducible conv => whnf))))
  refine ⟨_, rfl, ?_⟩
  rw [List.length_map, eqv_int, decide_eq_true rfl]; rfl
end T08
set_option Elab.async false
set_option linter.all false
set_option maxRecDepth 100000
set_option maxHeartbeats 2000000
namespace T08
open PySem PySem.Spec PyProof.Rows L2 DL
theorem rd_law (cl : Nat → Addr) (as ad) (hp : (sp_law cl).pre as) : t_law cl (endsOf (sp_law cl) as ad) (startS as ad 0 ++ List.replicate 1 .nil) := by
  obtain ⟨ns, rfl, h1⟩ := hp
  show t_law cl (endsOf _ _ _) [.sc ns, .nil]
  unfold t_law
  ((with_reducible conv => whnf); repeat (first | ((with_reducible refine xT ?_ ?_); (· exact rfl); (with_reducible conv => whnf)) | ((with_reducible refine xF ?_ ?_); (· exact rfl); (with_reducible conv => whnf)) | ((with_reducible apply xE); (· exact rfl); (with_reducible conv => whnf)) | ((with_reducible refine And.intro ?_ ?_); (· (first | exact rfl | exact trivial | exact sh_int _ | exact sh_bool _ | ((try dsimp only [Int.reduceToNat]); first | omega | (refine mulw ?_ ?_ ?_ ?_ <;> omega) | (refine divw ?_ ?_ <;> omega) | (refine poww ?_ ?_ ?_ ?_ <;> omega) | (refine divp ?_ ?_ ?_ <;> omega) | (have := szl; simp only [List.length_append, List.length_cons, List.length_nil, List.length_map, List.length_range]; omega) | decide))); (with_reducible conv => whnf))))
  (try unfold DL.sFor); (try unfold DL.sWhile); (try unfold DL.eLc)
  ((with_reducible conv => whnf); repeat (first | ((with_reducible refine xT ?_ ?_); (· exact rfl); (with_reducible conv => whnf)) | ((with_reducible refine xF ?_ ?_); (· exact rfl); (with_reducible conv => whnf)) | ((with_reducible apply xE); (· exact rfl); (with_reducible conv => whnf)) | ((with_reducible refine And.intro ?_ ?_); (· (first | exact rfl | exact trivial | exact sh_int _ | exact sh_bool _ | ((try dsimp only [Int.reduceToNat]); first | omega | (refine mulw ?_ ?_ ?_ ?_ <;> omega) | (refine divw ?_ ?_ <;> omega) | (refine poww ?_ ?_ ?_ ?_ <;> omega) | (refine divp ?_ ?_ ?_ <;> omega) | (have := szl; simp only [List.length_append, List.length_cons, List.length_nil, List.length_map, List.length_range]; omega) | decide))); (with_reducible conv => whnf))))
  refine ⟨fun i ρ => ∃ s1, ρ = [.sc ns, s1], ⟨_, rfl⟩, ?_, ?_⟩
  · rintro i x ρ hi ⟨s1, rfl⟩
    have hlt := (List.getElem?_eq_some_iff.mp hi).1
    rw [rgD_len] at hlt
    rw [rgD_get hlt] at hi
    cases hi
    have hlt : i < 64 := by omega
    (with_reducible conv => whnf)
    unfold t_law_b1
    ((with_reducible conv => whnf); repeat (first | ((with_reducible refine xT ?_ ?_); (· exact rfl); (with_reducible conv => whnf)) | ((with_reducible refine xF ?_ ?_); (· exact rfl); (with_reducible conv => whnf)) | ((with_reducible apply xE); (· exact rfl); (with_reducible conv => whnf)) | ((with_reducible refine And.intro ?_ ?_); (· (first | exact rfl | exact trivial | exact sh_int _ | exact sh_bool _ | ((try dsimp only [Int.reduceToNat]); first | omega | (refine mulw ?_ ?_ ?_ ?_ <;> omega) | (refine divw ?_ ?_ <;> omega) | (refine poww ?_ ?_ ?_ ?_ <;> omega) | (refine divp ?_ ?_ ?_ <;> omega) | (have := szl; simp only [List.length_append, List.length_cons, List.length_nil, List.length_map, List.length_range]; omega) | decide))); (with_reducible conv => whnf))))
    refine ⟨⟨_, _, rfl, by omega, by omega⟩, fun r as' hp => ?_, fun C as' hx => False.elim hx⟩
    obtain ⟨a, b, rfl, rfl, k1⟩ := hp _ _ rfl; clear hp; (try (generalize hρ : DL.backA _ _ _ = ρ'; dsimp only [DL.setS, DL.getS, DL.backA, DL.toPw, DL.RR.vr, DL.RR.sl, DL.nils, DL.wrL, List.set, Int.reduceToNat] at hρ; subst hρ)); ((with_reducible conv => whnf); repeat (first | ((with_reducible refine xT ?_ ?_); (· exact rfl); (with_reducible conv => whnf)) | ((with_reducible refine xF ?_ ?_); (· exact rfl); (with_reducible conv => whnf)) | ((with_reducible apply xE); (· exact rfl); (with_reducible conv => whnf)) | ((with_reducible refine And.intro ?_ ?_); (· (first | exact rfl | exact trivial | exact sh_int _ | exact sh_bool _ | ((try dsimp only [Int.reduceToNat]); first | omega | (refine mulw ?_ ?_ ?_ ?_ <;> omega) | (refine divw ?_ ?_ <;> omega) | (refine poww ?_ ?_ ?_ ?_ <;> omega) | (refine divp ?_ ?_ ?_ <;> omega) | (have := szl; simp only [List.length_append, List.length_cons, List.length_nil, List.length_map, List.length_range]; omega) | decide))); (with_reducible conv => whnf))))
    refine ⟨⟨_, _, rfl, k1⟩, fun r as' hp => ?_, fun C as' hx => False.elim hx⟩
    obtain ⟨l, rfl, rfl⟩ := hp; (try (generalize hρ : DL.backA _ _ _ = ρ'; dsimp only [DL.setS, DL.getS, DL.backA, DL.toPw, DL.RR.vr, DL.RR.sl, DL.nils, DL.wrL, List.set, Int.reduceToNat] at hρ; subst hρ)); ((with_reducible conv => whnf); repeat (first | ((with_reducible refine xT ?_ ?_); (· exact rfl); (with_reducible conv => whnf)) | ((with_reducible refine xF ?_ ?_); (· exact rfl); (with_reducible conv => whnf)) | ((with_reducible apply xE); (· exact rfl); (with_reducible conv => whnf)) | ((with_reducible refine And.intro ?_ ?_); (· (first | exact rfl | exact trivial | exact sh_int _ | exact sh_bool _ | ((try dsimp only [Int.reduceToNat]); first | omega | (refine mulw ?_ ?_ ?_ ?_ <;> omega) | (refine divw ?_ ?_ <;> omega) | (refine poww ?_ ?_ ?_ ?_ <;> omega) | (refine divp ?_ ?_ ?_ <;> omega) | (have := szl; simp only [List.length_append, List.length_cons, List.length_nil, List.length_map, List.length_range]; omega) | decide))); (with_reducible conv => whnf))))
    exact ⟨_, rfl⟩
  · rintro ρ ⟨s1, rfl⟩
    ((with_reducible conv => whnf); repeat (first | ((with_reducible refine xT ?_ ?_); (· exact rfl); (with_reducible conv => whnf)) | ((with_reducible refine xF ?_ ?_); (· exact rfl); (with_reducible conv => whnf)) | ((with_reducible apply xE); (· exact rfl); (with_reducible conv => whnf)) | ((with_reducible refine And.intro ?_ ?_); (· (first | exact rfl | exact trivial | exact sh_int _ | exact sh_bool _ | ((try dsimp only [Int.reduceToNat]); first | omega | (refine mulw ?_ ?_ ?_ ?_ <;> omega) | (refine divw ?_ ?_ <;> omega) | (refine poww ?_ ?_ ?_ ?_ <;> omega) | (refine divp ?_ ?_ ?_ <;> omega) | (have := szl; simp only [List.length_append, List.length_cons, List.length_nil, List.length_map, List.length_range]; omega) | decide))); (with_reducible conv => whnf))))
    intro ns e; rfl
end T08
set_option Elab.async false
set_option linter.all false
set_option maxRecDepth 100000
set_option maxHeartbeats 4000000
namespace T08
open PySem PySem.Spec PyProof.Rows L2 DL
/-- the defs of the text -/
structure Hs (K : PySem.W.Frag) (mg : Str → Option Value) : Prop where
  h_is_integer : Has K mg "is_integer" s_is_integer
  h_is_from : Has K mg "is_from" s_is_from
  h_is_between : Has K mg "is_between" s_is_between
  h_is_index : Has K mg "is_index" s_is_index
  h_is_bound : Has K mg "is_bound" s_is_bound
  h_is_system_form : Has K mg "is_system_form" s_is_system_form
  h_has_moments : Has K mg "has_moments" s_has_moments
  h_keeps_bound : Has K mg "keeps_bound" s_keeps_bound
  h_is_world_of : Has K mg "is_world_of" s_is_world_of
  h_check_system : Has K mg "check_system" s_check_system
  h_check_wish : Has K mg "check_wish" s_check_wish
  h_is_world : Has K mg "is_world" s_is_world
  h_first_broken : Has K mg "first_broken" s_first_broken
  h__law_urn : Has K mg "_law_urn" s__law_urn
  h__law_pick : Has K mg "_law_pick" s__law_pick
  h__law_reach : Has K mg "_law_reach" s__law_reach
  h__law_frame : Has K mg "_law_frame" s__law_frame
  h__law_whole : Has K mg "_law_whole" s__law_whole
  h__law_moments : Has K mg "_law_moments" s__law_moments
  h__law_says : Has K mg "_law_says" s__law_says
  h__law_broken : Has K mg "_law_broken" s__law_broken
  h__law_near : Has K mg "_law_near" s__law_near
  h__law_odd : Has K mg "_law_odd" s__law_odd
  h__law_right : Has K mg "_law_right" s__law_right
  h_law : Has K mg "law" s_law
theorem ok_is_integer {w : World} {K : PySem.W.Frag} {mg : Str → Option Value} {base : Heap} {cl : Nat → Addr} (T : Tx K mg cl) (Hh : Hs K mg) : FnC PW w K mg base 1 "is_integer" P_is_integer s_is_integer (sp_is_integer cl) :=
  defC Hh.h_is_integer sc_is_integer (sp_is_integer cl) fun cdv f A outer s H E hr => ⟨_, dv_is_integer T hr, fun as ad hp hl => rd_is_integer cl as ad hp⟩
theorem ok_is_from {w : World} {K : PySem.W.Frag} {mg : Str → Option Value} {base : Heap} {cl : Nat → Addr} (T : Tx K mg cl) (Hh : Hs K mg) : FnC PW w K mg base 2 "is_from" P_is_from s_is_from (sp_is_from cl) :=
  defC Hh.h_is_from sc_is_from (sp_is_from cl) fun cdv f A outer s H E hr => ⟨_, dv_is_from T hr ((ok_is_integer T Hh).mono (by decide)), fun as ad hp hl => rd_is_from cl as ad hp⟩
theorem ok_is_between {w : World} {K : PySem.W.Frag} {mg : Str → Option Value} {base : Heap} {cl : Nat → Addr} (T : Tx K mg cl) (Hh : Hs K mg) : FnC PW w K mg base 2 "is_between" P_is_between s_is_between (sp_is_between cl) :=
  defC Hh.h_is_between sc_is_between (sp_is_between cl) fun cdv f A outer s H E hr => ⟨_, dv_is_between T hr ((ok_is_integer T Hh).mono (by decide)), fun as ad hp hl => rd_is_between cl as ad hp⟩
theorem ok_is_index {w : World} {K : PySem.W.Frag} {mg : Str → Option Value} {base : Heap} {cl : Nat → Addr} (T : Tx K mg cl) (Hh : Hs K mg) : FnC PW w K mg base 3 "is_index" P_is_index s_is_index (sp_is_index cl) :=
  defC Hh.h_is_index sc_is_index (sp_is_index cl) fun cdv f A outer s H E hr => ⟨_, dv_is_index T hr ((ok_is_between T Hh).mono (by decide)), fun as ad hp hl => rd_is_index cl as ad hp⟩
theorem ok_is_bound {w : World} {K : PySem.W.Frag} {mg : Str → Option Value} {base : Heap} {cl : Nat → Addr} (T : Tx K mg cl) (Hh : Hs K mg) : FnC PW w K mg base 4 "is_bound" P_is_bound s_is_bound (sp_is_bound cl) :=
  defC Hh.h_is_bound sc_is_bound (sp_is_bound cl) fun cdv f A outer s H E hr => ⟨_, dv_is_bound T hr ((ok_is_index T Hh).mono (by decide)) ((ok_is_integer T Hh).mono (by decide)), fun as ad hp hl => rd_is_bound cl as ad hp⟩
theorem ok_is_system_form {w : World} {K : PySem.W.Frag} {mg : Str → Option Value} {base : Heap} {cl : Nat → Addr} (T : Tx K mg cl) (Hh : Hs K mg) : FnC PW w K mg base 5 "is_system_form" P_is_system_form s_is_system_form (sp_is_system_form cl) :=
  defC Hh.h_is_system_form sc_is_system_form (sp_is_system_form cl) fun cdv f A outer s H E hr => ⟨_, dv_is_system_form T hr ((ok_is_bound T Hh).mono (by decide)) ((ok_is_from T Hh).mono (by decide)), fun as ad hp hl => rd_is_system_form cl as ad hp⟩
theorem ok_has_moments {w : World} {K : PySem.W.Frag} {mg : Str → Option Value} {base : Heap} {cl : Nat → Addr} (T : Tx K mg cl) (Hh : Hs K mg) : FnC PW w K mg base 2 "has_moments" P_has_moments s_has_moments (sp_has_moments cl) :=
  defC Hh.h_has_moments sc_has_moments (sp_has_moments cl) fun cdv f A outer s H E hr => ⟨_, dv_has_moments T hr ((ok_is_integer T Hh).mono (by decide)), fun as ad hp hl => rd_has_moments cl as ad hp⟩
theorem ok_keeps_bound {w : World} {K : PySem.W.Frag} {mg : Str → Option Value} {base : Heap} {cl : Nat → Addr} (T : Tx K mg cl) (Hh : Hs K mg) : FnC PW w K mg base 1 "keeps_bound" P_keeps_bound s_keeps_bound (sp_keeps_bound cl) :=
  defC Hh.h_keeps_bound sc_keeps_bound (sp_keeps_bound cl) fun cdv f A outer s H E hr => ⟨_, dv_keeps_bound T hr, fun as ad hp hl => rd_keeps_bound cl as ad hp⟩
theorem ok_is_world_of {w : World} {K : PySem.W.Frag} {mg : Str → Option Value} {base : Heap} {cl : Nat → Addr} (T : Tx K mg cl) (Hh : Hs K mg) : FnC PW w K mg base 3 "is_world_of" P_is_world_of s_is_world_of (sp_is_world_of cl) :=
  defC Hh.h_is_world_of sc_is_world_of (sp_is_world_of cl) fun cdv f A outer s H E hr => ⟨_, dv_is_world_of T hr ((ok_keeps_bound T Hh).mono (by decide)) ((ok_has_moments T Hh).mono (by decide)), fun as ad hp hl => rd_is_world_of cl as ad hp⟩
theorem ok_check_system {w : World} {K : PySem.W.Frag} {mg : Str → Option Value} {base : Heap} {cl : Nat → Addr} (T : Tx K mg cl) (Hh : Hs K mg) : FnC PW w K mg base 6 "check_system" P_check_system s_check_system (sp_check_system cl) :=
  defC Hh.h_check_system sc_check_system (sp_check_system cl) fun cdv f A outer s H E hr => ⟨_, dv_check_system T hr ((ok_is_system_form T Hh).mono (by decide)), fun as ad hp hl => rd_check_system cl as ad hp⟩
theorem ok_check_wish {w : World} {K : PySem.W.Frag} {mg : Str → Option Value} {base : Heap} {cl : Nat → Addr} (T : Tx K mg cl) (Hh : Hs K mg) : FnC PW w K mg base 3 "check_wish" P_check_wish s_check_wish (sp_check_wish cl) :=
  defC Hh.h_check_wish sc_check_wish (sp_check_wish cl) fun cdv f A outer s H E hr => ⟨_, dv_check_wish T hr ((ok_has_moments T Hh).mono (by decide)), fun as ad hp hl => rd_check_wish cl as ad hp⟩
theorem ok_is_world {w : World} {K : PySem.W.Frag} {mg : Str → Option Value} {base : Heap} {cl : Nat → Addr} (T : Tx K mg cl) (Hh : Hs K mg) : FnC PW w K mg base 7 "is_world" P_is_world s_is_world (sp_is_world cl) :=
  defC Hh.h_is_world sc_is_world (sp_is_world cl) fun cdv f A outer s H E hr => ⟨_, dv_is_world T hr ((ok_is_world_of T Hh).mono (by decide)) ((ok_check_system T Hh).mono (by decide)), fun as ad hp hl => rd_is_world cl as ad hp⟩
theorem ok_first_broken {w : World} {K : PySem.W.Frag} {mg : Str → Option Value} {base : Heap} {cl : Nat → Addr} (T : Tx K mg cl) (Hh : Hs K mg) : FnC PW w K mg base 7 "first_broken" P_first_broken s_first_broken (sp_first_broken cl) :=
  defC Hh.h_first_broken sc_first_broken (sp_first_broken cl) fun cdv f A outer s H E hr => ⟨_, dv_first_broken T hr ((ok_keeps_bound T Hh).mono (by decide)) ((ok_check_wish T Hh).mono (by decide)) ((ok_check_system T Hh).mono (by decide)), fun as ad hp hl => rd_first_broken cl as ad hp⟩
theorem ok__law_urn {w : World} {K : PySem.W.Frag} {mg : Str → Option Value} {base : Heap} {cl : Nat → Addr} (T : Tx K mg cl) (Hh : Hs K mg) : FnC PW w K mg base 1 "_law_urn" P__law_urn s__law_urn (sp__law_urn cl) :=
  defC Hh.h__law_urn sc__law_urn (sp__law_urn cl) fun cdv f A outer s H E hr => ⟨_, dv__law_urn T hr, fun as ad hp hl => rd__law_urn cl as ad hp⟩
theorem ok__law_pick {w : World} {K : PySem.W.Frag} {mg : Str → Option Value} {base : Heap} {cl : Nat → Addr} (T : Tx K mg cl) (Hh : Hs K mg) : FnC PW w K mg base 1 "_law_pick" P__law_pick s__law_pick (sp__law_pick cl) :=
  defC Hh.h__law_pick sc__law_pick (sp__law_pick cl) fun cdv f A outer s H E hr => ⟨_, dv__law_pick T hr, fun as ad hp hl => rd__law_pick cl as ad hp⟩
theorem ok__law_reach {w : World} {K : PySem.W.Frag} {mg : Str → Option Value} {base : Heap} {cl : Nat → Addr} (T : Tx K mg cl) (Hh : Hs K mg) : FnC PW w K mg base 2 "_law_reach" P__law_reach s__law_reach (sp__law_reach cl) :=
  defC Hh.h__law_reach sc__law_reach (sp__law_reach cl) fun cdv f A outer s H E hr => ⟨_, dv__law_reach T hr ((ok__law_pick T Hh).mono (by decide)), fun as ad hp hl => rd__law_reach cl as ad hp⟩
theorem ok__law_frame {w : World} {K : PySem.W.Frag} {mg : Str → Option Value} {base : Heap} {cl : Nat → Addr} (T : Tx K mg cl) (Hh : Hs K mg) : FnC PW w K mg base 3 "_law_frame" P__law_frame s__law_frame (sp__law_frame cl) :=
  defC Hh.h__law_frame sc__law_frame (sp__law_frame cl) fun cdv f A outer s H E hr => ⟨_, dv__law_frame T hr ((ok__law_pick T Hh).mono (by decide)) ((ok__law_reach T Hh).mono (by decide)), fun as ad hp hl => rd__law_frame cl as ad hp⟩
theorem ok__law_whole {w : World} {K : PySem.W.Frag} {mg : Str → Option Value} {base : Heap} {cl : Nat → Addr} (T : Tx K mg cl) (Hh : Hs K mg) : FnC PW w K mg base 1 "_law_whole" P__law_whole s__law_whole (sp__law_whole cl) :=
  defC Hh.h__law_whole sc__law_whole (sp__law_whole cl) fun cdv f A outer s H E hr => ⟨_, dv__law_whole T hr, fun as ad hp hl => rd__law_whole cl as ad hp⟩
theorem ok__law_moments {w : World} {K : PySem.W.Frag} {mg : Str → Option Value} {base : Heap} {cl : Nat → Addr} (T : Tx K mg cl) (Hh : Hs K mg) : FnC PW w K mg base 2 "_law_moments" P__law_moments s__law_moments (sp__law_moments cl) :=
  defC Hh.h__law_moments sc__law_moments (sp__law_moments cl) fun cdv f A outer s H E hr => ⟨_, dv__law_moments T hr ((ok__law_whole T Hh).mono (by decide)), fun as ad hp hl => rd__law_moments cl as ad hp⟩
theorem ok__law_says {w : World} {K : PySem.W.Frag} {mg : Str → Option Value} {base : Heap} {cl : Nat → Addr} (T : Tx K mg cl) (Hh : Hs K mg) : FnC PW w K mg base 1 "_law_says" P__law_says s__law_says (sp__law_says cl) :=
  defC Hh.h__law_says sc__law_says (sp__law_says cl) fun cdv f A outer s H E hr => ⟨_, dv__law_says T hr, fun as ad hp hl => rd__law_says cl as ad hp⟩
theorem ok__law_broken {w : World} {K : PySem.W.Frag} {mg : Str → Option Value} {base : Heap} {cl : Nat → Addr} (T : Tx K mg cl) (Hh : Hs K mg) : FnC PW w K mg base 1 "_law_broken" P__law_broken s__law_broken (sp__law_broken cl) :=
  defC Hh.h__law_broken sc__law_broken (sp__law_broken cl) fun cdv f A outer s H E hr => ⟨_, dv__law_broken T hr, fun as ad hp hl => rd__law_broken cl as ad hp⟩
theorem ok__law_near {w : World} {K : PySem.W.Frag} {mg : Str → Option Value} {base : Heap} {cl : Nat → Addr} (T : Tx K mg cl) (Hh : Hs K mg) : FnC PW w K mg base 3 "_law_near" P__law_near s__law_near (sp__law_near cl) :=
  defC Hh.h__law_near sc__law_near (sp__law_near cl) fun cdv f A outer s H E hr => ⟨_, dv__law_near T hr ((ok__law_pick T Hh).mono (by decide)) ((ok__law_reach T Hh).mono (by decide)), fun as ad hp hl => rd__law_near cl as ad hp⟩
theorem ok__law_odd {w : World} {K : PySem.W.Frag} {mg : Str → Option Value} {base : Heap} {cl : Nat → Addr} (T : Tx K mg cl) (Hh : Hs K mg) : FnC PW w K mg base 2 "_law_odd" P__law_odd s__law_odd (sp__law_odd cl) :=
  defC Hh.h__law_odd sc__law_odd (sp__law_odd cl) fun cdv f A outer s H E hr => ⟨_, dv__law_odd T hr ((ok__law_pick T Hh).mono (by decide)), fun as ad hp hl => rd__law_odd cl as ad hp⟩
theorem ok__law_right {w : World} {K : PySem.W.Frag} {mg : Str → Option Value} {base : Heap} {cl : Nat → Addr} (T : Tx K mg cl) (Hh : Hs K mg) : FnC PW w K mg base 8 "_law_right" P__law_right s__law_right (sp__law_right cl) :=
  defC Hh.h__law_right sc__law_right (sp__law_right cl) fun cdv f A outer s H E hr => ⟨_, dv__law_right T hr ((ok_first_broken T Hh).mono (by decide)) ((ok_is_world T Hh).mono (by decide)) ((ok__law_pick T Hh).mono (by decide)) ((ok__law_says T Hh).mono (by decide)) ((ok__law_whole T Hh).mono (by decide)) ((ok__law_broken T Hh).mono (by decide)) ((ok__law_near T Hh).mono (by decide)) ((ok__law_moments T Hh).mono (by decide)) ((ok__law_odd T Hh).mono (by decide)) ((ok__law_frame T Hh).mono (by decide)), fun as ad hp hl => rd__law_right cl as ad hp⟩
theorem ok_law {w : World} {K : PySem.W.Frag} {mg : Str → Option Value} {base : Heap} {cl : Nat → Addr} (T : Tx K mg cl) (Hh : Hs K mg) : FnC PW w K mg base 9 "law" P_law s_law (sp_law cl) :=
  defC Hh.h_law sc_law (sp_law cl) fun cdv f A outer s H E hr => ⟨_, dv_law T hr ((ok__law_right T Hh).mono (by decide)) ((ok__law_urn T Hh).mono (by decide)), fun as ad hp hl => rd_law cl as ad hp⟩

theorem all_mk {w : World} {K : PySem.W.Frag} {h : Heap} {mg : Str → Option Value} (X : K.In h) (G : h.Ns mainGlobals mg) {C1 : Addr} {C2 : Addr} {C3 : Addr}
    {f_is_integer : Addr} {oc_is_integer : Value} {od_is_integer an_is_integer : Option Addr} {sl_is_integer : Array (Option Value)} {kV_is_integer dc_is_integer pm_is_integer cd_is_integer ct_is_integer : Value} {f_is_from : Addr} {oc_is_from : Value} {od_is_from an_is_from : Option Addr} {sl_is_from : Array (Option Value)} {kV_is_from dc_is_from pm_is_from cd_is_from ct_is_from : Value} {f_is_between : Addr} {oc_is_between : Value} {od_is_between an_is_between : Option Addr} {sl_is_between : Array (Option Value)} {kV_is_between dc_is_between pm_is_between cd_is_between ct_is_between : Value} {f_is_index : Addr} {oc_is_index : Value} {od_is_index an_is_index : Option Addr} {sl_is_index : Array (Option Value)} {kV_is_index dc_is_index pm_is_index cd_is_index ct_is_index : Value} {f_is_bound : Addr} {oc_is_bound : Value} {od_is_bound an_is_bound : Option Addr} {sl_is_bound : Array (Option Value)} {kV_is_bound dc_is_bound pm_is_bound cd_is_bound ct_is_bound : Value} {f_is_system_form : Addr} {oc_is_system_form : Value} {od_is_system_form an_is_system_form : Option Addr} {sl_is_system_form : Array (Option Value)} {kV_is_system_form dc_is_system_form pm_is_system_form cd_is_system_form ct_is_system_form : Value} {f_has_moments : Addr} {oc_has_moments : Value} {od_has_moments an_has_moments : Option Addr} {sl_has_moments : Array (Option Value)} {kV_has_moments dc_has_moments pm_has_moments cd_has_moments ct_has_moments : Value} {f_keeps_bound : Addr} {oc_keeps_bound : Value} {od_keeps_bound an_keeps_bound : Option Addr} {sl_keeps_bound : Array (Option Value)} {kV_keeps_bound dc_keeps_bound pm_keeps_bound cd_keeps_bound ct_keeps_bound : Value} {f_is_world_of : Addr} {oc_is_world_of : Value} {od_is_world_of an_is_world_of : Option Addr} {sl_is_world_of : Array (Option Value)} {kV_is_world_of dc_is_world_of pm_is_world_of cd_is_world_of ct_is_world_of : Value} {f_check_system : Addr} {oc_check_system : Value} {od_check_system an_check_system : Option Addr} {sl_check_system : Array (Option Value)} {kV_check_system dc_check_system pm_check_system cd_check_system ct_check_system : Value} {f_check_wish : Addr} {oc_check_wish : Value} {od_check_wish an_check_wish : Option Addr} {sl_check_wish : Array (Option Value)} {kV_check_wish dc_check_wish pm_check_wish cd_check_wish ct_check_wish : Value} {f_is_world : Addr} {oc_is_world : Value} {od_is_world an_is_world : Option Addr} {sl_is_world : Array (Option Value)} {kV_is_world dc_is_world pm_is_world cd_is_world ct_is_world : Value} {f_first_broken : Addr} {oc_first_broken : Value} {od_first_broken an_first_broken : Option Addr} {sl_first_broken : Array (Option Value)} {kV_first_broken dc_first_broken pm_first_broken cd_first_broken ct_first_broken : Value} {f__law_urn : Addr} {oc__law_urn : Value} {od__law_urn an__law_urn : Option Addr} {sl__law_urn : Array (Option Value)} {kV__law_urn dc__law_urn pm__law_urn cd__law_urn ct__law_urn : Value} {f__law_pick : Addr} {oc__law_pick : Value} {od__law_pick an__law_pick : Option Addr} {sl__law_pick : Array (Option Value)} {kV__law_pick dc__law_pick pm__law_pick cd__law_pick ct__law_pick : Value} {f__law_reach : Addr} {oc__law_reach : Value} {od__law_reach an__law_reach : Option Addr} {sl__law_reach : Array (Option Value)} {kV__law_reach dc__law_reach pm__law_reach cd__law_reach ct__law_reach : Value} {f__law_frame : Addr} {oc__law_frame : Value} {od__law_frame an__law_frame : Option Addr} {sl__law_frame : Array (Option Value)} {kV__law_frame dc__law_frame pm__law_frame cd__law_frame ct__law_frame : Value} {f__law_whole : Addr} {oc__law_whole : Value} {od__law_whole an__law_whole : Option Addr} {sl__law_whole : Array (Option Value)} {kV__law_whole dc__law_whole pm__law_whole cd__law_whole ct__law_whole : Value} {f__law_moments : Addr} {oc__law_moments : Value} {od__law_moments an__law_moments : Option Addr} {sl__law_moments : Array (Option Value)} {kV__law_moments dc__law_moments pm__law_moments cd__law_moments ct__law_moments : Value} {f__law_says : Addr} {oc__law_says : Value} {od__law_says an__law_says : Option Addr} {sl__law_says : Array (Option Value)} {kV__law_says dc__law_says pm__law_says cd__law_says ct__law_says : Value} {f__law_broken : Addr} {oc__law_broken : Value} {od__law_broken an__law_broken : Option Addr} {sl__law_broken : Array (Option Value)} {kV__law_broken dc__law_broken pm__law_broken cd__law_broken ct__law_broken : Value} {f__law_near : Addr} {oc__law_near : Value} {od__law_near an__law_near : Option Addr} {sl__law_near : Array (Option Value)} {kV__law_near dc__law_near pm__law_near cd__law_near ct__law_near : Value} {f__law_odd : Addr} {oc__law_odd : Value} {od__law_odd an__law_odd : Option Addr} {sl__law_odd : Array (Option Value)} {kV__law_odd dc__law_odd pm__law_odd cd__law_odd ct__law_odd : Value} {f__law_right : Addr} {oc__law_right : Value} {od__law_right an__law_right : Option Addr} {sl__law_right : Array (Option Value)} {kV__law_right dc__law_right pm__law_right cd__law_right ct__law_right : Value} {f_law : Addr} {oc_law : Value} {od_law an_law : Option Addr} {sl_law : Array (Option Value)} {kV_law dc_law pm_law cd_law ct_law : Value}
    (a1 : PySem.W.nsIn K mainGlobals "InvalidSystem" = some (some (.ref C1)))
    (x1 : PySem.W.excIn K C1 [.type "ValueError", .type "Exception", .type "BaseException", .type "object"] "ValueError.__new__" = true)
    (k1 : PySem.W.keepIn K (.ref C1) = true)
    (b1 : PySem.W.subIn K (.ref C1) (.type "BaseException") = some true)
    (t1 : PySem.W.typeIn K (.ref C1) = some (.type "type"))
    (a2 : PySem.W.nsIn K mainGlobals "InvalidWorld" = some (some (.ref C2)))
    (x2 : PySem.W.excIn K C2 [.type "ValueError", .type "Exception", .type "BaseException", .type "object"] "ValueError.__new__" = true)
    (k2 : PySem.W.keepIn K (.ref C2) = true)
    (b2 : PySem.W.subIn K (.ref C2) (.type "BaseException") = some true)
    (t2 : PySem.W.typeIn K (.ref C2) = some (.type "type"))
    (a3 : PySem.W.nsIn K mainGlobals "EndlessWorlds" = some (some (.ref C3)))
    (x3 : PySem.W.excIn K C3 [.type "ValueError", .type "Exception", .type "BaseException", .type "object"] "ValueError.__new__" = true)
    (k3 : PySem.W.keepIn K (.ref C3) = true)
    (b3 : PySem.W.subIn K (.ref C3) (.type "BaseException") = some true)
    (t3 : PySem.W.typeIn K (.ref C3) = some (.type "type"))
    (z_abs : PySem.W.nsIn K mainGlobals "abs" = some none)
    (z_all : PySem.W.nsIn K mainGlobals "all" = some none)
    (z_bool : PySem.W.nsIn K mainGlobals "bool" = some none)
    (z_enumerate : PySem.W.nsIn K mainGlobals "enumerate" = some none)
    (z_int : PySem.W.nsIn K mainGlobals "int" = some none)
    (z_isinstance : PySem.W.nsIn K mainGlobals "isinstance" = some none)
    (z_len : PySem.W.nsIn K mainGlobals "len" = some none)
    (z_list : PySem.W.nsIn K mainGlobals "list" = some none)
    (z_max : PySem.W.nsIn K mainGlobals "max" = some none)
    (z_min : PySem.W.nsIn K mainGlobals "min" = some none)
    (z_range : PySem.W.nsIn K mainGlobals "range" = some none)
    (z_tuple : PySem.W.nsIn K mainGlobals "tuple" = some none)
    (hg3 : PySem.W.findIn K (.ref C3) "__getattribute__" = some (some (.builtin "BaseException.__getattribute__")))
    (hk3 : PySem.W.findIn K (.ref C3) "__getattr__" = some none)
    (hd3 : PySem.W.hasDictIn K C3 = true)
    (ha3 : PySem.W.findIn K (.ref C3) "__class__" = some (some (.builtin "object.__class__")))
    (hm3 : PySem.W.mroIn K C3 (.type "object") = some true)
    (hn : PySem.W.specialIn K (.builtin "object.__class__") "__get__" = some (some (.builtin "getset_descriptor.__get__")))
    (ht : PySem.W.takesIn K (.builtin "object.__class__") = some true)
    (n_bool_3 : PySem.W.kitOne K (.ref C3) (.type "bool") = some false)
    (n_int_3 : PySem.W.kitOne K (.ref C3) (.type "int") = some false)
    (n_tuple_3 : PySem.W.kitOne K (.ref C3) (.type "tuple") = some false)
    (ne_2_1 : C2 ≠ C1)
    (ne_3_1 : C3 ≠ C1)
    (ne_3_2 : C3 ≠ C2)
    (fa_is_integer : PySem.W.nsIn K mainGlobals "is_integer" = some (some (.ref f_is_integer)))
    (fl_is_integer : K.lookup f_is_integer = some ⟨oc_is_integer, od_is_integer, .func (PySem.W.fnOf "is_integer" "is_integer" (defArgs s_is_integer) (defBody s_is_integer) (defScope s_is_integer) .none kV_is_integer dc_is_integer pm_is_integer an_is_integer cd_is_integer ct_is_integer), sl_is_integer⟩)
    (fc_is_integer : PySem.W.codeIn K cd_is_integer "is_integer" = true)
    (fk_is_integer : PySem.W.keepIn K (.ref f_is_integer) = true)
    (fa_is_from : PySem.W.nsIn K mainGlobals "is_from" = some (some (.ref f_is_from)))
    (fl_is_from : K.lookup f_is_from = some ⟨oc_is_from, od_is_from, .func (PySem.W.fnOf "is_from" "is_from" (defArgs s_is_from) (defBody s_is_from) (defScope s_is_from) .none kV_is_from dc_is_from pm_is_from an_is_from cd_is_from ct_is_from), sl_is_from⟩)
    (fc_is_from : PySem.W.codeIn K cd_is_from "is_from" = true)
    (fk_is_from : PySem.W.keepIn K (.ref f_is_from) = true)
    (fa_is_between : PySem.W.nsIn K mainGlobals "is_between" = some (some (.ref f_is_between)))
    (fl_is_between : K.lookup f_is_between = some ⟨oc_is_between, od_is_between, .func (PySem.W.fnOf "is_between" "is_between" (defArgs s_is_between) (defBody s_is_between) (defScope s_is_between) .none kV_is_between dc_is_between pm_is_between an_is_between cd_is_between ct_is_between), sl_is_between⟩)
    (fc_is_between : PySem.W.codeIn K cd_is_between "is_between" = true)
    (fk_is_between : PySem.W.keepIn K (.ref f_is_between) = true)
    (fa_is_index : PySem.W.nsIn K mainGlobals "is_index" = some (some (.ref f_is_index)))
    (fl_is_index : K.lookup f_is_index = some ⟨oc_is_index, od_is_index, .func (PySem.W.fnOf "is_index" "is_index" (defArgs s_is_index) (defBody s_is_index) (defScope s_is_index) .none kV_is_index dc_is_index pm_is_index an_is_index cd_is_index ct_is_index), sl_is_index⟩)
    (fc_is_index : PySem.W.codeIn K cd_is_index "is_index" = true)
    (fk_is_index : PySem.W.keepIn K (.ref f_is_index) = true)
    (fa_is_bound : PySem.W.nsIn K mainGlobals "is_bound" = some (some (.ref f_is_bound)))
    (fl_is_bound : K.lookup f_is_bound = some ⟨oc_is_bound, od_is_bound, .func (PySem.W.fnOf "is_bound" "is_bound" (defArgs s_is_bound) (defBody s_is_bound) (defScope s_is_bound) .none kV_is_bound dc_is_bound pm_is_bound an_is_bound cd_is_bound ct_is_bound), sl_is_bound⟩)
    (fc_is_bound : PySem.W.codeIn K cd_is_bound "is_bound" = true)
    (fk_is_bound : PySem.W.keepIn K (.ref f_is_bound) = true)
    (fa_is_system_form : PySem.W.nsIn K mainGlobals "is_system_form" = some (some (.ref f_is_system_form)))
    (fl_is_system_form : K.lookup f_is_system_form = some ⟨oc_is_system_form, od_is_system_form, .func (PySem.W.fnOf "is_system_form" "is_system_form" (defArgs s_is_system_form) (defBody s_is_system_form) (defScope s_is_system_form) .none kV_is_system_form dc_is_system_form pm_is_system_form an_is_system_form cd_is_system_form ct_is_system_form), sl_is_system_form⟩)
    (fc_is_system_form : PySem.W.codeIn K cd_is_system_form "is_system_form" = true)
    (fk_is_system_form : PySem.W.keepIn K (.ref f_is_system_form) = true)
    (fa_has_moments : PySem.W.nsIn K mainGlobals "has_moments" = some (some (.ref f_has_moments)))
    (fl_has_moments : K.lookup f_has_moments = some ⟨oc_has_moments, od_has_moments, .func (PySem.W.fnOf "has_moments" "has_moments" (defArgs s_has_moments) (defBody s_has_moments) (defScope s_has_moments) .none kV_has_moments dc_has_moments pm_has_moments an_has_moments cd_has_moments ct_has_moments), sl_has_moments⟩)
    (fc_has_moments : PySem.W.codeIn K cd_has_moments "has_moments" = true)
    (fk_has_moments : PySem.W.keepIn K (.ref f_has_moments) = true)
    (fa_keeps_bound : PySem.W.nsIn K mainGlobals "keeps_bound" = some (some (.ref f_keeps_bound)))
    (fl_keeps_bound : K.lookup f_keeps_bound = some ⟨oc_keeps_bound, od_keeps_bound, .func (PySem.W.fnOf "keeps_bound" "keeps_bound" (defArgs s_keeps_bound) (defBody s_keeps_bound) (defScope s_keeps_bound) .none kV_keeps_bound dc_keeps_bound pm_keeps_bound an_keeps_bound cd_keeps_bound ct_keeps_bound), sl_keeps_bound⟩)
    (fc_keeps_bound : PySem.W.codeIn K cd_keeps_bound "keeps_bound" = true)
    (fk_keeps_bound : PySem.W.keepIn K (.ref f_keeps_bound) = true)
    (fa_is_world_of : PySem.W.nsIn K mainGlobals "is_world_of" = some (some (.ref f_is_world_of)))
    (fl_is_world_of : K.lookup f_is_world_of = some ⟨oc_is_world_of, od_is_world_of, .func (PySem.W.fnOf "is_world_of" "is_world_of" (defArgs s_is_world_of) (defBody s_is_world_of) (defScope s_is_world_of) .none kV_is_world_of dc_is_world_of pm_is_world_of an_is_world_of cd_is_world_of ct_is_world_of), sl_is_world_of⟩)
    (fc_is_world_of : PySem.W.codeIn K cd_is_world_of "is_world_of" = true)
    (fk_is_world_of : PySem.W.keepIn K (.ref f_is_world_of) = true)
    (fa_check_system : PySem.W.nsIn K mainGlobals "check_system" = some (some (.ref f_check_system)))
    (fl_check_system : K.lookup f_check_system = some ⟨oc_check_system, od_check_system, .func (PySem.W.fnOf "check_system" "check_system" (defArgs s_check_system) (defBody s_check_system) (defScope s_check_system) .none kV_check_system dc_check_system pm_check_system an_check_system cd_check_system ct_check_system), sl_check_system⟩)
    (fc_check_system : PySem.W.codeIn K cd_check_system "check_system" = true)
    (fk_check_system : PySem.W.keepIn K (.ref f_check_system) = true)
    (fa_check_wish : PySem.W.nsIn K mainGlobals "check_wish" = some (some (.ref f_check_wish)))
    (fl_check_wish : K.lookup f_check_wish = some ⟨oc_check_wish, od_check_wish, .func (PySem.W.fnOf "check_wish" "check_wish" (defArgs s_check_wish) (defBody s_check_wish) (defScope s_check_wish) .none kV_check_wish dc_check_wish pm_check_wish an_check_wish cd_check_wish ct_check_wish), sl_check_wish⟩)
    (fc_check_wish : PySem.W.codeIn K cd_check_wish "check_wish" = true)
    (fk_check_wish : PySem.W.keepIn K (.ref f_check_wish) = true)
    (fa_is_world : PySem.W.nsIn K mainGlobals "is_world" = some (some (.ref f_is_world)))
    (fl_is_world : K.lookup f_is_world = some ⟨oc_is_world, od_is_world, .func (PySem.W.fnOf "is_world" "is_world" (defArgs s_is_world) (defBody s_is_world) (defScope s_is_world) .none kV_is_world dc_is_world pm_is_world an_is_world cd_is_world ct_is_world), sl_is_world⟩)
    (fc_is_world : PySem.W.codeIn K cd_is_world "is_world" = true)
    (fk_is_world : PySem.W.keepIn K (.ref f_is_world) = true)
    (fa_first_broken : PySem.W.nsIn K mainGlobals "first_broken" = some (some (.ref f_first_broken)))
    (fl_first_broken : K.lookup f_first_broken = some ⟨oc_first_broken, od_first_broken, .func (PySem.W.fnOf "first_broken" "first_broken" (defArgs s_first_broken) (defBody s_first_broken) (defScope s_first_broken) .none kV_first_broken dc_first_broken pm_first_broken an_first_broken cd_first_broken ct_first_broken), sl_first_broken⟩)
    (fc_first_broken : PySem.W.codeIn K cd_first_broken "first_broken" = true)
    (fk_first_broken : PySem.W.keepIn K (.ref f_first_broken) = true)
    (fa__law_urn : PySem.W.nsIn K mainGlobals "_law_urn" = some (some (.ref f__law_urn)))
    (fl__law_urn : K.lookup f__law_urn = some ⟨oc__law_urn, od__law_urn, .func (PySem.W.fnOf "_law_urn" "_law_urn" (defArgs s__law_urn) (defBody s__law_urn) (defScope s__law_urn) .none kV__law_urn dc__law_urn pm__law_urn an__law_urn cd__law_urn ct__law_urn), sl__law_urn⟩)
    (fc__law_urn : PySem.W.codeIn K cd__law_urn "_law_urn" = true)
    (fk__law_urn : PySem.W.keepIn K (.ref f__law_urn) = true)
    (fa__law_pick : PySem.W.nsIn K mainGlobals "_law_pick" = some (some (.ref f__law_pick)))
    (fl__law_pick : K.lookup f__law_pick = some ⟨oc__law_pick, od__law_pick, .func (PySem.W.fnOf "_law_pick" "_law_pick" (defArgs s__law_pick) (defBody s__law_pick) (defScope s__law_pick) .none kV__law_pick dc__law_pick pm__law_pick an__law_pick cd__law_pick ct__law_pick), sl__law_pick⟩)
    (fc__law_pick : PySem.W.codeIn K cd__law_pick "_law_pick" = true)
    (fk__law_pick : PySem.W.keepIn K (.ref f__law_pick) = true)
    (fa__law_reach : PySem.W.nsIn K mainGlobals "_law_reach" = some (some (.ref f__law_reach)))
    (fl__law_reach : K.lookup f__law_reach = some ⟨oc__law_reach, od__law_reach, .func (PySem.W.fnOf "_law_reach" "_law_reach" (defArgs s__law_reach) (defBody s__law_reach) (defScope s__law_reach) .none kV__law_reach dc__law_reach pm__law_reach an__law_reach cd__law_reach ct__law_reach), sl__law_reach⟩)
    (fc__law_reach : PySem.W.codeIn K cd__law_reach "_law_reach" = true)
    (fk__law_reach : PySem.W.keepIn K (.ref f__law_reach) = true)
    (fa__law_frame : PySem.W.nsIn K mainGlobals "_law_frame" = some (some (.ref f__law_frame)))
    (fl__law_frame : K.lookup f__law_frame = some ⟨oc__law_frame, od__law_frame, .func (PySem.W.fnOf "_law_frame" "_law_frame" (defArgs s__law_frame) (defBody s__law_frame) (defScope s__law_frame) .none kV__law_frame dc__law_frame pm__law_frame an__law_frame cd__law_frame ct__law_frame), sl__law_frame⟩)
    (fc__law_frame : PySem.W.codeIn K cd__law_frame "_law_frame" = true)
    (fk__law_frame : PySem.W.keepIn K (.ref f__law_frame) = true)
    (fa__law_whole : PySem.W.nsIn K mainGlobals "_law_whole" = some (some (.ref f__law_whole)))
    (fl__law_whole : K.lookup f__law_whole = some ⟨oc__law_whole, od__law_whole, .func (PySem.W.fnOf "_law_whole" "_law_whole" (defArgs s__law_whole) (defBody s__law_whole) (defScope s__law_whole) .none kV__law_whole dc__law_whole pm__law_whole an__law_whole cd__law_whole ct__law_whole), sl__law_whole⟩)
    (fc__law_whole : PySem.W.codeIn K cd__law_whole "_law_whole" = true)
    (fk__law_whole : PySem.W.keepIn K (.ref f__law_whole) = true)
    (fa__law_moments : PySem.W.nsIn K mainGlobals "_law_moments" = some (some (.ref f__law_moments)))
    (fl__law_moments : K.lookup f__law_moments = some ⟨oc__law_moments, od__law_moments, .func (PySem.W.fnOf "_law_moments" "_law_moments" (defArgs s__law_moments) (defBody s__law_moments) (defScope s__law_moments) .none kV__law_moments dc__law_moments pm__law_moments an__law_moments cd__law_moments ct__law_moments), sl__law_moments⟩)
    (fc__law_moments : PySem.W.codeIn K cd__law_moments "_law_moments" = true)
    (fk__law_moments : PySem.W.keepIn K (.ref f__law_moments) = true)
    (fa__law_says : PySem.W.nsIn K mainGlobals "_law_says" = some (some (.ref f__law_says)))
    (fl__law_says : K.lookup f__law_says = some ⟨oc__law_says, od__law_says, .func (PySem.W.fnOf "_law_says" "_law_says" (defArgs s__law_says) (defBody s__law_says) (defScope s__law_says) .none kV__law_says dc__law_says pm__law_says an__law_says cd__law_says ct__law_says), sl__law_says⟩)
    (fc__law_says : PySem.W.codeIn K cd__law_says "_law_says" = true)
    (fk__law_says : PySem.W.keepIn K (.ref f__law_says) = true)
    (fa__law_broken : PySem.W.nsIn K mainGlobals "_law_broken" = some (some (.ref f__law_broken)))
    (fl__law_broken : K.lookup f__law_broken = some ⟨oc__law_broken, od__law_broken, .func (PySem.W.fnOf "_law_broken" "_law_broken" (defArgs s__law_broken) (defBody s__law_broken) (defScope s__law_broken) .none kV__law_broken dc__law_broken pm__law_broken an__law_broken cd__law_broken ct__law_broken), sl__law_broken⟩)
    (fc__law_broken : PySem.W.codeIn K cd__law_broken "_law_broken" = true)
    (fk__law_broken : PySem.W.keepIn K (.ref f__law_broken) = true)
    (fa__law_near : PySem.W.nsIn K mainGlobals "_law_near" = some (some (.ref f__law_near)))
    (fl__law_near : K.lookup f__law_near = some ⟨oc__law_near, od__law_near, .func (PySem.W.fnOf "_law_near" "_law_near" (defArgs s__law_near) (defBody s__law_near) (defScope s__law_near) .none kV__law_near dc__law_near pm__law_near an__law_near cd__law_near ct__law_near), sl__law_near⟩)
    (fc__law_near : PySem.W.codeIn K cd__law_near "_law_near" = true)
    (fk__law_near : PySem.W.keepIn K (.ref f__law_near) = true)
    (fa__law_odd : PySem.W.nsIn K mainGlobals "_law_odd" = some (some (.ref f__law_odd)))
    (fl__law_odd : K.lookup f__law_odd = some ⟨oc__law_odd, od__law_odd, .func (PySem.W.fnOf "_law_odd" "_law_odd" (defArgs s__law_odd) (defBody s__law_odd) (defScope s__law_odd) .none kV__law_odd dc__law_odd pm__law_odd an__law_odd cd__law_odd ct__law_odd), sl__law_odd⟩)
    (fc__law_odd : PySem.W.codeIn K cd__law_odd "_law_odd" = true)
    (fk__law_odd : PySem.W.keepIn K (.ref f__law_odd) = true)
    (fa__law_right : PySem.W.nsIn K mainGlobals "_law_right" = some (some (.ref f__law_right)))
    (fl__law_right : K.lookup f__law_right = some ⟨oc__law_right, od__law_right, .func (PySem.W.fnOf "_law_right" "_law_right" (defArgs s__law_right) (defBody s__law_right) (defScope s__law_right) .none kV__law_right dc__law_right pm__law_right an__law_right cd__law_right ct__law_right), sl__law_right⟩)
    (fc__law_right : PySem.W.codeIn K cd__law_right "_law_right" = true)
    (fk__law_right : PySem.W.keepIn K (.ref f__law_right) = true)
    (fa_law : PySem.W.nsIn K mainGlobals "law" = some (some (.ref f_law)))
    (fl_law : K.lookup f_law = some ⟨oc_law, od_law, .func (PySem.W.fnOf "law" "law" (defArgs s_law) (defBody s_law) (defScope s_law) .none kV_law dc_law pm_law an_law cd_law ct_law), sl_law⟩)
    (fc_law : PySem.W.codeIn K cd_law "law" = true)
    (fk_law : PySem.W.keepIn K (.ref f_law) = true) :
    ∀ base : Heap, FnC PW w K mg base 9 "law" P_law s_law (sp_law (fun n => if n = 1 then C1 else if n = 2 then C2 else C3)) := by
  intro base
  have T : Tx K mg (fun n => if n = 1 then C1 else if n = 2 then C2 else C3) := {
    b_abs := PySem.W.mg_none_of X G z_abs
    b_all := PySem.W.mg_none_of X G z_all
    b_bool := PySem.W.mg_none_of X G z_bool
    b_enumerate := PySem.W.mg_none_of X G z_enumerate
    b_int := PySem.W.mg_none_of X G z_int
    b_isinstance := PySem.W.mg_none_of X G z_isinstance
    b_len := PySem.W.mg_none_of X G z_len
    b_list := PySem.W.mg_none_of X G z_list
    b_max := PySem.W.mg_none_of X G z_max
    b_min := PySem.W.mg_none_of X G z_min
    b_range := PySem.W.mg_none_of X G z_range
    b_tuple := PySem.W.mg_none_of X G z_tuple
    x_InvalidSystem := ⟨PySem.W.mg_of X G a1, x1, k1, b1, t1⟩
    x_InvalidWorld := ⟨PySem.W.mg_of X G a2, x2, k2, b2, t2⟩
    x_EndlessWorlds := ⟨PySem.W.mg_of X G a3, x3, k3, b3, t3⟩
    xn_bool := by
      intro C h
      simp only [List.mem_cons, List.mem_nil_iff, or_false] at h
      rcases h with rfl
      · exact ⟨⟨hg3, hk3, b3, hd3, ha3, hn, ht, hm3⟩, n_bool_3⟩
    xn_int := by
      intro C h
      simp only [List.mem_cons, List.mem_nil_iff, or_false] at h
      rcases h with rfl
      · exact ⟨⟨hg3, hk3, b3, hd3, ha3, hn, ht, hm3⟩, n_int_3⟩
    xn_tuple := by
      intro C h
      simp only [List.mem_cons, List.mem_nil_iff, or_false] at h
      rcases h with rfl
      · exact ⟨⟨hg3, hk3, b3, hd3, ha3, hn, ht, hm3⟩, n_tuple_3⟩
    ne_2_1 := ne_2_1
    ne_3_1 := ne_3_1
    ne_3_2 := ne_3_2 }
  have Hh : Hs K mg := ⟨has_mk X G fa_is_integer fl_is_integer fc_is_integer fk_is_integer, has_mk X G fa_is_from fl_is_from fc_is_from fk_is_from, has_mk X G fa_is_between fl_is_between fc_is_between fk_is_between, has_mk X G fa_is_index fl_is_index fc_is_index fk_is_index, has_mk X G fa_is_bound fl_is_bound fc_is_bound fk_is_bound, has_mk X G fa_is_system_form fl_is_system_form fc_is_system_form fk_is_system_form, has_mk X G fa_has_moments fl_has_moments fc_has_moments fk_has_moments, has_mk X G fa_keeps_bound fl_keeps_bound fc_keeps_bound fk_keeps_bound, has_mk X G fa_is_world_of fl_is_world_of fc_is_world_of fk_is_world_of, has_mk X G fa_check_system fl_check_system fc_check_system fk_check_system, has_mk X G fa_check_wish fl_check_wish fc_check_wish fk_check_wish, has_mk X G fa_is_world fl_is_world fc_is_world fk_is_world, has_mk X G fa_first_broken fl_first_broken fc_first_broken fk_first_broken, has_mk X G fa__law_urn fl__law_urn fc__law_urn fk__law_urn, has_mk X G fa__law_pick fl__law_pick fc__law_pick fk__law_pick, has_mk X G fa__law_reach fl__law_reach fc__law_reach fk__law_reach, has_mk X G fa__law_frame fl__law_frame fc__law_frame fk__law_frame, has_mk X G fa__law_whole fl__law_whole fc__law_whole fk__law_whole, has_mk X G fa__law_moments fl__law_moments fc__law_moments fk__law_moments, has_mk X G fa__law_says fl__law_says fc__law_says fk__law_says, has_mk X G fa__law_broken fl__law_broken fc__law_broken fk__law_broken, has_mk X G fa__law_near fl__law_near fc__law_near fk__law_near, has_mk X G fa__law_odd fl__law_odd fc__law_odd fk__law_odd, has_mk X G fa__law_right fl__law_right fc__law_right fk__law_right, has_mk X G fa_law fl_law fc_law fk_law⟩
  exact ok_law T Hh

theorem law_pre (ns : List Int) (h : ns.length ≤ 63) (_ : ∀ z ∈ ns, Builtin.Int.intBits z ≤ 1048576) : (sp_law (fun _ => 0)).pre [.sc ns] ∧ (∀ r as', (sp_law (fun _ => 0)).post [.sc ns] r as' → r = .fz (.bool true)) ∧ ∀ C as', ¬ (sp_law (fun _ => 0)).exc [.sc ns] C as' :=
  ⟨⟨ns, rfl, h⟩, fun r as' q => q ns rfl, fun _ _ q => q⟩
end T08
open PySem PySem.W PyProof.Rows
theorem PySem.Challenge.cw_keptwhatever_k08_worlds_judged_holds : PySem.Challenge.rw_keptwhatever_k08_worlds_judged.Holds := by
  w_on; o_law; k_head; (case hw => w_witness2)
  k_fill
  refine DL.law_end (l := PySem.Challenge.rw_keptwhatever_k08_worlds_judged) (k := 9) (x := "script") (st := T08.s_law) (sp := T08.sp_law (fun _ => 0)) rfl rfl ⟨rfl, by decide, by decide⟩ (fun w h Y => PySem.W.kIn_of Y) T08.bp_law ?F ?P
  case F =>
    intro w mg h KX G base _ _
    refine' T08.all_mk KX G ?a1 ?x1 ?k1 ?b1 ?t1 ?a2 ?x2 ?k2 ?b2 ?t2 ?a3 ?x3 ?k3 ?b3 ?t3 ?z_abs ?z_all ?z_bool ?z_enumerate ?z_int ?z_isinstance ?z_len ?z_list ?z_max ?z_min ?z_range ?z_tuple ?hg3 ?hk3 ?hd3 ?ha3 ?hm3 ?hn ?ht ?n_bool_3 ?n_int_3 ?n_tuple_3 ?ne_2_1 ?ne_3_1 ?ne_3_2 ?fa_is_integer ?fl_is_integer ?fc_is_integer ?fk_is_integer ?fa_is_from ?fl_is_from ?fc_is_from ?fk_is_from ?fa_is_between ?fl_is_between ?fc_is_between ?fk_is_between ?fa_is_index ?fl_is_index ?fc_is_index ?fk_is_index ?fa_is_bound ?fl_is_bound ?fc_is_bound ?fk_is_bound ?fa_is_system_form ?fl_is_system_form ?fc_is_system_form ?fk_is_system_form ?fa_has_moments ?fl_has_moments ?fc_has_moments ?fk_has_moments ?fa_keeps_bound ?fl_keeps_bound ?fc_keeps_bound ?fk_keeps_bound ?fa_is_world_of ?fl_is_world_of ?fc_is_world_of ?fk_is_world_of ?fa_check_system ?fl_check_system ?fc_check_system ?fk_check_system ?fa_check_wish ?fl_check_wish ?fc_check_wish ?fk_check_wish ?fa_is_world ?fl_is_world ?fc_is_world ?fk_is_world ?fa_first_broken ?fl_first_broken ?fc_first_broken ?fk_first_broken ?fa__law_urn ?fl__law_urn ?fc__law_urn ?fk__law_urn ?fa__law_pick ?fl__law_pick ?fc__law_pick ?fk__law_pick ?fa__law_reach ?fl__law_reach ?fc__law_reach ?fk__law_reach ?fa__law_frame ?fl__law_frame ?fc__law_frame ?fk__law_frame ?fa__law_whole ?fl__law_whole ?fc__law_whole ?fk__law_whole ?fa__law_moments ?fl__law_moments ?fc__law_moments ?fk__law_moments ?fa__law_says ?fl__law_says ?fc__law_says ?fk__law_says ?fa__law_broken ?fl__law_broken ?fc__law_broken ?fk__law_broken ?fa__law_near ?fl__law_near ?fc__law_near ?fk__law_near ?fa__law_odd ?fl__law_odd ?fc__law_odd ?fk__law_odd ?fa__law_right ?fl__law_right ?fc__law_right ?fk__law_right ?fa_law ?fl_law ?fc_law ?fk_law base
    (case a1 => k_is)
    (case x1 => k_exc)
    (case k1 => k_is)
    (case b1 => k_is)
    (case t1 => k_is)
    (case a2 => k_is)
    (case x2 => k_exc)
    (case k2 => k_is)
    (case b2 => k_is)
    (case t2 => k_is)
    (case a3 => k_is)
    (case x3 => k_exc)
    (case k3 => k_is)
    (case b3 => k_is)
    (case t3 => k_is)
    (case z_abs => k_is)
    (case z_all => k_is)
    (case z_bool => k_is)
    (case z_enumerate => k_is)
    (case z_int => k_is)
    (case z_isinstance => k_is)
    (case z_len => k_is)
    (case z_list => k_is)
    (case z_max => k_is)
    (case z_min => k_is)
    (case z_range => k_is)
    (case z_tuple => k_is)
    (case hg3 => k_is)
    (case hk3 => k_is)
    (case hd3 => k_is)
    (case ha3 => k_is)
    (case hm3 => k_is)
    (case hn => k_is)
    (case ht => k_is)
    (case n_bool_3 => first | rfl | k_is)
    (case n_int_3 => first | rfl | k_is)
    (case n_tuple_3 => first | rfl | k_is)
    (case ne_2_1 => decide)
    (case ne_3_1 => decide)
    (case ne_3_2 => decide)
    (case fa_is_integer => k_is)
    (case fl_is_integer => k_is)
    (case fc_is_integer => k_is)
    (case fk_is_integer => k_is)
    (case fa_is_from => k_is)
    (case fl_is_from => k_is)
    (case fc_is_from => k_is)
    (case fk_is_from => k_is)
    (case fa_is_between => k_is)
    (case fl_is_between => k_is)
    (case fc_is_between => k_is)
    (case fk_is_between => k_is)
    (case fa_is_index => k_is)
    (case fl_is_index => k_is)
    (case fc_is_index => k_is)
    (case fk_is_index => k_is)
    (case fa_is_bound => k_is)
    (case fl_is_bound => k_is)
    (case fc_is_bound => k_is)
    (case fk_is_bound => k_is)
    (case fa_is_system_form => k_is)
    (case fl_is_system_form => k_is)
    (case fc_is_system_form => k_is)
    (case fk_is_system_form => k_is)
    (case fa_has_moments => k_is)
    (case fl_has_moments => k_is)
    (case fc_has_moments => k_is)
    (case fk_has_moments => k_is)
    (case fa_keeps_bound => k_is)
    (case fl_keeps_bound => k_is)
    (case fc_keeps_bound => k_is)
    (case fk_keeps_bound => k_is)
    (case fa_is_world_of => k_is)
    (case fl_is_world_of => k_is)
    (case fc_is_world_of => k_is)
    (case fk_is_world_of => k_is)
    (case fa_check_system => k_is)
    (case fl_check_system => k_is)
    (case fc_check_system => k_is)
    (case fk_check_system => k_is)
    (case fa_check_wish => k_is)
    (case fl_check_wish => k_is)
    (case fc_check_wish => k_is)
    (case fk_check_wish => k_is)
    (case fa_is_world => k_is)
    (case fl_is_world => k_is)
    (case fc_is_world => k_is)
    (case fk_is_world => k_is)
    (case fa_first_broken => k_is)
    (case fl_first_broken => k_is)
    (case fc_first_broken => k_is)
    (case fk_first_broken => k_is)
    (case fa__law_urn => k_is)
    (case fl__law_urn => k_is)
    (case fc__law_urn => k_is)
    (case fk__law_urn => k_is)
    (case fa__law_pick => k_is)
    (case fl__law_pick => k_is)
    (case fc__law_pick => k_is)
    (case fk__law_pick => k_is)
    (case fa__law_reach => k_is)
    (case fl__law_reach => k_is)
    (case fc__law_reach => k_is)
    (case fk__law_reach => k_is)
    (case fa__law_frame => k_is)
    (case fl__law_frame => k_is)
    (case fc__law_frame => k_is)
    (case fk__law_frame => k_is)
    (case fa__law_whole => k_is)
    (case fl__law_whole => k_is)
    (case fc__law_whole => k_is)
    (case fk__law_whole => k_is)
    (case fa__law_moments => k_is)
    (case fl__law_moments => k_is)
    (case fc__law_moments => k_is)
    (case fk__law_moments => k_is)
    (case fa__law_says => k_is)
    (case fl__law_says => k_is)
    (case fc__law_says => k_is)
    (case fk__law_says => k_is)
    (case fa__law_broken => k_is)
    (case fl__law_broken => k_is)
    (case fc__law_broken => k_is)
    (case fk__law_broken => k_is)
    (case fa__law_near => k_is)
    (case fl__law_near => k_is)
    (case fc__law_near => k_is)
    (case fk__law_near => k_is)
    (case fa__law_odd => k_is)
    (case fl__law_odd => k_is)
    (case fc__law_odd => k_is)
    (case fk__law_odd => k_is)
    (case fa__law_right => k_is)
    (case fl__law_right => k_is)
    (case fc__law_right => k_is)
    (case fk__law_right => k_is)
    (case fa_law => k_is)
    (case fl_law => k_is)
    (case fc_law => k_is)
    (case fk_law => k_is)
  case P => exact T08.law_pre

