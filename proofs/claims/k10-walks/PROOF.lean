import PyProof.Rows.All
import Wide.All
import OpenK.AllK
import Wide.FinOn
import HandS.ForMost
import HandS.ForExc
import HandS.Wide
import HandS.IsInst
import HandS.ExcValue
import HandS.ExcIs
import HandS.Style
import HandS.Deep
import HandS.TupAny
import HandS.Walk
import HandS.Iter
import HandS.Conv
import HandS.More
import HandS.EndBits
import HandS.TryOnly
import HandS.WideBits
import HandS.Zip
import KE.GoesEnum
import PyProof.StrOps2
import KE.DataFind
import PySem.Challenge.RW_keptwhatever_k10_whole_lattices_and_walk
import PyProof.P3Eq
set_option Elab.async false
set_option linter.all false
set_option maxRecDepth 100000
set_option maxHeartbeats 1000000
/-! DLa: data over the hand layer: a def's state as data, owned lists apart. -/
namespace DL
open PySem PySem.Spec PyProof.Rows L2

abbrev D := PyData
/-- an exception object; the number tells nothing -/
def exD (n : Nat) : D := .dict [(.int (n : Nat), .none)]
/-- a class of exceptions whose objects are none of the built-in types' -/
structure ExcAll (K : PySem.W.Frag) (C : Addr) : Prop where
  e : ExcC K C
  n : ∀ T : String, T ∈ ["int", "bool", "str", "list", "tuple"] → PySem.W.kitOne K (.ref C) (.type T) = some false

mutual
inductive Rep (K : PySem.W.Frag) (H : Hp) : V → D → Prop
  | non : Rep K H .non .none
  | bl (b : Bool) : Rep K H (.bl b) (.bool b)
  | int (i : Int) : Rep K H (.int i) (.int i)
  | str (x : Str) : Rep K H (.str x) (.str x)
  | lst {a : Addr} {xs : List V} {ds : List D} : H a = some (.lst xs) → Reps K H xs ds → ds.length ≤ sizeLine → Rep K H (.ref a) (.list ds)
  | tup {a : Addr} {xs : List V} {ds : List D} : SqT K H a xs → Reps K H xs ds → ds.length ≤ sizeLine → Rep K H (.ref a) (.tuple ds)
  | ex {a C : Addr} {n : Nat} : H a = some (ExO (.ref C) a) → ExcAll K C → Rep K H (.ref a) (exD n)
inductive Reps (K : PySem.W.Frag) (H : Hp) : List V → List D → Prop
  | nil : Reps K H [] []
  | cons {v : V} {vs : List V} {d : D} {ds : List D} : Rep K H v d → Reps K H vs ds → Reps K H (v :: vs) (d :: ds)
end

section
variable {K : PySem.W.Frag} {H H' Hf Hf' : Hp}

theorem rd_same {a : Addr} {u : HO} (e : Same H H') (h : Rd H a u) : Rd H' a u := by
  rcases h with h | ⟨o, h⟩
  · exact .inl (e _ _ h)
  · exact .inr ⟨o, e _ _ h⟩
theorem sqT_same {a : Addr} {xs : List V} (e : Same H H') (h : SqT K H a xs) : SqT K H' a xs := by
  rcases h with (h | ⟨o, h⟩) | h
  · exact .inl (.inl (e _ _ h))
  · exact .inl (.inr ⟨o, e _ _ h⟩)
  · exact .inr h

mutual
theorem Rep.same (e : Same H H') : ∀ {v : V} {d : D}, Rep K H v d → Rep K H' v d
  | _, _, .non => .non
  | _, _, .bl b => .bl b
  | _, _, .int i => .int i
  | _, _, .str x => .str x
  | _, _, .lst h r z => .lst (e _ _ h) (Reps.same e r) z
  | _, _, .tup h r z => .tup (sqT_same e h) (Reps.same e r) z
  | _, _, .ex h n => .ex (e _ _ h) n
theorem Reps.same (e : Same H H') : ∀ {vs : List V} {ds : List D}, Reps K H vs ds → Reps K H' vs ds
  | _, _, .nil => .nil
  | _, _, .cons h r => .cons (Rep.same e h) (Reps.same e r)
end

theorem Reps.length : ∀ {vs : List V} {ds : List D}, Reps K H vs ds → vs.length = ds.length
  | _, _, .nil => rfl
  | _, _, .cons _ r => congrArg (· + 1) (Reps.length r)
theorem Reps.get : ∀ {vs : List V} {ds : List D} {i : Nat} {v : V}, Reps K H vs ds → vs[i]? = some v → ∃ d, ds[i]? = some d ∧ Rep K H v d
  | _, _, _, _, .nil, h => by simp at h
  | _, _, 0, _, .cons h r, e => by simp at e; subst e; exact ⟨_, rfl, h⟩
  | _, _, i + 1, _, .cons h r, e => by simpa using Reps.get (i := i) r (by simpa using e)
theorem Reps.get' : ∀ {vs : List V} {ds : List D} {i : Nat} {d : D}, Reps K H vs ds → ds[i]? = some d → ∃ v, vs[i]? = some v ∧ Rep K H v d
  | _, _, _, _, .nil, h => by simp at h
  | _, _, 0, _, .cons h r, e => by simp at e; subst e; exact ⟨_, rfl, h⟩
  | _, _, i + 1, _, .cons h r, e => by simpa using Reps.get' (i := i) r (by simpa using e)
theorem Reps.append : ∀ {vs us : List V} {ds es : List D}, Reps K H vs ds → Reps K H us es → Reps K H (vs ++ us) (ds ++ es)
  | _, _, _, _, .nil, s => s
  | _, _, _, _, .cons h r, s => .cons h (Reps.append r s)
theorem Reps.take : ∀ {vs : List V} {ds : List D} (n : Nat), Reps K H vs ds → Reps K H (vs.take n) (ds.take n)
  | _, _, 0, _ => .nil
  | _, _, _ + 1, .nil => .nil
  | _, _, n + 1, .cons h r => .cons h (Reps.take n r)
theorem Reps.drop : ∀ {vs : List V} {ds : List D} (n : Nat), Reps K H vs ds → Reps K H (vs.drop n) (ds.drop n)
  | _, _, 0, r => r
  | _, _, _ + 1, .nil => .nil
  | _, _, n + 1, .cons _ r => Reps.drop n r
theorem Reps.set {x : V} {y : D} (q : Rep K H x y) : ∀ {vs : List V} {ds : List D} (n : Nat), Reps K H vs ds → Reps K H (vs.set n x) (ds.set n y)
  | _, _, _, .nil => .nil
  | _, _, 0, .cons h r => .cons q r
  | _, _, n + 1, .cons h r => .cons h (Reps.set q n r)
theorem Reps.eraseIdx : ∀ {vs : List V} {ds : List D} (n : Nat), Reps K H vs ds → Reps K H (vs.eraseIdx n) (ds.eraseIdx n)
  | _, _, _, .nil => .nil
  | _, _, 0, .cons h r => r
  | _, _, n + 1, .cons h r => .cons h (Reps.eraseIdx n r)
theorem Reps.dropLast {vs : List V} {ds : List D} (r : Reps K H vs ds) : Reps K H vs.dropLast ds.dropLast := by
  rw [List.dropLast_eq_take, List.dropLast_eq_take, r.length]
  exact r.take _
theorem Reps.reverse : ∀ {vs : List V} {ds : List D}, Reps K H vs ds → Reps K H vs.reverse ds.reverse
  | _, _, .nil => .nil
  | _, _, .cons h r => by
    rw [List.reverse_cons, List.reverse_cons]
    exact (Reps.reverse r).append (.cons h .nil)
theorem Reps.ints : ∀ {vs : List V} {ns : List Int}, Reps K H vs (ns.map .int) → vs = ns.map V.int
  | _, [], h => by cases h; rfl
  | _, n :: ns, h => by
    cases h with
    | cons h r => cases h; rw [Reps.ints r]; rfl
theorem Reps.ofInts : ∀ (ns : List Int), Reps K H (ns.map V.int) (ns.map .int)
  | [] => .nil
  | n :: ns => .cons (.int n) (Reps.ofInts ns)
theorem Reps.bools : ∀ {vs : List V} {ns : List Bool}, Reps K H vs (ns.map .bool) → vs = ns.map V.bl
  | _, [], h => by cases h; rfl
  | _, n :: ns, h => by
    cases h with
    | cons h r => cases h; rw [Reps.bools r]; rfl

/-- what an owned object holds -/
inductive Cn where
  | l (ds : List D)
abbrev Cn.d : Cn → D
  | .l ds => .list ds
def OwnR (K : PySem.W.Frag) (Hf H : Hp) : Cn → Addr → List Addr → Prop
  | .l ds, a, fp => fp = [a] ∧ ds.length ≤ sizeLine ∧ ∃ vs, H a = some (.lst vs) ∧ Reps K Hf vs ds

theorem OwnR.mono {c : Cn} {a : Addr} {fp : List Addr} (hs : Same Hf Hf') (hk : ∀ b ∈ fp, H' b = H b) (h : OwnR K Hf H c a fp) : OwnR K Hf' H' c a fp := by
  cases c with
  | l ds =>
    obtain ⟨rfl, z, vs, h1, h2⟩ := h
    exact ⟨rfl, z, vs, by rw [hk a (by simp)]; exact h1, h2.same hs⟩
theorem OwnR.dom {c : Cn} {a : Addr} {fp : List Addr} (h : OwnR K Hf H c a fp) : ∀ b ∈ fp, H b ≠ none := by
  cases c with
  | l ds =>
    obtain ⟨rfl, z, vs, h1, h2⟩ := h
    intro b hb
    have : b = a := by simpa using hb
    subst this
    rw [h1]; exact fun z => nomatch z

/-- a slot as data -/
inductive Sl where
  | nil | fz (d : D) | ow (c : Cn) | pw (a : Addr) (c : Cn) | sc (ns : List Int) | xa (a : Addr)
def SlO (K : PySem.W.Frag) (Hf H : Hp) : Sl → Option V → List Addr → Prop
  | .nil, _, fp => fp = []
  | .fz d, v, fp => fp = [] ∧ ∃ x, v = some x ∧ Rep K Hf x d
  | .ow c, v, fp => ∃ a, v = some (.ref a) ∧ OwnR K Hf H c a fp
  | .pw a c, v, fp => v = some (.ref a) ∧ OwnR K Hf H c a fp
  | .sc ns, v, fp => fp = [] ∧ ∃ a, v = some (.ref a) ∧ SqL K Hf a (ns.map V.int)
  | .xa a, v, fp => fp = [] ∧ v = some (.ref a)
def SlsO (K : PySem.W.Frag) (Hf H : Hp) : List Sl → L2.St → List Addr → Prop
  | [], σ, fp => σ = [] ∧ fp = []
  | s :: ρ, σ, fp => ∃ v σ' f1 f2, σ = v :: σ' ∧ fp = f1 ++ f2 ∧ SlO K Hf H s v f1 ∧ SlsO K Hf H ρ σ' f2

theorem SlO.mono {s : Sl} {v : Option V} {fp : List Addr} (hs : Same Hf Hf') (hk : ∀ b ∈ fp, H' b = H b) (h : SlO K Hf H s v fp) : SlO K Hf' H' s v fp := by
  cases s with
  | nil => exact h
  | fz d => obtain ⟨e, x, e2, r⟩ := h; exact ⟨e, x, e2, r.same hs⟩
  | ow c => obtain ⟨a, e, r⟩ := h; exact ⟨a, e, r.mono hs hk⟩
  | pw a c => obtain ⟨e, r⟩ := h; exact ⟨e, r.mono hs hk⟩
  | sc ns => obtain ⟨e, a, e2, r⟩ := h; exact ⟨e, a, e2, hs.seq r⟩
  | xa a => exact h
theorem SlO.dom {s : Sl} {v : Option V} {fp : List Addr} (h : SlO K Hf H s v fp) : ∀ b ∈ fp, H b ≠ none := by
  cases s with
  | nil => have : fp = [] := h; subst this; intro b hb; simp at hb
  | fz d => obtain ⟨e, x, e2, r⟩ := h; subst e; intro b hb; simp at hb
  | ow c => obtain ⟨a, e, r⟩ := h; exact r.dom
  | pw a c => obtain ⟨e, r⟩ := h; exact r.dom
  | sc ns => obtain ⟨e, a, e2, r⟩ := h; subst e; intro b hb; simp at hb
  | xa a => obtain ⟨e, _⟩ := h; subst e; intro b hb; simp at hb
theorem SlsO.mono (hs : Same Hf Hf') : ∀ {ρ : List Sl} {σ : L2.St} {fp : List Addr}, (∀ b ∈ fp, H' b = H b) → SlsO K Hf H ρ σ fp → SlsO K Hf' H' ρ σ fp
  | [], _, _, _, h => h
  | s :: ρ, _, _, hk, ⟨v, σ', f1, f2, e1, e2, h1, h2⟩ => by
    subst e1 e2
    exact ⟨v, σ', f1, f2, rfl, rfl, h1.mono hs fun b hb => hk b (List.mem_append_left _ hb), SlsO.mono hs (fun b hb => hk b (List.mem_append_right _ hb)) h2⟩
theorem SlsO.dom : ∀ {ρ : List Sl} {σ : L2.St} {fp : List Addr}, SlsO K Hf H ρ σ fp → ∀ b ∈ fp, H b ≠ none
  | [], _, _, ⟨_, e⟩ => by subst e; intro b hb; simp at hb
  | s :: ρ, _, _, ⟨v, σ', f1, f2, e1, e2, h1, h2⟩ => by
    subst e1 e2
    intro b hb
    rcases List.mem_append.mp hb with hb | hb
    · exact h1.dom b hb
    · exact SlsO.dom h2 b hb
theorem SlsO.length : ∀ {ρ : List Sl} {σ : L2.St} {fp : List Addr}, SlsO K Hf H ρ σ fp → σ.length = ρ.length
  | [], _, _, ⟨e, _⟩ => by subst e; rfl
  | s :: ρ, _, _, ⟨v, σ', f1, f2, e1, e2, h1, h2⟩ => by
    subst e1
    show σ'.length + 1 = ρ.length + 1
    rw [SlsO.length h2]

/-- a slot is taken apart: what stands in it, and the rest with an empty slot -/
theorem SlsO.take : ∀ {ρ : List Sl} {σ : L2.St} {fp : List Addr} {i : Nat} {s : Sl}, SlsO K Hf H ρ σ fp → ρ[i]? = some s →
    ∃ v f1 f2, σ[i]? = some v ∧ SlO K Hf H s v f1 ∧ SlsO K Hf H (ρ.set i .nil) σ f2 ∧ fp.Perm (f1 ++ f2)
  | [], _, _, _, _, _, e => by simp at e
  | s0 :: ρ, _, _, 0, s, ⟨v, σ', f1, f2, e1, e2, h1, h2⟩, e => by
    subst e1 e2
    simp at e; subst e
    exact ⟨v, f1, f2, rfl, h1, ⟨v, σ', [], f2, rfl, rfl, rfl, h2⟩, List.Perm.refl _⟩
  | s0 :: ρ, _, _, i + 1, s, ⟨v, σ', f1, f2, e1, e2, h1, h2⟩, e => by
    subst e1 e2
    obtain ⟨v', g1, g2, q1, q2, q3, q4⟩ := SlsO.take (i := i) h2 (by simpa using e)
    refine ⟨v', g1, f1 ++ g2, by simpa using q1, q2, ⟨v, σ', f1, g2, rfl, rfl, h1, q3⟩, ?_⟩
    refine (List.Perm.append_left f1 q4).trans ?_
    rw [← List.append_assoc, ← List.append_assoc]
    exact List.Perm.append_right g2 List.perm_append_comm
/-- a value is put into an empty slot -/
theorem SlsO.put : ∀ {ρ : List Sl} {σ : L2.St} {f1 f2 : List Addr} {i : Nat} {s : Sl} {v : Option V}, SlsO K Hf H ρ σ f2 → ρ[i]? = some .nil → SlO K Hf H s v f1 →
    ∃ fp, SlsO K Hf H (ρ.set i s) (σ.set i v) fp ∧ fp.Perm (f1 ++ f2)
  | [], _, _, _, _, _, _, _, e, _ => by simp at e
  | s0 :: ρ, _, f, _, 0, s, w, ⟨v, σ', f1, f2, e1, e2, h1, h2⟩, e, q => by
    subst e1 e2
    simp at e; subst e
    obtain rfl : f1 = [] := h1
    exact ⟨f ++ f2, ⟨w, σ', f, f2, rfl, rfl, q, h2⟩, List.Perm.refl _⟩
  | s0 :: ρ, _, f, _, i + 1, s, w, ⟨v, σ', f1, f2, e1, e2, h1, h2⟩, e, q => by
    subst e1 e2
    obtain ⟨fp, q1, q2⟩ := SlsO.put (i := i) h2 (by simpa using e) q
    refine ⟨f1 ++ fp, ⟨v, _, f1, fp, rfl, rfl, h1, q1⟩, ?_⟩
    refine (List.Perm.append_left f1 q2).trans ?_
    rw [← List.append_assoc, ← List.append_assoc]
    exact List.Perm.append_right f2 List.perm_append_comm

structure Bs where
  fr : Hp
  hf : Hp
def Bs.up (B : Bs) (Hf : Hp) : Bs := ⟨B.fr, Hf⟩
/-- the state of a def's body as data -/
structure SO (K : PySem.W.Frag) (B : Bs) (Hf : Hp) (ρ : List Sl) (σ : L2.St) (H : Hp) : Prop where
  up : Same B.hf Hf
  sub : Same Hf H
  fr : ∀ a o, B.fr a = some o → H a = some o ∧ Hf a = none
  sl : ∃ fp, SlsO K Hf H ρ σ fp ∧ fp.Nodup ∧ ∀ a ∈ fp, Hf a = none ∧ B.fr a = none

variable {B : Bs} {ρ : List Sl} {σ : L2.St}
theorem same_upd {a : Addr} {o : HO} (h : H a = none) : Same H (upd H a o) := fun b u e => by
  rw [upd_ne (ne_of_none e h)]; exact e
theorem same_upd2 {a : Addr} {o : HO} (e : Same Hf H) : Same (upd Hf a o) (upd H a o) := fun b u q => by
  by_cases hb : b = a
  · subst hb; rw [upd_same] at q ⊢; exact q
  · rw [upd_ne hb] at q ⊢; exact e b u q
theorem SO.base (S : SO K (B.up Hf) Hf' ρ σ H) (S0 : Same B.hf Hf) : SO K B Hf' ρ σ H := ⟨S0.trans S.up, S.sub, S.fr, S.sl⟩
theorem SO.raise (S : SO K B Hf ρ σ H) : SO K (B.up Hf) Hf ρ σ H := ⟨Same.refl _, S.sub, S.fr, S.sl⟩
/-- a new frozen object -/
theorem SO.alloc (S : SO K B Hf ρ σ H) {p : Addr} (hp : H p = none) (o : HO) : SO K B (upd Hf p o) ρ σ (upd H p o) := by
  obtain ⟨fp, s1, s2, s3⟩ := S.sl
  have hn : Hf p = none := S.sub.free hp
  have npf : p ∉ fp := fun z => s1.dom p z hp
  have ne : ∀ a ∈ fp, a ≠ p := fun a ha e => npf (e ▸ ha)
  refine ⟨S.up.trans (same_upd hn), same_upd2 S.sub, fun a u e => ?_, fp, s1.mono (same_upd hn) fun b hb => upd_ne (ne b hb), s2, fun a ha => ?_⟩
  · have q := S.fr a u e
    have : a ≠ p := ne_of_none q.1 hp
    rw [upd_ne this, upd_ne this]; exact q
  · rw [upd_ne (ne a ha)]; exact s3 a ha
/-- a new object that nobody tracks as data -/
theorem SO.junk (S : SO K B Hf ρ σ H) {H' : Hp} (h : Same H H') : SO K B Hf ρ σ H' := by
  obtain ⟨fp, s1, s2, s3⟩ := S.sl
  refine ⟨S.up, S.sub.trans h, fun a u e => ⟨h _ _ (S.fr a u e).1, (S.fr a u e).2⟩, fp, s1.mono (Same.refl _) fun b hb => ?_, s2, s3⟩
  have := s1.dom b hb
  cases e : H b with
  | none => exact absurd e this
  | some o => exact h _ _ e
/-- a new owned list -/
theorem SO.allocL (S : SO K B Hf ρ σ H) {p : Addr} (hp : H p = none) {vs : List V} {ds : List D} (r : Reps K Hf vs ds) (hz : ds.length ≤ sizeLine) : SO K B Hf (.ow (.l ds) :: ρ) (some (.ref p) :: σ) (upd H p (.lst vs)) := by
  obtain ⟨fp, s1, s2, s3⟩ := S.sl
  have hn : Hf p = none := S.sub.free hp
  have npf : p ∉ fp := fun z => s1.dom p z hp
  have ne : ∀ a ∈ fp, a ≠ p := fun a ha e => npf (e ▸ ha)
  have nfr : B.fr p = none := by
    cases e : B.fr p with
    | none => rfl
    | some o => have := (S.fr p o e).1; rw [hp] at this; cases this
  refine ⟨S.up, S.sub.trans (same_upd hp), fun a u e => ?_, p :: fp, ?_, List.nodup_cons.mpr ⟨npf, s2⟩, fun a ha => ?_⟩
  · have q := S.fr a u e
    exact ⟨same_upd hp _ _ q.1, q.2⟩
  · exact ⟨_, _, [p], fp, rfl, rfl, ⟨p, rfl, rfl, hz, vs, upd_same, r⟩, s1.mono (Same.refl _) fun b hb => upd_ne (ne b hb)⟩
  · rcases List.mem_cons.mp ha with rfl | ha
    · exact ⟨hn, nfr⟩
    · exact s3 a ha
/-- what is owned on top is frozen -/
theorem SO.freeze {c : Cn} {v : Option V} (S : SO K B Hf (.ow c :: ρ) (v :: σ) H) : ∃ Hf' x, v = some x ∧ Same Hf Hf' ∧ SO K B Hf' ρ σ H ∧ Rep K Hf' x c.d := by
  obtain ⟨fp, ⟨v', σ', f1, f2, e1, e2, h1, h2⟩, s2, s3⟩ := S.sl
  cases e1
  subst e2
  obtain ⟨a, rfl, q⟩ := h1
  cases c with
  | l ds =>
    obtain ⟨rfl, hz, vs, q1, q2⟩ := q
    have ha := s3 a (by simp)
    have nd : a ∉ f2 := (List.nodup_cons.mp s2).1
    have ne : ∀ b ∈ f2, b ≠ a := fun b hb e => nd (e ▸ hb)
    have su : Same Hf (upd Hf a (.lst vs)) := same_upd ha.1
    refine ⟨upd Hf a (.lst vs), _, rfl, su, ⟨S.up.trans su, fun b u e => ?_, fun b u e => ?_, f2, h2.mono su fun _ _ => rfl, (List.nodup_cons.mp s2).2, fun b hb => ?_⟩, .lst upd_same (q2.same su) hz⟩
    · by_cases hb : b = a
      · subst hb; rw [upd_same] at e; rw [q1]; exact e
      · rw [upd_ne hb] at e; exact S.sub _ _ e
    · have q := S.fr b u e
      have : b ≠ a := fun z => by rw [z, ha.2] at e; cases e
      rw [upd_ne this]; exact q
    · rw [upd_ne (ne b hb)]; exact s3 b (by simp [hb])
theorem SO.drop {s : Sl} {v : Option V} (S : SO K B Hf (s :: ρ) (v :: σ) H) : SO K B Hf ρ σ H := by
  obtain ⟨fp, ⟨v', σ', f1, f2, e1, e2, h1, h2⟩, s2, s3⟩ := S.sl
  cases e1; subst e2
  exact ⟨S.up, S.sub, S.fr, f2, h2, (List.nodup_append.mp s2).2.1, fun a ha => s3 a (List.mem_append_right _ ha)⟩
/-- an owned (or any) slot's content is moved to the top, the slot left empty -/
theorem SO.takeSl (S : SO K B Hf ρ σ H) {i : Nat} {s : Sl} (e : ρ[i]? = some s) : ∃ v, σ[i]? = some v ∧ SO K B Hf (s :: ρ.set i .nil) (v :: σ) H := by
  obtain ⟨fp, s1, s2, s3⟩ := S.sl
  obtain ⟨v, f1, f2, q1, q2, q3, q4⟩ := s1.take e
  exact ⟨v, q1, S.up, S.sub, S.fr, f1 ++ f2, ⟨v, σ, f1, f2, rfl, rfl, q2, q3⟩, q4.nodup_iff.mp s2, fun a ha => s3 a (q4.mem_iff.mpr ha)⟩
/-- the top is put into an empty slot -/
theorem SO.putSl {s : Sl} {v : Option V} {i : Nat} (S : SO K B Hf (s :: ρ) (v :: σ) H) (e : ρ[i]? = some .nil) : SO K B Hf (ρ.set i s) (σ.set i v) H := by
  obtain ⟨fp, ⟨v', σ', f1, f2, e1, e2, h1, h2⟩, s2, s3⟩ := S.sl
  cases e1; subst e2
  obtain ⟨fp, q1, q2⟩ := h2.put e h1
  exact ⟨S.up, S.sub, S.fr, fp, q1, q2.nodup_iff.mpr s2, fun a ha => s3 a (q2.mem_iff.mp ha)⟩
theorem SO.nilSl (S : SO K B Hf ρ σ H) {i : Nat} {s : Sl} (e : ρ[i]? = some s) : SO K B Hf (ρ.set i .nil) σ H := by
  obtain ⟨v, _, q⟩ := S.takeSl e
  exact q.drop
theorem SO.len (S : SO K B Hf ρ σ H) : σ.length = ρ.length := let ⟨_, s, _⟩ := S.sl; s.length
theorem SO.lt (S : SO K B Hf ρ σ H) {i : Nat} {s : Sl} (e : ρ[i]? = some s) : i < ρ.length := (List.getElem?_eq_some_iff.mp e).1

theorem set_self_of {α : Type} : ∀ {l : List α} {i : Nat} {x : α}, l[i]? = some x → l.set i x = l
  | [], _, _, h => by simp at h
  | a :: l, 0, x, h => by simp at h; subst h; rfl
  | a :: l, i + 1, x, h => by
    show a :: l.set i x = a :: l
    rw [set_self_of (i := i) (by simpa using h)]
/-! ### values of expressions -/
inductive VR where
  | fz (d : D) | ow (c : Cn) | bw (i : Nat) | sc (ns : List Int)
/-- what is read: data, or the script -/
inductive SD where
  | d (x : D) | sc (ns : List Int)
abbrev slD : Sl → Option SD
  | .fz d => some (.d d)
  | .ow c => some (.d c.d)
  | .pw _ c => some (.d c.d)
  | .sc ns => some (.sc ns)
  | .nil => none
  | .xa _ => none
abbrev getS : List Sl → Nat → Sl
  | [], _ => .nil
  | s :: _, 0 => s
  | _ :: r, i + 1 => getS r i
abbrev setS : List Sl → Nat → Sl → List Sl
  | [], _, _ => []
  | _ :: r, 0, x => x :: r
  | s :: r, i + 1, x => s :: setS r i x
theorem getS_eq : ∀ {ρ : List Sl} {i : Nat} {s : Sl}, getS ρ i = s → s ≠ .nil → ρ[i]? = some s
  | [], _, _, h, n => absurd h.symm n
  | s :: _, 0, _, h, _ => congrArg some h
  | _ :: r, i + 1, s, h, n => by simpa using getS_eq (ρ := r) (i := i) h n
theorem setS_eq : ∀ (ρ : List Sl) (i : Nat) (s : Sl), setS ρ i s = ρ.set i s
  | [], _, _ => rfl
  | _ :: _, 0, _ => rfl
  | s :: r, i + 1, x => congrArg (s :: ·) (setS_eq r i x)
abbrev peek : VR → List Sl → Option SD
  | .fz d, _ => some (.d d)
  | .ow c, _ => some (.d c.d)
  | .sc ns, _ => some (.sc ns)
  | .bw i, ρ => slD (getS ρ i)
/-- a fresh list that is only read is frozen -/
abbrev stl : VR → VR
  | .ow c => .fz c.d
  | r => r
def EV (K : PySem.W.Frag) (B : Bs) (ρ : List Sl) (σ : L2.St) (H : Hp) : VR → V → Prop
  | .fz d, v => ∃ Hf, SO K B Hf ρ σ H ∧ Rep K Hf v d
  | .ow c, v => ∃ Hf, SO K B Hf (.ow c :: ρ) (some v :: σ) H
  | .bw i, v => (∃ Hf, SO K B Hf ρ σ H) ∧ σ[i]? = some (some v)
  | .sc ns, v => ∃ Hf a, SO K B Hf ρ σ H ∧ v = .ref a ∧ SqL K Hf a (ns.map V.int)
/-- a settled value, whatever the owned lists do -/
def HV (K : PySem.W.Frag) (Hf : Hp) (σ : L2.St) : VR → V → Prop
  | .fz d, v => Rep K Hf v d
  | .ow _, _ => False
  | .bw i, v => σ[i]? = some (some v)
  | .sc ns, v => ∃ a, v = .ref a ∧ SqL K Hf a (ns.map V.int)
theorem HV.mono {r : VR} {v : V} (e : Same Hf Hf') (h : HV K Hf σ r v) : HV K Hf' σ r v := by
  cases r with
  | fz d => exact Rep.same e h
  | ow c => exact h
  | bw i => exact h
  | sc ns => obtain ⟨a, e1, h⟩ := h; exact ⟨a, e1, e.seq h⟩
theorem EV.settle {r : VR} {v : V} (h : EV K B ρ σ H r v) : ∃ Hf, SO K B Hf ρ σ H ∧ HV K Hf σ (stl r) v := by
  cases r with
  | fz d => exact h
  | ow c =>
    obtain ⟨Hf, S⟩ := h
    obtain ⟨Hf', x, e, _, S', q⟩ := S.freeze
    cases e
    exact ⟨Hf', S', q⟩
  | bw i => obtain ⟨⟨Hf, S⟩, e⟩ := h; exact ⟨Hf, S, e⟩
  | sc ns => obtain ⟨Hf, a, S, e, q⟩ := h; exact ⟨Hf, S, a, e, q⟩
/-- what a reading rule is given: the items of a sequence are frozen -/
def RepS (K : PySem.W.Frag) (Hf H : Hp) (v : V) : SD → Prop
  | .d (.list ds) => ∃ a vs, v = .ref a ∧ H a = some (.lst vs) ∧ Reps K Hf vs ds ∧ ds.length ≤ sizeLine
  | .d d => Rep K Hf v d
  | .sc ns => ∃ a, v = .ref a ∧ SqL K H a (ns.map V.int)
theorem RepS.of (e : Same Hf H) {v : V} {d : D} (h : Rep K Hf v d) : RepS K Hf H v (.d d) := by
  cases h with
  | non => exact .non
  | bl b => exact .bl b
  | int i => exact .int i
  | str x => exact .str x
  | lst h r z => exact ⟨_, _, rfl, e _ _ h, r, z⟩
  | tup h r z => exact .tup h r z
  | ex h n => exact .ex h n
theorem RepS.rep (e : Same Hf H) {v : V} {d : D} (h : RepS K Hf H v (.d d)) : Rep K H v d := by
  cases d with
  | list ds => obtain ⟨a, vs, rfl, h, r, z⟩ := h; exact .lst h (r.same e) z
  | tuple ds => exact Rep.same e h
  | none => exact Rep.same e h
  | bool b => exact Rep.same e h
  | int i => exact Rep.same e h
  | str x => exact Rep.same e h
  | dict kvs => exact Rep.same e h
theorem RepS.own {c : Cn} {a : Addr} {fp : List Addr} (h : OwnR K Hf H c a fp) : RepS K Hf H (.ref a) (.d c.d) := by
  cases c with
  | l ds => obtain ⟨_, z, vs, h1, h2⟩ := h; exact ⟨a, vs, rfl, h1, h2, z⟩
theorem SO.get (S : SO K B Hf ρ σ H) {i : Nat} {s : Sl} (e : ρ[i]? = some s) : ∃ v fp, σ[i]? = some v ∧ SlO K Hf H s v fp := by
  obtain ⟨fp, s1, _, _⟩ := S.sl
  obtain ⟨v, f1, f2, q1, q2, _⟩ := s1.take e
  exact ⟨v, f1, q1, q2⟩
theorem HV.peek {r : VR} {v : V} {x : SD} (S : SO K B Hf ρ σ H) (h : HV K Hf σ r v) (e : DL.peek r ρ = some x) : RepS K Hf H v x := by
  cases r with
  | fz d => cases e; exact RepS.of S.sub h
  | ow c => exact h.elim
  | sc ns =>
    cases e
    obtain ⟨a, e1, h⟩ := h
    exact ⟨a, e1, S.sub.seq h⟩
  | bw i =>
    have e : slD (getS ρ i) = some x := e
    have h : σ[i]? = some (some v) := h
    generalize hs : getS ρ i = s at e
    cases s with
    | nil => cases e
    | xa a => cases e
    | fz d =>
      cases e
      obtain ⟨w, fp, e1, e2, y, e3, q⟩ := S.get (getS_eq hs (fun z => nomatch z))
      rw [h] at e1; cases e1; cases e3
      exact RepS.of S.sub q
    | ow c =>
      cases e
      obtain ⟨w, fp, e1, a, e3, q⟩ := S.get (getS_eq hs (fun z => nomatch z))
      rw [h] at e1; cases e1; cases e3
      exact RepS.own q
    | pw a c =>
      cases e
      obtain ⟨w, fp, e1, e3, q⟩ := S.get (getS_eq hs (fun z => nomatch z))
      rw [h] at e1; cases e1; cases e3
      exact RepS.own q
    | sc ns =>
      cases e
      obtain ⟨w, fp, e1, e2, a, e3, q⟩ := S.get (getS_eq hs (fun z => nomatch z))
      rw [h] at e1; cases e1; cases e3
      exact ⟨a, rfl, S.sub.seq q⟩
/-- a value is kept for good: frozen -/
abbrev frz (r : VR) (ρ : List Sl) (Q : D → List Sl → Prop) : Prop := match r with
  | .fz d => Q d ρ
  | .ow c => Q c.d ρ
  | .sc _ => False
  | .bw i => match getS ρ i with
    | .ow c => Q c.d (setS ρ i (.fz c.d))
    | .fz d => Q d ρ
    | _ => False
theorem EV.frz {r : VR} {v : V} {Q : D → List Sl → Prop} (h : EV K B ρ σ H r v) (q : frz r ρ Q) : ∃ Hf d ρ', SO K B Hf ρ' σ H ∧ Rep K Hf v d ∧ Q d ρ' := by
  cases r with
  | fz d => obtain ⟨Hf, S, p⟩ := h; exact ⟨Hf, d, ρ, S, p, q⟩
  | ow c =>
    obtain ⟨Hf, S⟩ := h
    obtain ⟨Hf', x, e, _, S', p⟩ := S.freeze
    cases e
    exact ⟨Hf', c.d, ρ, S', p, q⟩
  | sc ns => exact q.elim
  | bw i =>
    obtain ⟨⟨Hf, S⟩, e⟩ := h
    unfold DL.frz at q
    dsimp only at q
    generalize hs : getS ρ i = s at q
    cases s with
    | nil => exact q.elim
    | xa a => exact q.elim
    | pw a c => exact q.elim
    | sc ns => exact q.elim
    | fz d =>
      obtain ⟨w, fp, e1, e2, y, e3, p⟩ := S.get (getS_eq hs (fun z => nomatch z))
      rw [e] at e1; cases e1; cases e3
      exact ⟨Hf, d, ρ, S, p, q⟩
    | ow c =>
      have hi := getS_eq hs (fun z => nomatch z)
      obtain ⟨w, e1, S1⟩ := S.takeSl hi
      rw [e] at e1; cases e1
      obtain ⟨Hf', x, e2, _, S2, p⟩ := S1.freeze
      cases e2
      refine ⟨Hf', c.d, setS ρ i (.fz c.d), ?_, p, q⟩
      have lt := S.lt hi
      have S3 : SO K B Hf' (.fz c.d :: ρ.set i .nil) (some v :: σ) H := by
        obtain ⟨fp, s1, s2, s3⟩ := S2.sl
        exact ⟨S2.up, S2.sub, S2.fr, fp, ⟨some v, σ, [], fp, rfl, rfl, ⟨rfl, v, rfl, p⟩, s1⟩, s2, s3⟩
      have S4 := S3.putSl (i := i) (by rw [List.getElem?_set_self lt])
      have e3 : σ.set i (some v) = σ := set_self_of e
      rw [List.set_set, e3] at S4
      rw [setS_eq]
      exact S4
end
end DL
set_option Elab.async false
set_option linter.all false
set_option maxRecDepth 100000
set_option maxHeartbeats 1000000
/-! DLb: expressions over data. -/
namespace DL
open PySem PySem.Spec PyProof.Rows L2

abbrev XD := Addr → List Sl → Prop
abbrev DE := List Sl → (VR → List Sl → Prop) → XD → Prop
abbrev DT := List Sl → (Bool → List Sl → Prop) → XD → Prop
abbrev DA := List Sl → (List VR → List Sl → Prop) → XD → Prop
abbrev DF := List Sl → (List D → List Sl → Prop) → XD → Prop

/-- what is wished of an exception, by data -/
def XL (K : PySem.W.Frag) (B : Bs) (W : WX) (E : XD) : Prop := ∀ C ρ σ H Hf, E C ρ → SO K B Hf ρ σ H → W (.ref C) none σ H
theorem XL.up {K : PySem.W.Frag} {B : Bs} {W : WX} {E : XD} {Hf : Hp} (x : XL K B W E) (S : Same B.hf Hf) : XL K (B.up Hf) W E := fun C ρ σ H Hf' e S' => x C ρ σ H Hf' e (S'.base S)

def Sem1 (K : PySem.W.Frag) (W : WX) (te : TE) (t : DE) : Prop := ∀ B Hf ρ σ H (Q : VK) Qd Ed, SO K B Hf ρ σ H → t ρ Qd Ed → (∀ r ρ' H' v, Qd r ρ' → EV K B ρ' σ H' r v → Q v H') → XL K B W Ed → te σ H Q
structure PD (X : Cx) (W : WX) (e : Expr) (t : DE) : Prop where
  ex : ∃ te, PE X e te ∧ Sem1 X.K W te t
def SemT (K : PySem.W.Frag) (W : WX) (te : TT) (t : DT) : Prop := ∀ B Hf ρ σ H (Q : Bool → Hp → Prop) Qd Ed, SO K B Hf ρ σ H → t ρ Qd Ed → (∀ b ρ' H' Hf', Qd b ρ' → SO K B Hf' ρ' σ H' → Q b H') → XL K B W Ed → te σ H Q
structure PTD (X : Cx) (W : WX) (e : Expr) (t : DT) : Prop where
  ex : ∃ te, PT X e te ∧ SemT X.K W te t
structure PWD (X : Cx) (W : WX) (e : Expr) (t : DT) : Prop where
  ex : ∃ te, PW X e te ∧ SemT X.K W te t
def HVs (K : PySem.W.Frag) (Hf : Hp) (σ : L2.St) : List VR → List V → Prop := Paired (HV K Hf σ)
def SemA (K : PySem.W.Frag) (W : WX) (ta : TA) (n : Nat) (t : DA) : Prop := ∀ B Hf ρ σ H (Q : List V → Hp → Prop) Qd Ed, SO K B Hf ρ σ H → t ρ Qd Ed → (∀ rs ρ' H' Hf' vs, Qd rs ρ' → SO K B Hf' ρ' σ H' → HVs K Hf' σ rs vs → vs.length = n → Q vs H') → XL K B W Ed → ta σ H Q
structure PAD (X : Cx) (W : WX) (es : List Expr) (t : DA) : Prop where
  ex : ∃ ta, PA X es ta ∧ SemA X.K W ta es.length t
def SemF (K : PySem.W.Frag) (W : WX) (ta : TA) (n : Nat) (t : DF) : Prop := ∀ B Hf ρ σ H (Q : List V → Hp → Prop) Qd Ed, SO K B Hf ρ σ H → t ρ Qd Ed → (∀ ds ρ' H' Hf' vs, Qd ds ρ' → SO K B Hf' ρ' σ H' → Reps K Hf' vs ds → vs.length = n → Q vs H') → XL K B W Ed → ta σ H Q
structure PFD (X : Cx) (W : WX) (es : List Expr) (t : DF) : Prop where
  ex : ∃ ta, PA X es ta ∧ SemF X.K W ta es.length t

section
variable {X : Cx} {W : WX} {pos : Pos}

/-! ### names, constants -/
abbrev eVar (i : Nat) : DE := fun ρ Q _ => match getS ρ i with
  | .nil => False
  | .xa _ => False
  | .fz d => Q (.fz d) ρ
  | .ow _ => Q (.bw i) ρ
  | .pw _ _ => Q (.bw i) ρ
  | .sc ns => Q (.sc ns) ρ
theorem sem_var (i : Nat) : Sem1 X.K W (tVar i) (eVar i) := by
  intro B Hf ρ σ H Q Qd Ed S h hQ hE
  unfold eVar at h
  generalize hs : getS ρ i = s at h
  cases s with
  | nil => exact h.elim
  | xa a => exact h.elim
  | fz d =>
    obtain ⟨w, fp, e1, e2, y, e3, q⟩ := S.get (getS_eq hs (fun z => nomatch z))
    subst e3
    exact ⟨y, e1, hQ _ _ _ _ h ⟨Hf, S, q⟩⟩
  | ow c =>
    obtain ⟨w, fp, e1, a, e3, q⟩ := S.get (getS_eq hs (fun z => nomatch z))
    subst e3
    exact ⟨.ref a, e1, hQ _ _ _ _ h ⟨⟨Hf, S⟩, e1⟩⟩
  | pw a c =>
    obtain ⟨w, fp, e1, e3, q⟩ := S.get (getS_eq hs (fun z => nomatch z))
    subst e3
    exact ⟨.ref a, e1, hQ _ _ _ _ h ⟨⟨Hf, S⟩, e1⟩⟩
  | sc ns =>
    obtain ⟨w, fp, e1, e2, a, e3, q⟩ := S.get (getS_eq hs (fun z => nomatch z))
    subst e3
    exact ⟨.ref a, e1, hQ _ _ _ _ h ⟨Hf, a, S, rfl, q⟩⟩
theorem pd_var (i : Nat) {x : Str} (hN : X.N[i]? = some x := by rfl) (hv : Vis X.env.scope x := by first | exact Or.inl rfl | exact Or.inr (Or.inl rfl) | exact Or.inr (Or.inr rfl)) (hd : (x == ("__debug__" : Str)) = false := by decide)
    (hcd : (x == ("__classdict__" : Str)) = false := by decide) : PD X W (.Name x pos) (eVar i) := ⟨_, pv i hN hv hd hcd, sem_var i⟩
abbrev eC (d : D) : DE := fun ρ Q _ => Q (.fz d) ρ
theorem sem_c {v : V} {d : D} (h : ∀ H, Rep X.K H v d) : Sem1 X.K W (tC v) (eC d) := fun B Hf ρ σ H Q Qd Ed S q hQ _ => hQ _ _ _ _ q ⟨Hf, S, h Hf⟩
theorem pd_int {i j} : PD X W (.Constant (.int i) j pos) (eC (.int i)) := ⟨_, pe_int, sem_c fun _ => .int _⟩
theorem pd_bl {b j} : PD X W (.Constant (.bool b) j pos) (eC (.bool b)) := ⟨_, pe_bl, sem_c fun _ => .bl _⟩
theorem pd_non {j} : PD X W (.Constant .none j pos) (eC .none) := ⟨_, pe_non, sem_c fun _ => .non⟩
theorem pd_str {x j} : PD X W (.Constant (.str x) j pos) (eC (.str x)) := ⟨_, pe_str, sem_c fun _ => .str _⟩
/-- a module's constant -/
theorem pd_glob {x : Str} {v : V} {u : Value} {d : D} (hg : Gl X x) (hm : X.mg x = some u) (r : RelV v u) (h : ∀ H, Rep X.K H v d) (hd : (x == ("__debug__" : Str)) = false := by decide) : PD X W (.Name x pos) (eC d) := ⟨_, pe_glob hg hm r hd, sem_c h⟩

/-! ### two operands -/
abbrev DE2 := SD → SD → (VR → Prop) → Prop
abbrev pk2 (x y : VR) (ρ : List Sl) (k : SD → SD → Prop) : Prop := match peek x ρ, peek y ρ with
  | some a, some b => k a b
  | _, _ => False
abbrev eOp (rd : DE2) (ta tb : DE) : DE := fun ρ Q E => ta ρ (fun x ρ1 => tb ρ1 (fun y ρ2 => pk2 (stl x) (stl y) ρ2 fun a b => rd a b fun z => Q z ρ2) E) E
def Conn (K : PySem.W.Frag) (r : R2) (rd : DE2) : Prop := ∀ B Hf ρ σ H x y a b (Q : VK) Qd, SO K B Hf ρ σ H → RepS K Hf H x a → RepS K Hf H y b → rd a b Qd → (∀ z H' v, Qd z → EV K B ρ σ H' z v → Q v H') → r x y H Q
theorem pk2_of {x y : VR} {ρ : List Sl} {k : SD → SD → Prop} (h : pk2 x y ρ k) : ∃ a b, peek x ρ = some a ∧ peek y ρ = some b ∧ k a b := by
  unfold pk2 at h
  cases e1 : peek x ρ with
  | none => rw [e1] at h; exact h.elim
  | some a =>
    cases e2 : peek y ρ with
    | none => rw [e1, e2] at h; exact h.elim
    | some b => rw [e1, e2] at h; exact ⟨a, b, rfl, rfl, h⟩
theorem sem_op {r : R2} {rd : DE2} {te tf : TE} {ta tb : DE} (c : Conn X.K r rd) (ha : Sem1 X.K W te ta) (hb : Sem1 X.K W tf tb) : Sem1 X.K W (tOp r te tf) (eOp rd ta tb) := by
  intro B Hf ρ σ H Q Qd Ed S h hQ hE
  refine ha B Hf ρ σ H _ _ Ed S h (fun r1 ρ1 H1 v1 q1 e1 => ?_) hE
  obtain ⟨Hf1, S1, h1⟩ := e1.settle
  refine hb (B.up Hf1) Hf1 ρ1 σ H1 _ _ Ed S1.raise q1 (fun r2 ρ2 H2 v2 q2 e2 => ?_) (hE.up S1.up)
  obtain ⟨Hf2, S2, h2⟩ := e2.settle
  have S3 := S2.base S1.up
  obtain ⟨a, b, p1, p2, q⟩ := pk2_of q2
  exact c B Hf2 ρ2 σ H2 v1 v2 a b Q _ S3 ((h1.mono S2.up).peek S3 p1) (h2.peek S3 p2) q fun z H' v qz ez => hQ z ρ2 H' v qz ez
theorem pd_bin {op : Operator} {r : R2} {rd : DE2} {a b : Expr} {ta tb : DE} (ho : OpR X (binaryOp op) r) (c : Conn X.K r rd) (ha : PD X W a ta) (hb : PD X W b tb) : PD X W (.BinOp a op b pos) (eOp rd ta tb) := by
  obtain ⟨te, pa, sa⟩ := ha
  obtain ⟨tf, pb, sb⟩ := hb
  exact ⟨_, pe_op ho pa pb, sem_op c sa sb⟩
theorem pd_cmp {op : CmpOp} {r : R2} {rd : DE2} {a b : Expr} {ta tb : DE} (ho : OpR X (compareOp op) r) (c : Conn X.K r rd) (ha : PD X W a ta) (hb : PD X W b tb) (hm : behindInMarks op b = false) : PD X W (.Compare a [op] [b] pos) (eOp rd ta tb) := by
  obtain ⟨te, pa, sa⟩ := ha
  obtain ⟨tf, pb, sb⟩ := hb
  exact ⟨_, pe_cmpR ho pa pb hm, sem_op c sa sb⟩
theorem pd_ix {r : R2} {rd : DE2} {a b : Expr} {ta tb : DE} (ho : IxR X r) (c : Conn X.K r rd) (ha : PD X W a ta) (hb : PD X W b tb) (hs : PlainIx b) : PD X W (.Subscript a b pos) (eOp rd ta tb) := by
  obtain ⟨te, pa, sa⟩ := ha
  obtain ⟨tf, pb, sb⟩ := hb
  exact ⟨_, pe_ix ho pa pb hs, sem_op c sa sb⟩
theorem OpR.or {f : Value → Value → Sem Value} {r r' : R2} (h : OpR X f r) (h' : OpR X f r') : OpR X f (fun x y H Q => r x y H Q ∨ r' x y H Q) := by
  intro pins s σ H x y v u Q I rx ry q
  rcases q with q | q
  · exact h pins s σ H x y v u Q I rx ry q
  · exact h' pins s σ H x y v u Q I rx ry q
theorem Conn.inl {K : PySem.W.Frag} {r r' : R2} {rd : DE2} (h : Conn K r rd) : Conn K (fun x y H Q => r x y H Q ∨ r' x y H Q) rd := fun B Hf ρ σ H x y a b Q Qd S ra rb q k => .inl (h B Hf ρ σ H x y a b Q Qd S ra rb q k)

/-! ### one operand -/
abbrev DE1 := SD → (VR → Prop) → Prop
abbrev eUn (rd : DE1) (ta : DE) : DE := fun ρ Q E => ta ρ (fun x ρ1 => match peek (stl x) ρ1 with | some a => rd a fun z => Q z ρ1 | none => False) E
def Conn1 (K : PySem.W.Frag) (r : V → Hp → VK → Prop) (rd : DE1) : Prop := ∀ B Hf ρ σ H x a (Q : VK) Qd, SO K B Hf ρ σ H → RepS K Hf H x a → rd a Qd → (∀ z H' v, Qd z → EV K B ρ σ H' z v → Q v H') → r x H Q
theorem sem_un {r : V → Hp → VK → Prop} {rd : DE1} {te : TE} {ta : DE} (c : Conn1 X.K r rd) (ha : Sem1 X.K W te ta) : Sem1 X.K W (tUn r te) (eUn rd ta) := by
  intro B Hf ρ σ H Q Qd Ed S h hQ hE
  refine ha B Hf ρ σ H _ _ Ed S h (fun r1 ρ1 H1 v1 q1 e1 => ?_) hE
  obtain ⟨Hf1, S1, h1⟩ := e1.settle
  cases p : peek (stl r1) ρ1 with
  | none => rw [p] at q1; exact q1.elim
  | some a =>
    rw [p] at q1
    exact c B Hf1 ρ1 σ H1 v1 a Q _ S1 (h1.peek S1 p) q1 fun z H' v qz ez => hQ z ρ1 H' v qz ez
theorem pd_un {op : UnaryOp} {r : V → Hp → VK → Prop} {rd : DE1} {a : Expr} {ta : DE} (ho : UnR X (unaryOp op) r) (c : Conn1 X.K r rd) (ha : PD X W a ta) : PD X W (.UnaryOp op a pos) (eUn rd ta) := by
  obtain ⟨te, pa, sa⟩ := ha
  exact ⟨_, pe_un ho pa, sem_un c sa⟩

/-! ### tests -/
abbrev dB (t : DE) : DT := fun ρ Q E => t ρ (fun r ρ1 => match peek (stl r) ρ1 with | some (.d (.bool b)) => Q b ρ1 | _ => False) E
theorem sem_b {te : TE} {t : DE} (ha : Sem1 X.K W te t) : SemT X.K W (tB te) (dB t) := by
  intro B Hf ρ σ H Q Qd Ed S h hQ hE
  refine ha B Hf ρ σ H _ _ Ed S h (fun r1 ρ1 H1 v1 q1 e1 => ?_) hE
  obtain ⟨Hf1, S1, h1⟩ := e1.settle
  cases p : peek (stl r1) ρ1 with
  | none => rw [p] at q1; exact q1.elim
  | some a =>
    rw [p] at q1
    have R := h1.peek S1 p
    cases a with
    | sc ns => exact q1.elim
    | d d =>
      cases d with
      | bool b =>
        have R : Rep X.K Hf1 v1 (.bool b) := R
        cases R
        exact ⟨b, rfl, hQ b ρ1 H1 Hf1 q1 S1⟩
      | _ => exact q1.elim
theorem ptd_val {e : Expr} {t : DE} (ha : PD X W e t) (he : ∀ whole, isTrue e X.env whole = (do let v ← whole; standAt e.pos; holding [v] (truthy v)) := by intro _; rfl) : PTD X W e (dB t) := by
  obtain ⟨te, pa, sa⟩ := ha
  exact ⟨_, pt_val pa he, sem_b sa⟩
theorem ptd_cmp {op : CmpOp} {r : R2} {rd : DE2} {a b : Expr} {ta tb : DE} (ho : OpR X (compareOp op) r) (c : Conn X.K r rd) (ha : PD X W a ta) (hb : PD X W b tb) (hm : behindInMarks op b = false) : PTD X W (.Compare a [op] [b] pos) (dB (eOp rd ta tb)) := by
  obtain ⟨te, pa, sa⟩ := ha
  obtain ⟨tf, pb, sb⟩ := hb
  exact ⟨_, pt_cmpR ho pa pb hm, sem_b (sem_op c sa sb)⟩
abbrev dAnd (t u : DT) : DT := fun ρ Q E => t ρ (fun b ρ1 => if b = true then u ρ1 Q E else Q false ρ1) E
abbrev dOr (t u : DT) : DT := fun ρ Q E => t ρ (fun b ρ1 => if b = true then Q true ρ1 else u ρ1 Q E) E
abbrev dNot (t : DT) : DT := fun ρ Q E => t ρ (fun b ρ1 => Q (!b) ρ1) E
theorem sem_and {te tf : TT} {t u : DT} (ha : SemT X.K W te t) (hb : SemT X.K W tf u) : SemT X.K W (tAnd te tf) (dAnd t u) := by
  intro B Hf ρ σ H Q Qd Ed S h hQ hE
  refine ha B Hf ρ σ H _ _ Ed S h (fun b ρ1 H1 Hf1 q1 S1 => ?_) hE
  cases b with
  | true => exact hb B Hf1 ρ1 σ H1 Q Qd Ed S1 q1 hQ hE
  | false => exact hQ _ _ _ _ q1 S1
theorem sem_or {te tf : TT} {t u : DT} (ha : SemT X.K W te t) (hb : SemT X.K W tf u) : SemT X.K W (tOr te tf) (dOr t u) := by
  intro B Hf ρ σ H Q Qd Ed S h hQ hE
  refine ha B Hf ρ σ H _ _ Ed S h (fun b ρ1 H1 Hf1 q1 S1 => ?_) hE
  cases b with
  | false => exact hb B Hf1 ρ1 σ H1 Q Qd Ed S1 q1 hQ hE
  | true => exact hQ _ _ _ _ q1 S1
theorem sem_not {te : TT} {t : DT} (ha : SemT X.K W te t) : SemT X.K W (tNot te) (dNot t) := by
  intro B Hf ρ σ H Q Qd Ed S h hQ hE
  exact ha B Hf ρ σ H _ _ Ed S h (fun b ρ1 H1 Hf1 q1 S1 => hQ _ _ _ _ q1 S1) hE
theorem pwd_and1 {a : Expr} {t : DT} (ha : PTD X W a t) : PWD X W (.BoolOp .And [a] pos) t := let ⟨_, p, s⟩ := ha; ⟨_, pw_and1 p, s⟩
theorem pwd_or1 {a : Expr} {t : DT} (ha : PTD X W a t) : PWD X W (.BoolOp .Or [a] pos) t := let ⟨_, p, s⟩ := ha; ⟨_, pw_or1 p, s⟩
theorem pwd_and {a b : Expr} {rest : List Expr} {t u : DT} (ha : PTD X W a t) (hb : PWD X W (.BoolOp .And (b :: rest) pos) u) : PWD X W (.BoolOp .And (a :: b :: rest) pos) (dAnd t u) := let ⟨_, p, s⟩ := ha; let ⟨_, p', s'⟩ := hb; ⟨_, pw_and p p', sem_and s s'⟩
theorem pwd_or {a b : Expr} {rest : List Expr} {t u : DT} (ha : PTD X W a t) (hb : PWD X W (.BoolOp .Or (b :: rest) pos) u) : PWD X W (.BoolOp .Or (a :: b :: rest) pos) (dOr t u) := let ⟨_, p, s⟩ := ha; let ⟨_, p', s'⟩ := hb; ⟨_, pw_or p p', sem_or s s'⟩
theorem PWD.pt {e : Expr} {t : DT} (h : PWD X W e t) : PTD X W e t := let ⟨_, p, s⟩ := h; ⟨_, p.pt, s⟩
theorem ptd_not {a : Expr} {t : DT} (ha : PTD X W a t) : PTD X W (.UnaryOp .Not a pos) (dNot t) := let ⟨_, p, s⟩ := ha; ⟨_, pt_not p, sem_not s⟩
/-- and, or, not as values of bools -/
abbrev eAnd (ta tb : DE) : DE := fun ρ Q E => ta ρ (fun r ρ1 => match peek (stl r) ρ1 with | some (.d (.bool b)) => (if b = true then tb ρ1 Q E else Q (.fz (.bool false)) ρ1) | _ => False) E
abbrev eOr (ta tb : DE) : DE := fun ρ Q E => ta ρ (fun r ρ1 => match peek (stl r) ρ1 with | some (.d (.bool b)) => (if b = true then Q (.fz (.bool true)) ρ1 else tb ρ1 Q E) | _ => False) E
abbrev eNot (ta : DE) : DE := fun ρ Q E => ta ρ (fun r ρ1 => match peek (stl r) ρ1 with | some (.d (.bool b)) => Q (.fz (.bool (!b))) ρ1 | _ => False) E
theorem bool_of {K : PySem.W.Frag} {B : Bs} {Hf H : Hp} {ρ : List Sl} {σ : L2.St} {r : VR} {v : V} {P : Bool → Prop} (S : SO K B Hf ρ σ H) (h : HV K Hf σ (stl r) v) (q : match peek (stl r) ρ with | some (.d (.bool b)) => P b | _ => False) : ∃ b, v = .bl b ∧ P b := by
  cases p : peek (stl r) ρ with
  | none => rw [p] at q; exact q.elim
  | some a =>
    rw [p] at q
    have R := h.peek S p
    cases a with
    | sc ns => exact q.elim
    | d d =>
      cases d with
      | bool b =>
        have R : Rep K Hf v (.bool b) := R
        cases R
        exact ⟨b, rfl, q⟩
      | _ => exact q.elim
theorem pd_one {op} {a : Expr} {t : DE} (h : PD X W a t) : PD X W (.BoolOp op [a] pos) t := let ⟨_, p, s⟩ := h; ⟨_, pe_one p, s⟩
theorem pd_and {a b : Expr} {rest : List Expr} {ta tb : DE} (ha : PD X W a ta) (hb : PD X W (.BoolOp .And (b :: rest) pos) tb) : PD X W (.BoolOp .And (a :: b :: rest) pos) (eAnd ta tb) := by
  obtain ⟨te, pa, sa⟩ := ha
  obtain ⟨tf, pb, sb⟩ := hb
  refine ⟨_, pe_and pa pb, ?_⟩
  intro B Hf ρ σ H Q Qd Ed S h hQ hE
  refine sa B Hf ρ σ H _ _ Ed S h (fun r1 ρ1 H1 v1 q1 e1 => ?_) hE
  obtain ⟨Hf1, S1, h1⟩ := e1.settle
  obtain ⟨b, rfl, q⟩ := bool_of S1 h1 q1
  refine ⟨b, rfl, ?_⟩
  cases b with
  | true => exact sb B Hf1 ρ1 σ H1 Q Qd Ed S1 q hQ hE
  | false => exact hQ _ _ _ _ q ⟨Hf1, S1, .bl _⟩
theorem pd_or {a b : Expr} {rest : List Expr} {ta tb : DE} (ha : PD X W a ta) (hb : PD X W (.BoolOp .Or (b :: rest) pos) tb) : PD X W (.BoolOp .Or (a :: b :: rest) pos) (eOr ta tb) := by
  obtain ⟨te, pa, sa⟩ := ha
  obtain ⟨tf, pb, sb⟩ := hb
  refine ⟨_, pe_or pa pb, ?_⟩
  intro B Hf ρ σ H Q Qd Ed S h hQ hE
  refine sa B Hf ρ σ H _ _ Ed S h (fun r1 ρ1 H1 v1 q1 e1 => ?_) hE
  obtain ⟨Hf1, S1, h1⟩ := e1.settle
  obtain ⟨b, rfl, q⟩ := bool_of S1 h1 q1
  refine ⟨b, rfl, ?_⟩
  cases b with
  | false => exact sb B Hf1 ρ1 σ H1 Q Qd Ed S1 q hQ hE
  | true => exact hQ _ _ _ _ q ⟨Hf1, S1, .bl _⟩
theorem pd_not {a : Expr} {ta : DE} (ha : PD X W a ta) : PD X W (.UnaryOp .Not a pos) (eNot ta) := by
  obtain ⟨te, pa, sa⟩ := ha
  refine ⟨_, pe_not pa, ?_⟩
  intro B Hf ρ σ H Q Qd Ed S h hQ hE
  refine sa B Hf ρ σ H _ _ Ed S h (fun r1 ρ1 H1 v1 q1 e1 => ?_) hE
  obtain ⟨Hf1, S1, h1⟩ := e1.settle
  obtain ⟨b, rfl, q⟩ := bool_of S1 h1 q1
  exact ⟨b, rfl, hQ _ _ _ _ q ⟨Hf1, S1, .bl _⟩⟩
abbrev eIf (t : DT) (ta tb : DE) : DE := fun ρ Q E => t ρ (fun b ρ1 => if b = true then ta ρ1 Q E else tb ρ1 Q E) E
theorem pd_ifExp {c a b : Expr} {t : DT} {ta tb : DE} (hc : PTD X W c t) (ha : PD X W a ta) (hb : PD X W b tb) : PD X W (.IfExp c a b pos) (eIf t ta tb) := by
  obtain ⟨te, pa, sa⟩ := ha
  obtain ⟨tf, pb, sb⟩ := hb
  obtain ⟨tc, pc, sc⟩ := hc
  refine ⟨_, pe_ifExp pc pa pb, ?_⟩
  intro B Hf ρ σ H Q Qd Ed S h hQ hE
  refine sc B Hf ρ σ H _ _ Ed S h (fun b ρ1 H1 Hf1 q1 S1 => ?_) hE
  cases b with
  | true => exact sa B Hf1 ρ1 σ H1 Q Qd Ed S1 q1 hQ hE
  | false => exact sb B Hf1 ρ1 σ H1 Q Qd Ed S1 q1 hQ hE

/-! ### arguments that are read -/
abbrev aNil : DA := fun ρ Q _ => Q [] ρ
abbrev aCons (te : DE) (ta : DA) : DA := fun ρ Q E => te ρ (fun r ρ1 => ta ρ1 (fun rs ρ2 => Q (stl r :: rs) ρ2) E) E
theorem pad_nil : PAD X W [] aNil := ⟨_, pa_nil, fun B Hf ρ σ H Q Qd Ed S h hQ hE => hQ _ _ _ _ _ h S .nil rfl⟩
theorem pad_cons {e : Expr} {es : List Expr} {te : DE} {ta : DA} (he : PD X W e te) (ha : PAD X W es ta) (hs : starEach (e :: es) X.env = (false, eval e X.env) :: starEach es X.env := by rfl) : PAD X W (e :: es) (aCons te ta) := by
  obtain ⟨t1, p1, s1⟩ := he
  obtain ⟨t2, p2, s2⟩ := ha
  refine ⟨_, pa_cons p1 p2 hs, ?_⟩
  intro B Hf ρ σ H Q Qd Ed S h hQ hE
  refine s1 B Hf ρ σ H _ _ Ed S h (fun r1 ρ1 H1 v1 q1 e1 => ?_) hE
  obtain ⟨Hf1, S1, h1⟩ := e1.settle
  refine s2 (B.up Hf1) Hf1 ρ1 σ H1 _ _ Ed S1.raise q1 (fun rs ρ2 H2 Hf2 vs q2 S2 h2 l2 => ?_) (hE.up S1.up)
  exact hQ _ _ _ _ _ q2 (S2.base S1.up) (.cons (h1.mono S2.up) h2) (congrArg (· + 1) l2)
abbrev peeks : List VR → List Sl → Option (List SD)
  | [], _ => some []
  | r :: rs, ρ => match peek r ρ, peeks rs ρ with
    | some a, some as => some (a :: as)
    | _, _ => none
abbrev DEn := List SD → (VR → Prop) → Prop
abbrev eCB (rd : DEn) (ta : DA) : DE := fun ρ Q E => ta ρ (fun rs ρ1 => match peeks rs ρ1 with | some as => rd as fun z => Q z ρ1 | none => False) E
def ConnN (K : PySem.W.Frag) (r : List V → Hp → VK → Prop) (rd : DEn) : Prop := ∀ B Hf ρ σ H xs as (Q : VK) Qd, SO K B Hf ρ σ H → Paired (RepS K Hf H) xs as → rd as Qd → (∀ z H' v, Qd z → EV K B ρ σ H' z v → Q v H') → r xs H Q
theorem HVs.peeks {K : PySem.W.Frag} {B : Bs} {Hf H : Hp} {ρ : List Sl} {σ : L2.St} (S : SO K B Hf ρ σ H) : ∀ {rs : List VR} {vs : List V} {as : List SD}, HVs K Hf σ rs vs → DL.peeks rs ρ = some as → Paired (RepS K Hf H) vs as
  | [], _, _, .nil, e => by cases e; exact .nil
  | r :: rs, _, _, .cons h hs, e => by
    unfold DL.peeks at e
    cases e1 : peek r ρ with
    | none => rw [e1] at e; cases e
    | some a =>
      cases e2 : DL.peeks rs ρ with
      | none => rw [e1, e2] at e; cases e
      | some as =>
        rw [e1, e2] at e; cases e
        exact .cons (h.peek S e1) (HVs.peeks S hs e2)
theorem sem_cb {r : List V → Hp → VK → Prop} {rd : DEn} {te : TA} {ta : DA} {n : Nat} (c : ConnN X.K r rd) (ha : SemA X.K W te n ta) : Sem1 X.K W (tCB r te) (eCB rd ta) := by
  intro B Hf ρ σ H Q Qd Ed S h hQ hE
  refine ha B Hf ρ σ H _ _ Ed S h (fun rs ρ1 H1 Hf1 vs q1 S1 h1 _ => ?_) hE
  cases p : peeks rs ρ1 with
  | none => rw [p] at q1; exact q1.elim
  | some as =>
    rw [p] at q1
    exact c B Hf1 ρ1 σ H1 vs as Q _ S1 (h1.peeks S1 p) q1 fun z H' v qz ez => hQ z ρ1 H' v qz ez
theorem pd_callB {x : Str} {p : Pos} {e : Expr} {es : List Expr} {id : String} {r : List V → Hp → VK → Prop} {rd : DEn} {ta : DA} (hc : CallR X (.builtin id) r) (c : ConnN X.K r rd) (hg : Gl X x) (hm : X.mg x = none) (hv : bootBuiltins x = some (.builtin id)) (ha : PAD X W (e :: es) ta)
    (hn : x ≠ "__name__" := by decide) (hdb : (x == ("__debug__" : Str)) = false := by decide)
    (he : starEach (e :: es) X.env = (false, eval e X.env) :: starEach es X.env := by rfl) (hpl : (backTo pos (starEach es X.env)).any (·.1) = false := by rfl) : PD X W (.Call (.Name x p) (e :: es) [] pos) (eCB rd ta) := by
  obtain ⟨te, pa, sa⟩ := ha
  exact ⟨_, pe_callB hc hg hm hv pa hn hdb he hpl, sem_cb c sa⟩
theorem pd_callTy {x : Str} {p : Pos} {e : Expr} {es : List Expr} {T : String} {r : List V → Hp → VK → Prop} {rd : DEn} {ta : DA} (hc : CallR X (.type T) r) (c : ConnN X.K r rd) (hg : Gl X x) (hm : X.mg x = none) (hv : bootBuiltins x = some (.type T)) (ha : PAD X W (e :: es) ta)
    (hn : x ≠ "__name__" := by decide) (hdb : (x == ("__debug__" : Str)) = false := by decide)
    (he : starEach (e :: es) X.env = (false, eval e X.env) :: starEach es X.env := by rfl) (hpl : (backTo pos (starEach es X.env)).any (·.1) = false := by rfl) : PD X W (.Call (.Name x p) (e :: es) [] pos) (eCB rd ta) := by
  obtain ⟨te, pa, sa⟩ := ha
  exact ⟨_, pe_callTy hc hg hm hv pa hn hdb he hpl, sem_cb c sa⟩

/-! ### items that are kept: displays -/
abbrev fNil : DF := fun ρ Q _ => Q [] ρ
abbrev fCons (te : DE) (ta : DF) : DF := fun ρ Q E => te ρ (fun r ρ1 => frz r ρ1 fun d ρ2 => ta ρ2 (fun ds ρ3 => Q (d :: ds) ρ3) E) E
theorem pfd_nil : PFD X W [] fNil := ⟨_, pa_nil, fun B Hf ρ σ H Q Qd Ed S h hQ hE => hQ _ _ _ _ _ h S .nil rfl⟩
theorem pfd_cons {e : Expr} {es : List Expr} {te : DE} {ta : DF} (he : PD X W e te) (ha : PFD X W es ta) (hs : starEach (e :: es) X.env = (false, eval e X.env) :: starEach es X.env := by rfl) : PFD X W (e :: es) (fCons te ta) := by
  obtain ⟨t1, p1, s1⟩ := he
  obtain ⟨t2, p2, s2⟩ := ha
  refine ⟨_, pa_cons p1 p2 hs, ?_⟩
  intro B Hf ρ σ H Q Qd Ed S h hQ hE
  refine s1 B Hf ρ σ H _ _ Ed S h (fun r1 ρ1 H1 v1 q1 e1 => ?_) hE
  obtain ⟨Hf1, d, ρ2, S1, h1, q⟩ := e1.frz q1
  refine s2 (B.up Hf1) Hf1 ρ2 σ H1 _ _ Ed S1.raise q (fun ds ρ3 H2 Hf2 vs q2 S2 h2 hl => ?_) (hE.up S1.up)
  exact hQ _ _ _ _ _ q2 (S2.base S1.up) (.cons (h1.same S2.up) h2) (congrArg (· + 1) hl)
abbrev eTup (ta : DF) : DE := fun ρ Q E => ta ρ (fun ds ρ1 => Q (.fz (.tuple ds)) ρ1) E
abbrev eLst (ta : DF) : DE := fun ρ Q E => ta ρ (fun ds ρ1 => Q (.ow (.l ds)) ρ1) E
theorem pd_tup {es : List Expr} {x1} {ta : DF} (ha : PFD X W es ta) (hz : es.length ≤ 1000000 := by decide) : PD X W (.Tuple es x1 pos) (eTup ta) := by
  obtain ⟨t1, p1, s1⟩ := ha
  refine ⟨_, pe_tup p1, ?_⟩
  intro B Hf ρ σ H Q Qd Ed S h hQ hE
  refine s1 B Hf ρ σ H _ _ Ed S h (fun ds ρ1 H1 Hf1 vs q1 S1 h1 hl => ?_) hE
  have z : vs.length ≤ sizeLine := by rw [sizeLine_eq]; omega
  refine ⟨z, fun p hp => hQ _ _ _ _ q1 ⟨upd Hf1 p (.tup vs), S1.alloc hp _, .tup (SqT.of upd_same) (h1.same (same_upd (S1.sub.free hp))) (by rw [← h1.length]; exact z)⟩⟩
theorem pd_lst {es : List Expr} {ta : DF} (ha : PFD X W es ta) (hz : es.length ≤ 1000000 := by decide) : PD X W (.List es pos) (eLst ta) := by
  obtain ⟨t1, p1, s1⟩ := ha
  refine ⟨_, pe_lst p1, ?_⟩
  intro B Hf ρ σ H Q Qd Ed S h hQ hE
  refine s1 B Hf ρ σ H _ _ Ed S h (fun ds ρ1 H1 Hf1 vs q1 S1 h1 hl => ?_) hE
  have z : vs.length ≤ sizeLine := by rw [sizeLine_eq]; omega
  exact ⟨z, fun p hp => hQ _ _ _ _ q1 ⟨Hf1, S1.allocL hp h1 (by rw [← h1.length]; exact z)⟩⟩
end
end DL
set_option Elab.async false
set_option linter.all false
set_option maxRecDepth 100000
set_option maxHeartbeats 1000000
/-! DLc: the operators and built-ins over data. -/
namespace DL
open PySem PySem.Spec PyProof.Rows L2
section
variable {X : Cx} {K : PySem.W.Frag}

theorem RepS.int {Hf H : Hp} {v : V} {i : Int} (h : RepS K Hf H v (.d (.int i))) : v = .int i := by
  have h : Rep K Hf v (.int i) := h
  cases h; rfl
theorem RepS.bool {Hf H : Hp} {v : V} {i : Bool} (h : RepS K Hf H v (.d (.bool i))) : v = .bl i := by
  have h : Rep K Hf v (.bool i) := h
  cases h; rfl
theorem RepS.str {Hf H : Hp} {v : V} {i : Str} (h : RepS K Hf H v (.d (.str i))) : v = .str i := by
  have h : Rep K Hf v (.str i) := h
  cases h; rfl
theorem RepS.non {Hf H : Hp} {v : V} (h : RepS K Hf H v (.d .none)) : v = .non := by
  have h : Rep K Hf v .none := h
  cases h; rfl
theorem RepS.tup {Hf H : Hp} {v : V} {ds : List D} (h : RepS K Hf H v (.d (.tuple ds))) : ∃ a vs, v = .ref a ∧ SqT K Hf a vs ∧ Reps K Hf vs ds ∧ ds.length ≤ sizeLine := by
  have q : Rep K Hf v (.tuple ds) := h
  clear h
  cases q with
  | tup h r z => exact ⟨_, _, rfl, h, r, z⟩
theorem ev_fz {B : Bs} {Hf H : Hp} {ρ : List Sl} {σ : L2.St} {v : V} {d : D} (S : SO K B Hf ρ σ H) (h : Rep K Hf v d) : EV K B ρ σ H (.fz d) v := ⟨Hf, S, h⟩

/-! ### whole numbers -/
/-- two ints in, under C, an int or a truth out -/
abbrev dI (C : Int → Int → Prop) (g : Int → Int → D) : DE2
  | .d (.int i), .d (.int j), Q => C i j ∧ Q (.fz (g i j))
  | _, _, _ => False
abbrev dI0 (g : Int → Int → D) : DE2
  | .d (.int i), .d (.int j), Q => Q (.fz (g i j))
  | _, _, _ => False
theorem ints_of {C : Int → Int → Prop} {g : Int → Int → D} {a b : SD} {Q : VR → Prop} (h : dI C g a b Q) : ∃ i j, a = .d (.int i) ∧ b = .d (.int j) ∧ C i j ∧ Q (.fz (g i j)) := by
  cases a with
  | sc _ => exact h.elim
  | d a =>
    cases a with
    | int i =>
      cases b with
      | sc _ => exact h.elim
      | d b =>
        cases b with
        | int j => exact ⟨i, j, rfl, rfl, h.1, h.2⟩
        | _ => exact h.elim
    | _ => exact h.elim
theorem ints_of0 {g : Int → Int → D} {a b : SD} {Q : VR → Prop} (h : dI0 g a b Q) : ∃ i j, a = .d (.int i) ∧ b = .d (.int j) ∧ Q (.fz (g i j)) := by
  cases a with
  | sc _ => exact h.elim
  | d a =>
    cases a with
    | int i =>
      cases b with
      | sc _ => exact h.elim
      | d b =>
        cases b with
        | int j => exact ⟨i, j, rfl, rfl, h⟩
        | _ => exact h.elim
    | _ => exact h.elim
theorem conn_I {C : Int → Int → Prop} {g : Int → Int → V} {g' : Int → Int → D} (hg : ∀ i j H, Rep K H (g i j) (g' i j)) : Conn K (rI C g) (dI C g') := by
  intro B Hf ρ σ H x y a b Q Qd S ra rb q k
  obtain ⟨i, j, rfl, rfl, hc, q⟩ := ints_of q
  exact ⟨i, j, ra.int, rb.int, hc, k _ _ _ q ⟨Hf, S, hg i j Hf⟩⟩
theorem conn_I0 {g : Int → Int → V} {g' : Int → Int → D} (hg : ∀ i j H, Rep K H (g i j) (g' i j)) : Conn K (rI0 g) (dI0 g') := by
  intro B Hf ρ σ H x y a b Q Qd S ra rb q k
  obtain ⟨i, j, rfl, rfl, q⟩ := ints_of0 q
  exact ⟨i, j, ra.int, rb.int, k _ _ _ q ⟨Hf, S, hg i j Hf⟩⟩
abbrev dSub : DE2 := dI0 fun i j => .int (i - j)
abbrev dMul : DE2 := dI CMulW fun i j => .int (i * j)
abbrev dDiv : DE2 := dI CDivW fun i j => .int (i / j)
abbrev dMod : DE2 := dI (fun _ j => 0 < j) fun i j => .int (i % j)
/-- i ** j: j not below 0, the power small -/
def CPowW (i j : Int) : Prop := 0 ≤ j ∧ (Builtin.Int.intBits i : Int) * j ≤ 2 ^ 27
abbrev dPow : DE2 := dI CPowW fun i j => .int (i ^ j.toNat)
abbrev dLt : DE2 := dI0 fun i j => .bool (decide (i < j))
abbrev dLe : DE2 := dI0 fun i j => .bool (decide (i ≤ j))
abbrev dGt : DE2 := dI0 fun i j => .bool (decide (j < i))
abbrev dGe : DE2 := dI0 fun i j => .bool (decide (j ≤ i))
theorem op_powW : OpR X (binaryOp .Pow) (rI CPowW fun i j => .int (i ^ j.toNat)) := opI fun _ _ _ _ _ _ _ hc q => pow_int hc.1 hc.2 q
theorem c_sub : Conn K (rI0 fun i j => .int (i - j)) dSub := conn_I0 fun _ _ _ => .int _
theorem c_mul : Conn K (rI CMulW fun i j => .int (i * j)) dMul := conn_I fun _ _ _ => .int _
theorem c_div : Conn K (rI CDivW fun i j => .int (i / j)) dDiv := conn_I fun _ _ _ => .int _
theorem c_mod : Conn K (rI (fun _ j => 0 < j) fun i j => .int (i % j)) dMod := conn_I fun _ _ _ => .int _
theorem c_pow : Conn K (rI CPowW fun i j => .int (i ^ j.toNat)) dPow := conn_I fun _ _ _ => .int _
theorem c_lt : Conn K (rI0 fun i j => .bl (decide (i < j))) dLt := conn_I0 fun _ _ _ => .bl _
theorem c_le : Conn K (rI0 fun i j => .bl (decide (i ≤ j))) dLe := conn_I0 fun _ _ _ => .bl _
theorem c_gt : Conn K (rI0 fun i j => .bl (decide (j < i))) dGt := conn_I0 fun _ _ _ => .bl _
theorem c_ge : Conn K (rI0 fun i j => .bl (decide (j ≤ i))) dGe := conn_I0 fun _ _ _ => .bl _

abbrev dNeg : DE1
  | .d (.int i), Q => Q (.fz (.int (-i)))
  | _, _ => False
theorem c_neg : Conn1 K (rU fun i => .int (-i)) dNeg := by
  intro B Hf ρ σ H x a Q Qd S ra q k
  cases a with
  | sc _ => exact q.elim
  | d a =>
    cases a with
    | int i => exact ⟨i, ra.int, k _ _ _ q ⟨Hf, S, .int _⟩⟩
    | _ => exact q.elim

/-! ### plus: ints, tuples, lists, texts -/
def rAddA (K : PySem.W.Frag) : R2 := fun x y H Q => rI0 (fun i j => .int (i + j)) x y H Q ∨ rCatA K x y H Q ∨ rCat x y H Q ∨ (∃ i j, x = .str i ∧ y = .str j ∧ i.length + j.length ≤ sizeLine ∧ Q (.str (i ++ j)) H)
abbrev dAdd : DE2
  | .d (.int i), .d (.int j), Q => Q (.fz (.int (i + j)))
  | .d (.tuple xs), .d (.tuple ys), Q => xs.length + ys.length ≤ sizeLine ∧ Q (.fz (.tuple (xs ++ ys)))
  | .d (.list xs), .d (.list ys), Q => xs.length + ys.length ≤ sizeLine ∧ Q (.ow (.l (xs ++ ys)))
  | .d (.str x), .d (.str y), Q => x.length + y.length ≤ sizeLine ∧ Q (.fz (.str (x ++ y)))
  | _, _, _ => False
theorem c_add : Conn K (rAddA K) dAdd := by
  intro B Hf ρ σ H x y a b Q Qd S ra rb q k
  cases a with
  | sc _ => exact q.elim
  | d a =>
    cases b with
    | sc _ => cases a <;> exact q.elim
    | d b =>
      cases a with
      | int i =>
        cases b with
        | int j => exact .inl ⟨i, j, ra.int, rb.int, k _ _ _ q ⟨Hf, S, .int _⟩⟩
        | _ => exact q.elim
      | str i =>
        cases b with
        | str j => exact .inr (.inr (.inr ⟨i, j, ra.str, rb.str, q.1, k _ _ _ q.2 ⟨Hf, S, .str _⟩⟩))
        | _ => exact q.elim
      | tuple xs =>
        cases b with
        | tuple ys =>
          obtain ⟨hz, q⟩ := q
          obtain ⟨p1, vs, rfl, h1, r1, z1⟩ := ra.tup
          obtain ⟨p2, us, rfl, h2, r2, z2⟩ := rb.tup
          have l1 := r1.length
          have l2 := r2.length
          refine .inr (.inl ⟨p1, p2, vs, us, rfl, rfl, sqT_same S.sub h1, sqT_same S.sub h2, by omega, fun e => ?_, fun e e2 => ?_, fun e e2 p hp => ?_⟩)
          · subst e
            cases r1
            exact k _ _ _ q ⟨Hf, S, .tup h2 r2 z2⟩
          · subst e2
            cases r2
            rw [List.append_nil] at q
            exact k _ _ _ q ⟨Hf, S, .tup h1 r1 z1⟩
          · exact k _ _ _ q ⟨_, S.alloc hp _, .tup (SqT.of upd_same) ((r1.append r2).same (same_upd (S.sub.free hp))) (by rw [List.length_append]; exact hz)⟩
        | _ => exact q.elim
      | list xs =>
        cases b with
        | list ys =>
          obtain ⟨hz, q⟩ := q
          obtain ⟨p1, vs, rfl, h1, r1, z1⟩ := ra
          obtain ⟨p2, us, rfl, h2, r2, z2⟩ := rb
          have l1 := r1.length
          have l2 := r2.length
          exact .inr (.inr (.inl ⟨p1, p2, vs, us, rfl, rfl, h1, h2, by omega, fun p hp => k _ _ _ q ⟨Hf, S.allocL hp (r1.append r2) (by rw [List.length_append]; exact hz)⟩⟩))
        | _ => exact q.elim
      | _ => exact q.elim
theorem op_addA : OpR X (binaryOp .Add) (rAddA X.K) := OpR.or op_add (OpR.or op_catA (OpR.or op_cat (by
  intro pins s σ H x y v u Q I rx ry h
  exact op_add_str pins s σ H x y v u Q I rx ry h)))

/-! ### is -/
abbrev isNoneD : D → Bool
  | .none => true
  | _ => false
abbrev dIsN (n : Bool) : DE2
  | .d d, .d .none, Q => Q (.fz (.bool (n.xor (isNoneD d))))
  | _, _, _ => False
theorem is_non {Hf H : Hp} {v : V} {d : D} (h : RepS K Hf H v (.d d)) : decide (v = .non) = isNoneD d := by
  cases d with
  | none => rw [h.non]; rfl
  | list ds => obtain ⟨a, vs, rfl, _⟩ := h; rfl
  | tuple ds => obtain ⟨a, vs, rfl, _⟩ := h.tup; rfl
  | bool b => rw [h.bool]; rfl
  | int i => rw [h.int]; rfl
  | str x => rw [h.str]; rfl
  | dict kvs =>
    have q : Rep K Hf v (.dict kvs) := h
    clear h
    cases q; rfl
theorem c_isN : Conn K (fun x y H Q => y = .non ∧ Q (.bl (decide (x = .non))) H) (dIsN false) := by
  intro B Hf ρ σ H x y a b Q Qd S ra rb q k
  cases a with
  | sc _ => exact q.elim
  | d a =>
    cases b with
    | sc _ => exact q.elim
    | d b =>
      cases b with
      | none =>
        refine ⟨rb.non, ?_⟩
        rw [is_non ra]
        refine k _ _ _ q ⟨Hf, S, ?_⟩
        rw [Bool.false_xor]
        exact .bl _
      | _ => exact q.elim
theorem c_notN : Conn K (fun x y H Q => y = .non ∧ Q (.bl (!decide (x = .non))) H) (dIsN true) := by
  intro B Hf ρ σ H x y a b Q Qd S ra rb q k
  cases a with
  | sc _ => exact q.elim
  | d a =>
    cases b with
    | sc _ => exact q.elim
    | d b =>
      cases b with
      | none =>
        refine ⟨rb.non, ?_⟩
        rw [is_non ra]
        refine k _ _ _ q ⟨Hf, S, ?_⟩
        rw [Bool.true_xor]
        exact .bl _
      | _ => exact q.elim
abbrev dIsB (n : Bool) : DE2
  | .d (.bool a), .d (.bool b), Q => Q (.fz (.bool (n.xor (a == b))))
  | _, _, _ => False
theorem c_isB : Conn K rIsB (dIsB false) := by
  intro B Hf ρ σ H x y a b Q Qd S ra rb q k
  cases a with
  | sc _ => exact q.elim
  | d a =>
    cases b with
    | sc _ => cases a <;> exact q.elim
    | d b =>
      cases a with
      | bool a =>
        cases b with
        | bool b =>
          refine ⟨a, b, ra.bool, rb.bool, k _ _ _ q ⟨Hf, S, ?_⟩⟩
          rw [Bool.false_xor, Bool.beq_eq_decide_eq]
          exact .bl _
        | _ => exact q.elim
      | _ => exact q.elim
theorem c_notB : Conn K rNotB (dIsB true) := by
  intro B Hf ρ σ H x y a b Q Qd S ra rb q k
  cases a with
  | sc _ => exact q.elim
  | d a =>
    cases b with
    | sc _ => cases a <;> exact q.elim
    | d b =>
      cases a with
      | bool a =>
        cases b with
        | bool b =>
          refine ⟨a, b, ra.bool, rb.bool, k _ _ _ q ⟨Hf, S, ?_⟩⟩
          rw [Bool.true_xor, Bool.beq_eq_decide_eq]
          exact .bl _
        | _ => exact q.elim
      | _ => exact q.elim

/-! ### == of data -/
mutual
theorem Rep.dp {H : Hp} : ∀ (d : D) (v : V), Rep K H v d → d.canLay0 = true → Dp K H v d
  | .none, _, h, _ => by cases h; exact .non
  | .bool b, _, h, _ => by cases h; exact .bl b
  | .int i, _, h, _ => by cases h; exact .int i
  | .str x, _, h, _ => by cases h; exact .str x
  | .list ds, _, h, c => by
    cases h with
    | lst h r z => exact .lst (SqL.of h) (Reps.dp ds _ r (by simpa [PyData.canLay0] using c))
  | .tuple ds, _, h, c => by
    cases h with
    | tup h r z => exact .tup h (Reps.dp ds _ r (by simpa [PyData.canLay0] using c))
  | .dict _, _, _, c => by simp [PyData.canLay0] at c
theorem Reps.dp {H : Hp} : ∀ (ds : List D) (vs : List V), Reps K H vs ds → PyData.canLayAll0 ds = true → DpAll K H vs ds
  | [], _, h, _ => by cases h; exact .nil
  | d :: ds, _, h, c => by
    cases h with
    | cons h r =>
      have c' : d.canLay0 = true ∧ PyData.canLayAll0 ds = true := by simpa [PyData.canLayAll0] using c
      exact .cons (Rep.dp d _ h c'.1) (Reps.dp ds _ r c'.2)
end
/-- ==: two ints at once; data of any depth -/
abbrev dEq (n : Bool) : DE2
  | .d a, .d b, Q => SeqAt.shaped a = true ∧ SeqAt.shaped b = true ∧ Q (.fz (.bool (n.xor (PyData.eqv a b))))
  | _, _, _ => False
theorem c_eq : Conn K (rEqD K) (dEq false) := by
  intro B Hf ρ σ H x y a b Q Qd S ra rb q k
  cases a with
  | sc _ => exact q.elim
  | d a =>
    cases b with
    | sc _ => exact q.elim
    | d b =>
      obtain ⟨s1, s2, q⟩ := q
      refine ⟨a, b, (ra.rep S.sub).dp _ _ (SeqAt.canLay_of_shaped s1), (rb.rep S.sub).dp _ _ (SeqAt.canLay_of_shaped s2), s1, s2, k _ _ _ q ⟨Hf, S, ?_⟩⟩
      rw [Bool.false_xor]
      exact .bl _
theorem c_ne : Conn K (rNeD K) (dEq true) := by
  intro B Hf ρ σ H x y a b Q Qd S ra rb q k
  cases a with
  | sc _ => exact q.elim
  | d a =>
    cases b with
    | sc _ => exact q.elim
    | d b =>
      obtain ⟨s1, s2, q⟩ := q
      refine ⟨a, b, (ra.rep S.sub).dp _ _ (SeqAt.canLay_of_shaped s1), (rb.rep S.sub).dp _ _ (SeqAt.canLay_of_shaped s2), s1, s2, k _ _ _ q ⟨Hf, S, ?_⟩⟩
      rw [Bool.true_xor]
      exact .bl _

/-! ### an item, a length -/
abbrev dIx : DE2
  | .d (.list ds), .d (.int i), Q => ∃ d, atI ds i = some d ∧ Q (.fz d)
  | .d (.tuple ds), .d (.int i), Q => ∃ d, atI ds i = some d ∧ Q (.fz d)
  | .sc ns, .d (.int i), Q => ∃ n, atI ns i = some n ∧ Q (.fz (.int n))
  | .d (.str x), .d (.int i), Q => x.length ≤ sizeLine ∧ ∃ c, atI x.cps.toList i = some c ∧ Q (.fz (.str ⟨#[c]⟩))
  | _, _, _ => False
theorem Reps.atI {H : Hp} {vs : List V} {ds : List D} {i : Int} {d : D} (r : Reps K H vs ds) (h : L2.atI ds i = some d) : ∃ v, L2.atI vs i = some v ∧ Rep K H v d := by
  unfold L2.atI at h ⊢
  rw [← r.length] at h
  cases e : ixN vs.length i with
  | none => rw [e] at h; cases h
  | some j =>
    rw [e] at h
    exact r.get' (i := j) h
theorem atI_map {α β : Type} (f : α → β) {l : List α} {i : Int} {x : α} (h : L2.atI l i = some x) : L2.atI (l.map f) i = some (f x) := by
  unfold L2.atI at h ⊢
  rw [List.length_map]
  cases e : ixN l.length i with
  | none => rw [e] at h; cases h
  | some j =>
    rw [e] at h
    show (l.map f)[j]? = some (f x)
    rw [List.getElem?_map, show l[j]? = some x from h]; rfl
theorem c_ix : Conn K (rIx K) dIx := by
  intro B Hf ρ σ H x y a b Q Qd S ra rb q k
  cases a with
  | sc ns =>
    cases b with
    | sc _ => exact q.elim
    | d b =>
      cases b with
      | int i =>
        obtain ⟨n, e, q⟩ := q
        obtain ⟨p, rfl, h⟩ := ra
        exact .inl ⟨p, _, i, .int n, rfl, rb.int, h, atI_map _ e, k _ _ _ q ⟨Hf, S, .int _⟩⟩
      | _ => exact q.elim
  | d a =>
    cases b with
    | sc _ => cases a <;> exact q.elim
    | d b =>
      cases a with
      | list ds =>
        cases b with
        | int i =>
          obtain ⟨d, e, q⟩ := q
          obtain ⟨p, vs, rfl, h, r, z⟩ := ra
          obtain ⟨v, e2, rv⟩ := r.atI e
          exact .inl ⟨p, vs, i, v, rfl, rb.int, SqL.of h, e2, k _ _ _ q ⟨Hf, S, rv⟩⟩
        | _ => exact q.elim
      | tuple ds =>
        cases b with
        | int i =>
          obtain ⟨d, e, q⟩ := q
          obtain ⟨p, vs, rfl, h, r, z⟩ := ra.tup
          obtain ⟨v, e2, rv⟩ := r.atI e
          exact .inr (.inl ⟨p, vs, i, v, rfl, rb.int, sqT_same S.sub h, e2, k _ _ _ q ⟨Hf, S, rv⟩⟩)
        | _ => exact q.elim
      | str x =>
        cases b with
        | int i =>
          obtain ⟨z, c, e, q⟩ := q
          exact .inr (.inr ⟨x, i, c, ra.str, rb.int, z, e, k _ _ _ q ⟨Hf, S, .str _⟩⟩)
        | _ => exact q.elim
      | _ => exact q.elim
abbrev dLen : DEn
  | [.d (.list ds)], Q => Q (.fz (.int ds.length))
  | [.d (.tuple ds)], Q => Q (.fz (.int ds.length))
  | [.sc ns], Q => Q (.fz (.int ns.length))
  | [.d (.str x)], Q => x.length ≤ sizeLine ∧ Q (.fz (.int x.length))
  | _, _ => False
theorem one_of {P : SD → (VR → Prop) → Prop} {Hf H : Hp} {xs : List V} {a : SD} (r : Paired (RepS K Hf H) xs [a]) : ∃ x, xs = [x] ∧ RepS K Hf H x a := by
  cases r with
  | cons h r => cases r; exact ⟨_, rfl, h⟩
theorem two_of {Hf H : Hp} {xs : List V} {a b : SD} (r : Paired (RepS K Hf H) xs [a, b]) : ∃ x y, xs = [x, y] ∧ RepS K Hf H x a ∧ RepS K Hf H y b := by
  cases r with
  | cons h r =>
    cases r with
    | cons h2 r => cases r; exact ⟨_, _, rfl, h, h2⟩
theorem c_len : ConnN K (fun xs H Q => ∃ x n, xs = [x] ∧ LenV K x H n ∧ Q (.int n) H) dLen := by
  intro B Hf ρ σ H xs as Q Qd S r q k
  cases as with
  | nil => exact q.elim
  | cons a as =>
    cases as with
    | cons _ _ => cases a with | sc _ => exact q.elim | d a => cases a <;> exact q.elim
    | nil =>
      obtain ⟨x, rfl, ra⟩ := one_of (P := fun _ _ => True) r
      cases a with
      | sc ns =>
        obtain ⟨p, rfl, h⟩ := ra
        exact ⟨_, ns.length, rfl, .inl ⟨_, h, by rw [List.length_map]⟩, k _ _ _ q ⟨Hf, S, .int _⟩⟩
      | d a =>
        cases a with
        | list ds =>
          obtain ⟨p, vs, rfl, h, r, z⟩ := ra
          exact ⟨_, ds.length, rfl, .inl ⟨_, SqL.of h, r.length.symm⟩, k _ _ _ q ⟨Hf, S, .int _⟩⟩
        | tuple ds =>
          obtain ⟨p, vs, rfl, h, r, z⟩ := ra.tup
          exact ⟨_, ds.length, rfl, .inr ⟨_, sqT_same S.sub h, r.length.symm⟩, k _ _ _ q ⟨Hf, S, .int _⟩⟩
        | str x =>
          have e := ra.str
          subst e
          exact ⟨_, x.length, rfl, ⟨q.1, rfl⟩, k _ _ _ q.2 ⟨Hf, S, .int _⟩⟩
        | _ => exact q.elim

/-! ### int, abs, max, min, all, any, sum -/
abbrev dInt : DEn
  | [.d (.int i)], Q => Q (.fz (.int i))
  | [.d (.bool b)], Q => Q (.fz (.int (if b then 1 else 0)))
  | _, _ => False
abbrev dAbs : DEn
  | [.d (.int i)], Q => Q (.fz (.int (if i < 0 then -i else i)))
  | _, _ => False
def intsOf : List D → Option (List Int)
  | [] => some []
  | .int i :: r => (intsOf r).map (i :: ·)
  | _ => none
theorem intsOf_eq : ∀ {ds : List D} {ns : List Int}, intsOf ds = some ns → ds = ns.map .int
  | [], ns, h => by cases h; rfl
  | .int i :: r, ns, h => by
    unfold intsOf at h
    cases e : intsOf r with
    | none => rw [e] at h; cases h
    | some l => rw [e] at h; cases h; rw [intsOf_eq e]; rfl
  | .none :: _, _, h => by cases h
  | .bool _ :: _, _, h => by cases h
  | .str _ :: _, _, h => by cases h
  | .list _ :: _, _, h => by cases h
  | .tuple _ :: _, _, h => by cases h
  | .dict _ :: _, _, h => by cases h
/-- two ints, or one list of ints -/
abbrev dMax : DEn
  | [.d (.int i), .d (.int j)], Q => Q (.fz (.int (max i j)))
  | [.d (.list ds)], Q => ∃ ns : List Int, ds = ns.map .int ∧ ns ≠ [] ∧ ∀ m, m ∈ ns → (∀ y, y ∈ ns → y ≤ m) → Q (.fz (.int m))
  | _, _ => False
abbrev dMin : DEn
  | [.d (.int i), .d (.int j)], Q => Q (.fz (.int (min i j)))
  | [.d (.list ds)], Q => ∃ ns : List Int, ds = ns.map .int ∧ ns ≠ [] ∧ ∀ m, m ∈ ns → (∀ y, y ∈ ns → m ≤ y) → Q (.fz (.int m))
  | _, _ => False
abbrev dSum : DEn
  | [.d (.list ds)], Q => ∃ ns : List Int, ds = ns.map .int ∧ Q (.fz (.int ns.sum))
  | _, _ => False
abbrev dAll : DEn
  | [.d (.list ds)], Q => ∃ bs : List Bool, ds = bs.map .bool ∧ Q (.fz (.bool (bs.all id)))
  | _, _ => False
abbrev dAny : DEn
  | [.d (.list ds)], Q => ∃ bs : List Bool, ds = bs.map .bool ∧ Q (.fz (.bool (bs.any id)))
  | _, _ => False
theorem c_int : ConnN K (fun xs H Q => (∃ i, xs = [.int i] ∧ Q (.int i) H) ∨ ∃ k, xs = [.bl k] ∧ Q (.int (if k then 1 else 0)) H) dInt := by
  intro B Hf ρ σ H xs as Q Qd S r q k
  cases as with
  | nil => exact q.elim
  | cons a as =>
    cases as with
    | cons _ _ => cases a with | sc _ => exact q.elim | d a => cases a <;> exact q.elim
    | nil =>
      obtain ⟨x, rfl, ra⟩ := one_of (P := fun _ _ => True) r
      cases a with
      | sc ns => exact q.elim
      | d a =>
        cases a with
        | int i => exact .inl ⟨i, by rw [ra.int], k _ _ _ q ⟨Hf, S, .int _⟩⟩
        | bool i => exact .inr ⟨i, by rw [ra.bool], k _ _ _ q ⟨Hf, S, .int _⟩⟩
        | _ => exact q.elim
theorem c_abs : ConnN K (fun xs H Q => ∃ i, xs = [.int i] ∧ Q (.int (if i < 0 then -i else i)) H) dAbs := by
  intro B Hf ρ σ H xs as Q Qd S r q k
  cases as with
  | nil => exact q.elim
  | cons a as =>
    cases as with
    | cons _ _ => cases a with | sc _ => exact q.elim | d a => cases a <;> exact q.elim
    | nil =>
      obtain ⟨x, rfl, ra⟩ := one_of (P := fun _ _ => True) r
      cases a with
      | sc ns => exact q.elim
      | d a =>
        cases a with
        | int i => exact ⟨i, by rw [ra.int], k _ _ _ q ⟨Hf, S, .int _⟩⟩
        | _ => exact q.elim
theorem RepS.intsL {Hf H : Hp} {v : V} {ns : List Int} (h : RepS K Hf H v (.d (.list (ns.map .int)))) : ∃ a, v = .ref a ∧ SqL K H a (ns.map V.int) := by
  obtain ⟨a, vs, rfl, h, r, z⟩ := h
  rw [r.ints] at h
  exact ⟨a, rfl, SqL.of h⟩
theorem RepS.boolsL {Hf H : Hp} {v : V} {ns : List Bool} (h : RepS K Hf H v (.d (.list (ns.map .bool)))) : ∃ a, v = .ref a ∧ SqL K H a (ns.map V.bl) := by
  obtain ⟨a, vs, rfl, h, r, z⟩ := h
  rw [r.bools] at h
  exact ⟨a, rfl, SqL.of h⟩
def rMaxA (K : PySem.W.Frag) : List V → Hp → VK → Prop := fun xs H Q => (∃ i j, xs = [.int i, .int j] ∧ Q (.int (if j > i then j else i)) H) ∨ rMax K xs H Q
def rMinA (K : PySem.W.Frag) : List V → Hp → VK → Prop := fun xs H Q => (∃ i j, xs = [.int i, .int j] ∧ Q (.int (if j < i then j else i)) H) ∨ rMin K xs H Q
theorem cr_maxA (hc : X.calm = true) : CallR X (.builtin "max") (rMaxA X.K) := CallR.or (call_max2 hc) (cr_max hc)
theorem cr_minA (hc : X.calm = true) : CallR X (.builtin "min") (rMinA X.K) := CallR.or (call_min2 hc) (cr_min hc)
theorem c_max : ConnN K (rMaxA K) dMax := by
  intro B Hf ρ σ H xs as Q Qd S r q k
  match as, r, q with
  | [.d (.int i), .d (.int j)], r, q =>
    obtain ⟨x, y, rfl, r1, r2⟩ := two_of r
    refine .inl ⟨i, j, by rw [r1.int, r2.int], k _ _ _ q ⟨Hf, S, ?_⟩⟩
    have e : max i j = if j > i then j else i := by rw [Int.max_def]; split <;> split <;> omega
    rw [e]; exact .int _
  | [.d (.list ds)], r, q =>
    obtain ⟨x, rfl, ra⟩ := one_of (P := fun _ _ => True) r
    obtain ⟨ns, rfl, hn, q⟩ := q
    obtain ⟨a, rfl, h⟩ := ra.intsL
    exact .inr ⟨a, ns, rfl, h, List.length_pos_iff.mpr hn, fun m h1 h2 => k _ _ _ (q m h1 h2) ⟨Hf, S, .int _⟩⟩
theorem c_min : ConnN K (rMinA K) dMin := by
  intro B Hf ρ σ H xs as Q Qd S r q k
  match as, r, q with
  | [.d (.int i), .d (.int j)], r, q =>
    obtain ⟨x, y, rfl, r1, r2⟩ := two_of r
    refine .inl ⟨i, j, by rw [r1.int, r2.int], k _ _ _ q ⟨Hf, S, ?_⟩⟩
    have e : min i j = if j < i then j else i := by rw [Int.min_def]; split <;> split <;> omega
    rw [e]; exact .int _
  | [.d (.list ds)], r, q =>
    obtain ⟨x, rfl, ra⟩ := one_of (P := fun _ _ => True) r
    obtain ⟨ns, rfl, hn, q⟩ := q
    obtain ⟨a, rfl, h⟩ := ra.intsL
    exact .inr ⟨a, ns, rfl, h, List.length_pos_iff.mpr hn, fun m h1 h2 => k _ _ _ (q m h1 h2) ⟨Hf, S, .int _⟩⟩
theorem c_sum : ConnN K (rSum K) dSum := by
  intro B Hf ρ σ H xs as Q Qd S r q k
  match as, r, q with
  | [.d (.list ds)], r, q =>
    obtain ⟨x, rfl, ra⟩ := one_of (P := fun _ _ => True) r
    obtain ⟨ns, rfl, q⟩ := q
    obtain ⟨a, rfl, h⟩ := ra.intsL
    exact ⟨a, ns, rfl, h, k _ _ _ q ⟨Hf, S, .int _⟩⟩
theorem c_all : ConnN K (rAll K) dAll := by
  intro B Hf ρ σ H xs as Q Qd S r q k
  match as, r, q with
  | [.d (.list ds)], r, q =>
    obtain ⟨x, rfl, ra⟩ := one_of (P := fun _ _ => True) r
    obtain ⟨ns, rfl, q⟩ := q
    obtain ⟨a, rfl, h⟩ := ra.boolsL
    exact ⟨a, ns, rfl, h, k _ _ _ q ⟨Hf, S, .bl _⟩⟩
theorem c_any : ConnN K (rAny K) dAny := by
  intro B Hf ρ σ H xs as Q Qd S r q k
  match as, r, q with
  | [.d (.list ds)], r, q =>
    obtain ⟨x, rfl, ra⟩ := one_of (P := fun _ _ => True) r
    obtain ⟨ns, rfl, q⟩ := q
    obtain ⟨a, rfl, h⟩ := ra.boolsL
    exact ⟨a, ns, rfl, h, k _ _ _ q ⟨Hf, S, .bl _⟩⟩

/-! ### list(x), tuple(x) -/
abbrev dList : DEn
  | [.d (.list ds)], Q => Q (.ow (.l ds))
  | [.d (.tuple ds)], Q => Q (.ow (.l ds))
  | _, _ => False
abbrev dTuple : DEn
  | [.d (.list ds)], Q => Q (.fz (.tuple ds))
  | [.d (.tuple ds)], Q => Q (.fz (.tuple ds))
  | _, _ => False
theorem c_list : ConnN K (fun xs H Q => ∃ p ys, xs = [.ref p] ∧ (SqL K H p ys ∨ SqT K H p ys) ∧ ∀ l, H l = none → Q (.ref l) (upd H l (.lst ys))) dList := by
  intro B Hf ρ σ H xs as Q Qd S r q k
  match as, r, q with
  | [.d (.list ds)], r, q =>
    obtain ⟨x, rfl, ra⟩ := one_of (P := fun _ _ => True) r
    obtain ⟨p, vs, rfl, h, r, z⟩ := ra
    exact ⟨p, vs, rfl, .inl (SqL.of h), fun l hl => k _ _ _ q ⟨Hf, S.allocL hl r z⟩⟩
  | [.d (.tuple ds)], r, q =>
    obtain ⟨x, rfl, ra⟩ := one_of (P := fun _ _ => True) r
    obtain ⟨p, vs, rfl, h, r, z⟩ := ra.tup
    exact ⟨p, vs, rfl, .inr (sqT_same S.sub h), fun l hl => k _ _ _ q ⟨Hf, S.allocL hl r z⟩⟩
theorem c_tuple : ConnN K (fun xs H Q => ∃ p ys, xs = [.ref p] ∧ ((SqL K H p ys ∧ ∀ l, H l = none → Q (.ref l) (upd H l (.tup ys))) ∨ (SqT K H p ys ∧ Q (.ref p) H))) dTuple := by
  intro B Hf ρ σ H xs as Q Qd S r q k
  match as, r, q with
  | [.d (.list ds)], r, q =>
    obtain ⟨x, rfl, ra⟩ := one_of (P := fun _ _ => True) r
    obtain ⟨p, vs, rfl, h, r, z⟩ := ra
    exact ⟨p, vs, rfl, .inl ⟨SqL.of h, fun l hl => k _ _ _ q ⟨_, S.alloc hl _, .tup (SqT.of upd_same) (r.same (same_upd (S.sub.free hl))) z⟩⟩⟩
  | [.d (.tuple ds)], r, q =>
    obtain ⟨x, rfl, ra⟩ := one_of (P := fun _ _ => True) r
    obtain ⟨p, vs, rfl, h, r, z⟩ := ra.tup
    exact ⟨p, vs, rfl, .inr ⟨sqT_same S.sub h, k _ _ _ q ⟨Hf, S, .tup h r z⟩⟩⟩
end
end DL
set_option Elab.async false
set_option linter.all false
set_option maxRecDepth 100000
set_option maxHeartbeats 1000000
/-! DLd: targets, statements, loops, comprehensions over data. -/
namespace DL
open PySem PySem.Spec PyProof.Rows L2

structure DEnds where
  nx : List Sl → Prop
  rt : VR → List Sl → Prop
  bk : List Sl → Prop
  ct : List Sl → Prop
  ex : XD
abbrev DS := DEnds → List Sl → Prop
structure LiftOk (K : PySem.W.Frag) (B : Bs) (W : WX) (D : DEnds) (D' : Ends) : Prop where
  nx : ∀ ρ σ H Hf, D.nx ρ → SO K B Hf ρ σ H → D'.nx σ H
  rt : ∀ r ρ σ H v, D.rt r ρ → EV K B ρ σ H r v → D'.rt v H
  bk : ∀ ρ σ H Hf, D.bk ρ → SO K B Hf ρ σ H → D'.bk σ H
  ct : ∀ ρ σ H Hf, D.ct ρ → SO K B Hf ρ σ H → D'.ct σ H
  ex : XL K B W D.ex
def SemS (K : PySem.W.Frag) (W : WX) (ts : TS) (t : DS) : Prop := ∀ B Hf ρ σ H (D : DEnds) (D' : Ends), SO K B Hf ρ σ H → LiftOk K B W D D' → t D ρ → ts D' σ H
structure PSD (X : Cx) (W : WX) (st : Stmt) (t : DS) : Prop where
  ex : ∃ ts, PS X st ts ∧ SemS X.K W ts t
structure PBD (X : Cx) (W : WX) (st : List Stmt) (t : DS) : Prop where
  ex : ∃ ts, PSs X st ts ∧ SemS X.K W ts t
theorem EV.base {K : PySem.W.Frag} {B : Bs} {Hf H : Hp} {ρ : List Sl} {σ : L2.St} {r : VR} {v : V} (h : EV K (B.up Hf) ρ σ H r v) (S0 : Same B.hf Hf) : EV K B ρ σ H r v := by
  cases r with
  | fz d => obtain ⟨Hf', S, q⟩ := h; exact ⟨Hf', S.base S0, q⟩
  | ow c => obtain ⟨Hf', S⟩ := h; exact ⟨Hf', S.base S0⟩
  | bw i => obtain ⟨⟨Hf', S⟩, e⟩ := h; exact ⟨⟨Hf', S.base S0⟩, e⟩
  | sc ns => obtain ⟨Hf', a, S, q⟩ := h; exact ⟨Hf', a, S.base S0, q⟩
theorem LiftOk.up {K : PySem.W.Frag} {B : Bs} {W : WX} {D : DEnds} {D' : Ends} {Hf : Hp} (L : LiftOk K B W D D') (S : Same B.hf Hf) : LiftOk K (B.up Hf) W D D' :=
  ⟨fun ρ σ H Hf' q S' => L.nx ρ σ H Hf' q (S'.base S), fun r ρ σ H v q e => L.rt r ρ σ H v q (e.base S), fun ρ σ H Hf' q S' => L.bk ρ σ H Hf' q (S'.base S), fun ρ σ H Hf' q S' => L.ct ρ σ H Hf' q (S'.base S), L.ex.up S⟩

section
variable {X : Cx} {W : WX} {pos : Pos}

/-! ### slots are set -/
theorem SO.setFz {K : PySem.W.Frag} {B : Bs} {Hf H : Hp} {ρ : List Sl} {σ : L2.St} (S : SO K B Hf ρ σ H) (i : Nat) {s : Sl} {v : V} (h : SlO K Hf H s (some v) []) : SO K B Hf (setS ρ i s) (σ.set i (some v)) H := by
  rw [setS_eq]
  by_cases lt : i < ρ.length
  · have e : ρ[i]? = some ρ[i] := by simp [lt]
    have S1 := S.nilSl e
    have S2 : SO K B Hf (s :: ρ.set i .nil) (some v :: σ) H := by
      obtain ⟨fp, s1, s2, s3⟩ := S1.sl
      exact ⟨S1.up, S1.sub, S1.fr, fp, ⟨some v, σ, [], fp, rfl, rfl, h, s1⟩, s2, s3⟩
    have S3 := S2.putSl (i := i) (by rw [List.getElem?_set_self lt])
    rw [List.set_set] at S3
    exact S3
  · have l2 : ¬ i < σ.length := by rw [S.len]; exact lt
    rw [List.set_eq_of_length_le (by omega), List.set_eq_of_length_le (by omega)]
    exact S
theorem SO.setOw {K : PySem.W.Frag} {B : Bs} {Hf H : Hp} {ρ : List Sl} {σ : L2.St} {s : Sl} {v : Option V} (S : SO K B Hf (s :: ρ) (v :: σ) H) (i : Nat) : SO K B Hf (setS ρ i s) (σ.set i v) H := by
  rw [setS_eq]
  have ll : σ.length = ρ.length := S.drop.len
  by_cases lt : i < ρ.length
  · have e : (s :: ρ)[i + 1]? = some ρ[i] := by simp [lt]
    have S1 := S.nilSl e
    have S1 : SO K B Hf (s :: ρ.set i .nil) (v :: σ) H := S1
    have S3 := S1.putSl (i := i) (by rw [List.getElem?_set_self lt])
    rw [List.set_set] at S3
    exact S3
  · rw [List.set_eq_of_length_le (by omega), List.set_eq_of_length_le (by omega)]
    exact S.drop
theorem SO.setNone {K : PySem.W.Frag} {B : Bs} {Hf H : Hp} {ρ : List Sl} {σ : L2.St} (S : SO K B Hf ρ σ H) (i : Nat) : SO K B Hf (setS ρ i .nil) (σ.set i none) H := by
  rw [setS_eq]
  by_cases lt : i < ρ.length
  · have e : ρ[i]? = some ρ[i] := by simp [lt]
    have S1 := S.nilSl e
    have S2 : SO K B Hf (.nil :: ρ.set i .nil) (none :: σ) H := by
      obtain ⟨fp, s1, s2, s3⟩ := S1.sl
      exact ⟨S1.up, S1.sub, S1.fr, fp, ⟨none, σ, [], fp, rfl, rfl, rfl, s1⟩, s2, s3⟩
    have S3 := S2.putSl (i := i) (by rw [List.getElem?_set_self lt])
    rw [List.set_set] at S3
    exact S3
  · have l2 : ¬ i < σ.length := by rw [S.len]; exact lt
    rw [List.set_eq_of_length_le (by omega), List.set_eq_of_length_le (by omega)]
    exact S
theorem SO.setNilD {K : PySem.W.Frag} {B : Bs} {Hf H : Hp} {ρ : List Sl} {σ : L2.St} (S : SO K B Hf ρ σ H) (i : Nat) : SO K B Hf (setS ρ i .nil) σ H := by
  rw [setS_eq]
  by_cases lt : i < ρ.length
  · exact S.nilSl (s := ρ[i]) (by simp [lt])
  · rw [List.set_eq_of_length_le (by omega)]
    exact S
/-- a value is stored into a slot -/
abbrev asg (i : Nat) (r : VR) (ρ : List Sl) (Q : List Sl → Prop) : Prop := match r with
  | .fz d => Q (setS ρ i (.fz d))
  | .ow c => Q (setS ρ i (.ow c))
  | .sc ns => Q (setS ρ i (.sc ns))
  | .bw j => frz (.bw j) ρ fun d ρ' => Q (setS ρ' i (.fz d))
theorem EV.asg {K : PySem.W.Frag} {B : Bs} {H : Hp} {ρ : List Sl} {σ : L2.St} {r : VR} {v : V} {i : Nat} {Q : List Sl → Prop} (h : EV K B ρ σ H r v) (q : asg i r ρ Q) : ∃ Hf ρ', SO K B Hf ρ' (σ.set i (some v)) H ∧ Q ρ' := by
  cases r with
  | fz d => obtain ⟨Hf, S, p⟩ := h; exact ⟨Hf, _, S.setFz i (s := .fz d) ⟨rfl, v, rfl, p⟩, q⟩
  | ow c => obtain ⟨Hf, S⟩ := h; exact ⟨Hf, _, S.setOw i, q⟩
  | sc ns => obtain ⟨Hf, a, S, e, p⟩ := h; subst e; exact ⟨Hf, _, S.setFz i (s := .sc ns) ⟨rfl, a, rfl, p⟩, q⟩
  | bw j =>
    obtain ⟨Hf, d, ρ', S, p, q⟩ := h.frz (Q := fun d ρ' => Q (setS ρ' i (.fz d))) q
    exact ⟨Hf, _, S.setFz i (s := .fz d) ⟨rfl, v, rfl, p⟩, q⟩

/-! ### targets -/
abbrev DG := D → List Sl → (List Sl → Prop) → Prop
abbrev DGs := List D → List Sl → (List Sl → Prop) → Prop
def SemG (K : PySem.W.Frag) (g : TG) (t : DG) (ix : List Nat) : Prop := ∀ B Hf ρ σ H v d (Q : L2.St → Hp → Prop) Qd, SO K B Hf ρ σ H → Rep K Hf v d → t d ρ Qd → (∀ ρ' σ', Qd ρ' → SO K B Hf ρ' σ' H → (∀ vs : List Nat, (∀ i ∈ ix, i ∈ vs) → wipe σ' vs = wipe σ vs) → Q σ' H) → g v σ H Q
structure PGD (X : Cx) (tg : Expr) (t : DG) (ix : List Nat) : Prop where
  ex : ∃ g, PG X tg g ∧ SemG X.K g t ix
def SemGs (K : PySem.W.Frag) (g : TGs) (t : DGs) (ix : List Nat) : Prop := ∀ B Hf ρ σ H vs ds (Q : L2.St → Hp → Prop) Qd, SO K B Hf ρ σ H → Reps K Hf vs ds → t ds ρ Qd → (∀ ρ' σ', Qd ρ' → SO K B Hf ρ' σ' H → (∀ vs : List Nat, (∀ i ∈ ix, i ∈ vs) → wipe σ' vs = wipe σ vs) → Q σ' H) → g vs σ H Q
structure PGsD (X : Cx) (tg : List Expr) (t : DGs) (ix : List Nat) : Prop where
  ex : ∃ g, PGs X tg g ∧ SemGs X.K g t ix
theorem wipe_set_in {σ : L2.St} {i : Nat} {v : Option V} : ∀ {vs : List Nat}, i ∈ vs → wipe (σ.set i v) vs = wipe σ vs
  | [], h => by simp at h
  | w :: ws, h => by
    show (wipe (σ.set i v) ws).set w none = (wipe σ ws).set w none
    by_cases e : i ∈ ws
    · rw [wipe_set_in e]
    · have hw : i = w := by
        rcases List.mem_cons.mp h with h | h
        · exact h
        · exact absurd h e
      subst hw
      have c : ∀ (us : List Nat), i ∉ us → wipe (σ.set i v) us = (wipe σ us).set i v := by
        intro us
        induction us with
        | nil => intro _; rfl
        | cons u us ih =>
          intro hn
          have h1 : i ≠ u := fun z => hn (by simp [z])
          show (wipe (σ.set i v) us).set u none = ((wipe σ us).set u none).set i v
          rw [ih (fun z => hn (List.mem_cons_of_mem _ z)), List.set_comm _ _ h1]
      rw [c ws e, List.set_set]
abbrev gN (i : Nat) : DG := fun d ρ Q => Q (setS ρ i (.fz d))
theorem pgd_name {i : Nat} {x : Str} (hN : X.N.Nodup) (hi : X.N[i]? = some x) (hx : Loc X.env.scope x) (hf : X.fn x = true ∨ X.env.scope.names.lookup x = some .local := by first | exact .inl rfl | exact .inr rfl | assumption) : PGD X (.Name x pos) (gN i) [i] := by
  refine ⟨_, pg_name hN hi hx hf, ?_⟩
  intro B Hf ρ σ H v d Q Qd S r h k
  exact k _ _ h (S.setFz i (s := .fz d) ⟨rfl, v, rfl, r⟩) fun vs hv => wipe_set_in (hv i (by simp))
abbrev gsNil : DGs := fun ds ρ Q => match ds with | [] => Q ρ | _ :: _ => False
abbrev gsCons (t : DG) (u : DGs) : DGs := fun ds ρ Q => match ds with | [] => False | d :: r => t d ρ fun ρ' => u r ρ' Q
theorem pgsd_nil : PGsD X [] gsNil [] := by
  refine ⟨_, pgs_nil, ?_⟩
  intro B Hf ρ σ H vs ds Q Qd S r h k
  cases r with
  | nil => exact ⟨rfl, k _ _ h S fun _ _ => rfl⟩
  | cons _ _ => exact h.elim
theorem pgsd_cons {e : Expr} {es : List Expr} {t : DG} {u : DGs} {i1 i2 : List Nat} (h1 : PGD X e t i1) (h2 : PGsD X es u i2)
    (hs : (assignEach (e :: es) X.env).map (·.2) = assign e X.env :: (assignEach es X.env).map (·.2) := by rfl) : PGsD X (e :: es) (gsCons t u) (i1 ++ i2) := by
  obtain ⟨g, p, s⟩ := h1
  obtain ⟨g2, p2, s2⟩ := h2
  refine ⟨_, pgs_cons p p2 hs, ?_⟩
  intro B Hf ρ σ H vs ds Q Qd S r h k
  cases r with
  | nil => exact h.elim
  | @cons v vs d ds rv rs =>
    refine ⟨v, vs, rfl, ?_⟩
    refine s B Hf ρ σ H v d _ _ S rv h fun ρ1 σ1 q1 S1 w1 => ?_
    refine s2 B Hf ρ1 σ1 H vs ds _ _ S1 rs q1 fun ρ2 σ2 q2 S2 w2 => ?_
    exact k _ _ q2 S2 fun us hu => (w2 us fun i hi => hu i (List.mem_append_right _ hi)).trans (w1 us fun i hi => hu i (List.mem_append_left _ hi))
abbrev gT (t : DGs) : DG := fun d ρ Q => match d with | .tuple ds => t ds ρ Q | _ => False
theorem gs_len {K : PySem.W.Frag} : True := trivial
theorem pgd_tup {es : List Expr} {k : Nat} {t : DGs} {ix : List Nat} {n : Nat} (hc : X.calm = true) (h : PGsD X es t ix) (hl : ∀ ds ρ Q, t ds ρ Q → ds.length = n)
    (hn : (assignEach es X.env).length = n := by rfl) (hst : (assignEach es X.env).findIdx? (·.1) = none := by rfl) : PGD X (.Tuple es k pos) (gT t) ix := by
  obtain ⟨g, p, s⟩ := h
  refine ⟨_, pg_tup hc p hn hst, ?_⟩
  intro B Hf ρ σ H v d Q Qd S r h k
  cases r with
  | tup hs rs z =>
    rename_i a xs ds
    exact ⟨a, xs, rfl, sqT_same S.sub hs, by rw [rs.length]; exact hl _ _ _ h, s B Hf ρ σ H xs ds Q Qd S rs h k⟩
  | _ => exact h.elim
theorem gs_len0 (ds : List D) (ρ : List Sl) (Q : List Sl → Prop) (h : gsNil ds ρ Q) : ds.length = 0 := by
  cases ds with
  | nil => rfl
  | cons _ _ => exact h.elim
theorem gs_lenS {u : DGs} {n : Nat} {i : Nat} (hu : ∀ ds ρ Q, u ds ρ Q → ds.length = n) (ds : List D) (ρ : List Sl) (Q : List Sl → Prop) (h : gsCons (gN i) u ds ρ Q) : ds.length = n + 1 := by
  cases ds with
  | nil => exact h.elim
  | cons d r => exact congrArg (· + 1) (hu _ _ _ h)
theorem gs_lenT {u v : DGs} {n : Nat} (hu : ∀ ds ρ Q, u ds ρ Q → ds.length = n) (ds : List D) (ρ : List Sl) (Q : List Sl → Prop) (h : gsCons (gT v) u ds ρ Q) : v = v → (∀ es ρ Q, v es ρ Q → ∃ ρ', Q ρ') → ds.length = n + 1 := by
  intro _ hv
  cases ds with
  | nil => exact h.elim
  | cons d r =>
    cases d with
    | tuple es =>
      obtain ⟨ρ', q⟩ := hv _ _ _ h
      exact congrArg (· + 1) (hu _ _ _ q)
    | _ => exact h.elim

/-! ### statements -/
abbrev sNext : DS := fun D ρ => D.nx ρ
abbrev sSeq (t u : DS) : DS := fun D ρ => t { D with nx := u D } ρ
theorem pbd_nil : PBD X W [] sNext := ⟨_, pss_nil, fun B Hf ρ σ H D D' S L h => L.nx _ _ _ _ h S⟩
theorem pbd_cons {st : Stmt} {rest : List Stmt} {t u : DS} (h1 : PSD X W st t) (h2 : PBD X W rest u) : PBD X W (st :: rest) (sSeq t u) := by
  obtain ⟨t1, p1, s1⟩ := h1
  obtain ⟨t2, p2, s2⟩ := h2
  refine ⟨_, pss_cons p1 p2, ?_⟩
  intro B Hf ρ σ H D D' S L h
  exact s1 B Hf ρ σ H { D with nx := u D } { D' with nx := t2 D' } S ⟨fun ρ σ H Hf q S => s2 B Hf ρ σ H D D' S L q, L.rt, L.bk, L.ct, L.ex⟩ h
theorem pbd_one {st : Stmt} {t : DS} (h1 : PSD X W st t) : PBD X W [st] t := let ⟨_, p, s⟩ := h1; ⟨_, pss_one p, s⟩
theorem psd_pass : PSD X W (.Pass pos) sNext := ⟨_, ps_pass, fun B Hf ρ σ H D D' S L h => L.nx _ _ _ _ h S⟩
abbrev sBreak : DS := fun D ρ => D.bk ρ
abbrev sCont : DS := fun D ρ => D.ct ρ
theorem psd_break : PSD X W (.Break pos) sBreak := ⟨_, ps_break, fun B Hf ρ σ H D D' S L h => L.bk _ _ _ _ h S⟩
theorem psd_continue : PSD X W (.Continue pos) sCont := ⟨_, ps_continue, fun B Hf ρ σ H D D' S L h => L.ct _ _ _ _ h S⟩
abbrev sRet (te : DE) : DS := fun D ρ => te ρ D.rt D.ex
theorem psd_ret {e : Expr} {te : DE} (he : PD X W e te) : PSD X W (.Return (some e) pos) (sRet te) := by
  obtain ⟨t, p, s⟩ := he
  refine ⟨_, ps_ret p, ?_⟩
  intro B Hf ρ σ H D D' S L h
  exact s B Hf ρ σ H _ _ _ S h (fun r ρ' H' v q e => L.rt _ _ _ _ _ q e) L.ex
abbrev sRetN : DS := fun D ρ => D.rt (.fz .none) ρ
theorem psd_retN : PSD X W (.Return none pos) sRetN := ⟨_, ps_retN, fun B Hf ρ σ H D D' S L h => L.rt _ _ _ _ _ h ⟨Hf, S, .non⟩⟩
abbrev sDrop (te : DE) : DS := fun D ρ => te ρ (fun _ ρ1 => D.nx ρ1) D.ex
theorem EV.so {K : PySem.W.Frag} {B : Bs} {H : Hp} {ρ : List Sl} {σ : L2.St} {r : VR} {v : V} (h : EV K B ρ σ H r v) : ∃ Hf, SO K B Hf ρ σ H := let ⟨Hf, S, _⟩ := h.settle; ⟨Hf, S⟩
theorem psd_expr {e : Expr} {te : DE} (he : PD X W e te) (hs : swapsWith e none pos.line X.env = pure false := by rfl) : PSD X W (.Expr e pos) (sDrop te) := by
  obtain ⟨t, p, s⟩ := he
  refine ⟨_, ps_expr p hs, ?_⟩
  intro B Hf ρ σ H D D' S L h
  exact s B Hf ρ σ H _ _ _ S h (fun r ρ' H' v q e => let ⟨Hf', S'⟩ := e.so; L.nx _ _ _ _ q S') L.ex
abbrev sIf (c : DT) (t u : DS) : DS := fun D ρ => c ρ (fun b ρ1 => if b = true then t D ρ1 else u D ρ1) D.ex
theorem psd_if {c : Expr} {a b : List Stmt} {tc : DT} {t u : DS} (hc : PTD X W c tc) (ha : PBD X W a t) (hb : PBD X W b u) : PSD X W (.If c a b pos) (sIf tc t u) := by
  obtain ⟨t1, p1, s1⟩ := hc
  obtain ⟨t2, p2, s2⟩ := ha
  obtain ⟨t3, p3, s3⟩ := hb
  refine ⟨_, ps_if p1 p2 p3, ?_⟩
  intro B Hf ρ σ H D D' S L h
  refine s1 B Hf ρ σ H _ _ _ S h (fun b ρ' H' Hf' q S' => ?_) L.ex
  cases b with
  | true => exact s2 B Hf' ρ' σ H' D D' S' L q
  | false => exact s3 B Hf' ρ' σ H' D D' S' L q
abbrev sSet (i : Nat) (te : DE) : DS := fun D ρ => te ρ (fun r ρ1 => asg i r ρ1 D.nx) D.ex
theorem sem_set {i : Nat} {te : TE} {t : DE} (s : Sem1 X.K W te t) : SemS X.K W (tAsg te (gName i)) (sSet i t) := by
  intro B Hf ρ σ H D D' S L h
  refine s B Hf ρ σ H _ _ _ S h (fun r ρ' H' v q e => ?_) L.ex
  obtain ⟨Hf', ρ2, S2, q2⟩ := e.asg q
  exact L.nx _ _ _ _ q2 S2
theorem psd_set (i : Nat) {x : Str} {e : Expr} {te : DE} {pos' : Pos} (hN : X.N.Nodup) (he : PD X W e te) (hi : X.N[i]? = some x := by rfl) (hx : Loc X.env.scope x := by first | exact Or.inl rfl | exact Or.inr rfl)
    (hs : swapsWith e (some (.Name x pos')) pos.line X.env = pure false := by rfl) (hf : X.fn x = true ∨ X.env.scope.names.lookup x = some .local := by first | exact .inl rfl | exact .inr rfl | assumption) :
    PSD X W (.Assign [.Name x pos'] e pos) (sSet i te) := by
  obtain ⟨t, p, s⟩ := he
  exact ⟨_, ps_set hN hi hx p hs hf, sem_set s⟩
/-- target = value, the value kept -/
abbrev sAsg (te : DE) (g : DG) : DS := fun D ρ => te ρ (fun r ρ1 => frz r ρ1 fun d ρ2 => g d ρ2 D.nx) D.ex
theorem psd_asg {tg e : Expr} {te : DE} {g : DG} {ix : List Nat} (he : PD X W e te) (hg : PGD X tg g ix) (hs : swapsWithSole [tg] e pos.line X.env = pure false := by rfl) (hw : swappedStores [tg] e X.env = pure none := by rfl)
    (h1 : (assignEach [tg] X.env).map (·.2) = [assign tg X.env] := by rfl) : PSD X W (.Assign [tg] e pos) (sAsg te g) := by
  obtain ⟨t, p, s⟩ := he
  obtain ⟨g1, p1, s1⟩ := hg
  refine ⟨_, ps_asg p p1 hs hw h1, ?_⟩
  intro B Hf ρ σ H D D' S L h
  refine s B Hf ρ σ H _ _ _ S h (fun r ρ' H' v q e => ?_) L.ex
  obtain ⟨Hf', d, ρ2, S2, rv, q2⟩ := e.frz q
  exact s1 B Hf' ρ2 σ H' v d _ _ S2 rv q2 fun ρ3 σ3 q3 S3 _ => L.nx _ _ _ _ q3 S3
/-- two, three names at once -/
abbrev sPar (is : List Nat) (ta : DF) : DS := fun D ρ => ta ρ (fun ds ρ1 => match is, ds with
  | [i, j], [a, b] => D.nx (setS (setS ρ1 i (.fz a)) j (.fz b))
  | [i, j, k], [a, b, c] => D.nx (setS (setS (setS ρ1 i (.fz a)) j (.fz b)) k (.fz c))
  | _, _ => False) D.ex
theorem psd_par (i j : Nat) {x y : Str} {a b : Expr} {ta : DF} {px py pt : Pos} {kt k2 pt2} (hc : X.calm = true) (hN : X.N.Nodup) (ha : PFD X W [a, b] ta) (hi : X.N[i]? = some x := by rfl) (hj : X.N[j]? = some y := by rfl) (hij : i ≠ j := by decide)
    (hx : X.env.scope.names.lookup x = some .local := by rfl) (hy : X.env.scope.names.lookup y = some .local := by rfl)
    (hw : swappedStores [.Tuple [.Name x px, .Name y py] kt pt] (.Tuple [a, b] k2 pt2) X.env = pure (some [x, y]) := by rfl)
    (hs : swapsWithSole [.Tuple [.Name x px, .Name y py] kt pt] (.Tuple [a, b] k2 pt2) pos.line X.env = pure false := by rfl) :
    PSD X W (.Assign [.Tuple [.Name x px, .Name y py] kt pt] (.Tuple [a, b] k2 pt2) pos) (sPar [i, j] ta) := by
  obtain ⟨t, p, s⟩ := ha
  refine ⟨_, ps_par hc hN hi hj hij hx hy p hw hs, ?_⟩
  intro B Hf ρ σ H D D' S L h
  refine s B Hf ρ σ H _ _ _ S h (fun ds ρ1 H1 Hf1 vs q S1 r hl => ?_) L.ex
  match ds, r, q with
  | [], .nil, q => exact q.elim
  | [_], .cons _ .nil, q => exact q.elim
  | [a, b], .cons (v := v1) r1 (.cons (v := v2) r2 .nil), q =>
    exact ⟨v1, v2, rfl, L.nx _ _ _ _ q ((S1.setFz i (s := .fz a) ⟨rfl, v1, rfl, r1⟩).setFz j (s := .fz b) ⟨rfl, v2, rfl, r2⟩)⟩
  | _ :: _ :: _ :: _, .cons _ (.cons _ (.cons _ _)), q => exact q.elim
theorem psd_par3 (i j l : Nat) {x y z : Str} {a b c : Expr} {ta : DF} {px py pz pt : Pos} {kt k2 pt2} (hc : X.calm = true) (hN : X.N.Nodup) (ha : PFD X W [a, b, c] ta) (hi : X.N[i]? = some x := by rfl) (hj : X.N[j]? = some y := by rfl) (hl : X.N[l]? = some z := by rfl)
    (hij : i ≠ j := by decide) (hil : i ≠ l := by decide) (hjl : j ≠ l := by decide)
    (hx : X.env.scope.names.lookup x = some .local := by rfl) (hy : X.env.scope.names.lookup y = some .local := by rfl) (hz : X.env.scope.names.lookup z = some .local := by rfl)
    (hw : swappedStores [.Tuple [.Name x px, .Name y py, .Name z pz] kt pt] (.Tuple [a, b, c] k2 pt2) X.env = pure (some [x, y, z]) := by rfl)
    (hs : swapsWithSole [.Tuple [.Name x px, .Name y py, .Name z pz] kt pt] (.Tuple [a, b, c] k2 pt2) pos.line X.env = pure false := by rfl) :
    PSD X W (.Assign [.Tuple [.Name x px, .Name y py, .Name z pz] kt pt] (.Tuple [a, b, c] k2 pt2) pos) (sPar [i, j, l] ta) := by
  obtain ⟨t, p, s⟩ := ha
  refine ⟨_, ps_par3 hc hN hi hj hl hij hil hjl hx hy hz p hw hs, ?_⟩
  intro B Hf ρ σ H D D' S L h
  refine s B Hf ρ σ H _ _ _ S h (fun ds ρ1 H1 Hf1 vs q S1 r hl => ?_) L.ex
  match ds, r, q with
  | [], .nil, q => exact q.elim
  | [_], .cons _ .nil, q => exact q.elim
  | [_, _], .cons _ (.cons _ .nil), q => exact q.elim
  | [a, b, c], .cons (v := v1) r1 (.cons (v := v2) r2 (.cons (v := v3) r3 .nil)), q =>
    exact ⟨v1, v2, v3, rfl, L.nx _ _ _ _ q (((S1.setFz i (s := .fz a) ⟨rfl, v1, rfl, r1⟩).setFz j (s := .fz b) ⟨rfl, v2, rfl, r2⟩).setFz l (s := .fz c) ⟨rfl, v3, rfl, r3⟩)⟩
  | _ :: _ :: _ :: _ :: _, .cons _ (.cons _ (.cons _ (.cons _ _))), q => exact q.elim

/-! ### what is walked -/
abbrev DI := List Sl → (List D → List Sl → Prop) → XD → Prop
def IterOk (K : PySem.W.Frag) (Hf : Hp) (J : It) (items : List D) : Prop := ∃ (Y : Nat → Hp → V → Hp → Prop) (G : Hp → Prop), Walk J items.length G Y ∧ (∀ H, Same Hf H → G H) ∧
  ∀ i H v H', i < items.length → Same Hf H → Y i H v H' → ∃ d, items[i]? = some d ∧ ((H' = H ∧ Rep K Hf v d) ∨ ∃ T vs ds, v = .ref T ∧ H T = none ∧ H' = upd H T (.tup vs) ∧ d = .tuple ds ∧ Reps K Hf vs ds ∧ ds.length ≤ sizeLine)
def SemI (K : PySem.W.Frag) (W : WX) (wi : TI) (t : DI) : Prop := ∀ B Hf ρ σ H (R : It → Hp → Prop) Rd Ed, SO K B Hf ρ σ H → t ρ Rd Ed → (∀ items ρ' H' Hf' J, Rd items ρ' → SO K B Hf' ρ' σ H' → IterOk K Hf' J items → items.length ≤ sizeLine → R J H') → XL K B W Ed → wi σ H R
structure PID (X : Cx) (W : WX) (tg iter : Expr) (t : DI) : Prop where
  ex : ∃ wi, PI X tg iter wi ∧ SemI X.K W wi t
/-- the item at a turn, as the target meets it -/
theorem iter_item {K : PySem.W.Frag} {B : Bs} {Hf Hf' H H' : Hp} {ρ : List Sl} {σ : L2.St} {v : V} {d : D} (S : SO K (B.up Hf) Hf' ρ σ H)
    (h : (H' = H ∧ Rep K Hf v d) ∨ ∃ T vs ds, v = .ref T ∧ H T = none ∧ H' = upd H T (.tup vs) ∧ d = .tuple ds ∧ Reps K Hf vs ds ∧ ds.length ≤ sizeLine) : ∃ Hf2, SO K (B.up Hf) Hf2 ρ σ H' ∧ Rep K Hf2 v d ∧ Same Hf' Hf2 := by
  rcases h with ⟨rfl, r⟩ | ⟨T, vs, ds, rfl, hT, rfl, rfl, r, z⟩
  · exact ⟨Hf', S, r.same S.up, Same.refl _⟩
  · have S2 := S.alloc hT (.tup vs)
    exact ⟨_, S2, .tup (SqT.of upd_same) (r.same S2.up) z, same_upd (S.sub.free hT)⟩
def sFor (src : DI) (g : DG) (body : DS) : DS := fun D ρ => src ρ (fun items ρ1 => ∃ Inv : Nat → List Sl → Prop, Inv 0 ρ1 ∧
  (∀ i d ρ2, items[i]? = some d → Inv i ρ2 → g d ρ2 fun ρ3 => body { nx := Inv (i + 1), ct := Inv (i + 1), bk := D.nx, rt := D.rt, ex := D.ex } ρ3) ∧ (∀ ρ2, Inv items.length ρ2 → D.nx ρ2)) D.ex
theorem psd_for {tg iter : Expr} {body : List Stmt} {src : DI} {g : DG} {ix : List Nat} {t : DS} (hp : PassesOwn (model X.prog X.w) X.A X.env X.xe) (hc : X.calm = true) (hi : PID X W tg iter src) (hg : PGD X tg g ix) (hb : PBD X W body t)
    (hs : ∀ x, foldedSetIterable iter X.env x = pure x := by intro _; rfl) : PSD X W (.For tg iter body [] pos) (sFor src g t) := by
  obtain ⟨wi, p1, s1⟩ := hi
  obtain ⟨g1, p2, s2⟩ := hg
  obtain ⟨tb, p3, s3⟩ := hb
  refine ⟨_, ps_for hp hc p1 p2 p3 hs, ?_⟩
  intro B Hf ρ σ H D D' S L h
  refine s1 B Hf ρ σ H _ _ _ S h (fun items ρ1 H1 Hf1 J q S1 io z => ?_) L.ex
  obtain ⟨Inv, i0, turn, fin⟩ := q
  obtain ⟨Y, G, wk, hG, hY⟩ := io
  refine for_it wk (fun i σ' H' => ∃ ρ' Hf', SO X.K (B.up Hf1) Hf' ρ' σ' H' ∧ Inv i ρ') ⟨ρ1, Hf1, S1.raise, i0⟩ ?_ ?_ ?_
  · rintro i σ' H' hi ⟨ρ', Hf', S', _⟩
    exact hG H' (S'.up.trans S'.sub)
  · rintro i v σ' H2 H3 hi ⟨ρ', Hf', S', iv⟩ y
    obtain ⟨d, hd, hh⟩ := hY i H2 v H3 hi (S'.up.trans S'.sub) y
    obtain ⟨Hf2, S2, r, _⟩ := iter_item S' hh
    refine s2 (B.up Hf1) Hf2 ρ' σ' H3 v d _ _ S2 r (turn i d ρ' hd iv) fun ρ3 σ3 q3 S3 _ => ?_
    refine s3 (B.up Hf1) Hf2 ρ3 σ3 H3 { nx := Inv (i + 1), ct := Inv (i + 1), bk := D.nx, rt := D.rt, ex := D.ex } _ S3 ⟨fun ρ σ H Hf q S => ⟨ρ, Hf, S, q⟩, fun r ρ σ H v q e => L.rt _ _ _ _ _ q (e.base S1.up), fun ρ σ H Hf q S => L.nx _ _ _ _ q (S.base S1.up), fun ρ σ H Hf q S => ⟨ρ, Hf, S, q⟩, L.ex.up S1.up⟩ q3
  · rintro σ' H' ⟨ρ', Hf', S', iv⟩
    exact L.nx _ _ _ _ (fin ρ' iv) (S'.base S1.up)
def sWhile (c : DT) (body : DS) : DS := fun D ρ => ∃ (Inv : List Sl → Prop) (μ : List Sl → Nat), Inv ρ ∧ ∀ ρ1, Inv ρ1 → c ρ1 (fun b ρ2 => if b = true then body { nx := fun ρ' => Inv ρ' ∧ μ ρ' < μ ρ1, ct := fun ρ' => Inv ρ' ∧ μ ρ' < μ ρ1, bk := D.nx, rt := D.rt, ex := D.ex } ρ2 else D.nx ρ2) D.ex
theorem psd_while {c : Expr} {body : List Stmt} {tc : DT} {t : DS} (hp : PassesOwn (model X.prog X.w) X.A X.env X.xe) (hc : PTD X W c tc) (hb : PBD X W body t) : PSD X W (.While c body [] pos) (sWhile tc t) := by
  obtain ⟨t1, p1, s1⟩ := hc
  obtain ⟨t2, p2, s2⟩ := hb
  refine ⟨_, ps_while hp p1 p2, ?_⟩
  intro B Hf ρ σ H D D' S L h
  obtain ⟨Inv, μ, i0, turn⟩ := h
  refine ⟨fun m σ' H' => ∃ ρ' Hf', SO X.K B Hf' ρ' σ' H' ∧ Inv ρ' ∧ m = μ ρ', ⟨_, ρ, Hf, S, i0, rfl⟩, ?_⟩
  rintro m σ' H' ⟨ρ', Hf', S', iv, rfl⟩
  refine s1 B Hf' ρ' σ' H' _ _ _ S' (turn ρ' iv) (fun b ρ2 H2 Hf2 q S2 => ?_) L.ex
  cases b with
  | false => exact L.nx _ _ _ _ q S2
  | true =>
    refine ⟨fun σ3 H3 => ∃ ρ3 Hf3, SO X.K B Hf3 ρ3 σ3 H3 ∧ Inv ρ3 ∧ μ ρ3 < μ ρ', fun σ3 H3 ⟨ρ3, Hf3, S3, i3, l3⟩ => ⟨_, l3, ρ3, Hf3, S3, i3, rfl⟩, ?_⟩
    exact s2 B Hf2 ρ2 σ' H2 { nx := fun ρ3 => Inv ρ3 ∧ μ ρ3 < μ ρ', ct := fun ρ3 => Inv ρ3 ∧ μ ρ3 < μ ρ', bk := D.nx, rt := D.rt, ex := D.ex } _ S2 ⟨fun ρ σ H Hf q S => ⟨ρ, Hf, S, q.1, q.2⟩, L.rt, L.nx, fun ρ σ H Hf q S => ⟨ρ, Hf, S, q.1, q.2⟩, L.ex⟩ q

/-! ### comprehensions -/
abbrev nils : List Sl → List Nat → List Sl
  | ρ, [] => ρ
  | ρ, v :: vs => setS (nils ρ vs) v .nil
theorem SO.nils {K : PySem.W.Frag} {B : Bs} {Hf H : Hp} {ρ : List Sl} {σ : L2.St} (S : SO K B Hf ρ σ H) : ∀ vs, SO K B Hf (nils ρ vs) (wipe σ vs) H
  | [] => S
  | v :: vs => (SO.nils S vs).setNone v
theorem SO.nilsD {K : PySem.W.Frag} {B : Bs} {Hf H : Hp} {ρ : List Sl} {σ : L2.St} (S : SO K B Hf ρ σ H) : ∀ vs, SO K B Hf (DL.nils ρ vs) σ H
  | [] => S
  | v :: vs => (SO.nilsD S vs).setNilD v
/-- a state over other slots' values, where they were wiped -/
theorem SlO.nilAny {K : PySem.W.Frag} {Hf H : Hp} {v w : Option V} {fp : List Addr} (h : SlO K Hf H .nil v fp) : SlO K Hf H .nil w fp := h
theorem SO.unwipe {K : PySem.W.Frag} {B : Bs} {Hf H : Hp} {ρ : List Sl} {σ : L2.St} {i : Nat} (S : SO K B Hf ρ (σ.set i none) H) : SO K B Hf (setS ρ i .nil) σ H := by
  rw [setS_eq]
  by_cases lt : i < ρ.length
  · have S1 := S.nilSl (s := ρ[i]) (i := i) (by simp [lt])
    have lσ : i < σ.length := by have := S.len; rw [List.length_set] at this; omega
    have S2 : SO K B Hf (.nil :: ρ.set i .nil) (σ[i] :: σ.set i none) H := by
      obtain ⟨fp, s1, s2, s3⟩ := S1.sl
      exact ⟨S1.up, S1.sub, S1.fr, fp, ⟨_, _, [], fp, rfl, rfl, rfl, s1⟩, s2, s3⟩
    have S3 := S2.putSl (i := i) (by rw [List.getElem?_set_self lt])
    rw [List.set_set, List.set_set] at S3
    have e : σ.set i σ[i] = σ := set_self_of (by simp [lσ])
    rw [e] at S3
    exact S3
  · have l2 : ¬ i < σ.length := by have := S.len; rw [List.length_set] at this; omega
    rw [List.set_eq_of_length_le (by omega)]
    rw [List.set_eq_of_length_le (by omega)] at S
    exact S
theorem setS_comm {ρ : List Sl} {i j : Nat} : setS (setS ρ i .nil) j .nil = setS (setS ρ j .nil) i .nil := by
  rw [setS_eq, setS_eq, setS_eq, setS_eq]
  by_cases e : i = j
  · rw [e]
  · rw [List.set_comm _ _ e]
theorem nils_set {ρ : List Sl} {i : Nat} : ∀ vs, nils (setS ρ i .nil) vs = setS (nils ρ vs) i .nil
  | [] => rfl
  | v :: vs => by
    show setS (nils (setS ρ i .nil) vs) v .nil = setS (setS (nils ρ vs) v .nil) i .nil
    rw [nils_set vs, setS_comm]
theorem SO.unwipes {K : PySem.W.Frag} {B : Bs} {Hf H : Hp} {σ : L2.St} : ∀ {vs : List Nat} {ρ : List Sl}, SO K B Hf ρ (wipe σ vs) H → SO K B Hf (DL.nils ρ vs) σ H
  | [], _, S => S
  | v :: vs, ρ, S => by
    have S1 : SO K B Hf (setS ρ v .nil) (wipe σ vs) H := SO.unwipe S
    have S2 := SO.unwipes S1
    rw [nils_set] at S2
    exact S2
theorem wipe_get_none {σ : L2.St} {i : Nat} : ∀ {vs : List Nat}, i ∈ vs → (wipe σ vs).set i none = wipe σ vs
  | [], h => by simp at h
  | v :: vs, h => by
    show ((wipe σ vs).set v none).set i none = (wipe σ vs).set v none
    by_cases e : i = v
    · subst e; rw [List.set_set]
    · have h : i ∈ vs := by
        rcases List.mem_cons.mp h with h | h
        · exact absurd h e
        · exact h
      rw [List.set_comm _ _ (Ne.symm e), wipe_get_none h]
theorem wipe_sub {σ : L2.St} {vs : List Nat} : ∀ {us : List Nat}, (∀ i ∈ us, i ∈ vs) → wipe (wipe σ vs) us = wipe σ vs
  | [], _ => rfl
  | u :: us, h => by
    show (wipe (wipe σ vs) us).set u none = wipe σ vs
    rw [wipe_sub (fun i hi => h i (List.mem_cons_of_mem _ hi)), wipe_get_none (h u (by simp))]
theorem wipe_wipe (σ : L2.St) (vs : List Nat) : wipe (wipe σ vs) vs = wipe σ vs := wipe_sub fun _ h => h
theorem nils_get {ρ : List Sl} {i : Nat} : ∀ {vs : List Nat}, i ∈ vs → setS (nils ρ vs) i .nil = nils ρ vs
  | [], h => by simp at h
  | v :: vs, h => by
    show setS (setS (nils ρ vs) v .nil) i .nil = setS (nils ρ vs) v .nil
    by_cases e : i = v
    · subst e; rw [setS_eq, setS_eq, List.set_set]
    · have h : i ∈ vs := by
        rcases List.mem_cons.mp h with h | h
        · exact absurd h e
        · exact h
      rw [setS_comm, nils_get h]
theorem nils_sub {ρ : List Sl} {vs : List Nat} : ∀ {us : List Nat}, (∀ i ∈ us, i ∈ vs) → nils (nils ρ vs) us = nils ρ vs
  | [], _ => rfl
  | u :: us, h => by
    show setS (nils (nils ρ vs) us) u .nil = nils ρ vs
    rw [nils_sub (fun i hi => h i (List.mem_cons_of_mem _ hi)), nils_get (h u (by simp))]
theorem nils_nils (ρ : List Sl) (vs : List Nat) : nils (nils ρ vs) vs = nils ρ vs := nils_sub fun _ h => h
abbrev noX : XD := fun _ _ => False
def W0 : WX := fun _ _ _ _ => False
theorem xl_no {K : PySem.W.Frag} {B : Bs} : XL K B W0 noX := fun _ _ _ _ _ h _ => h.elim
def eLc (src : DI) (g : DG) (tt : DT) (te : DE) (vs : List Nat) : DE := fun ρ Q E => src ρ (fun items ρ1 => ∃ Inv : Nat → List D → List Sl → Prop, Inv 0 [] (nils ρ1 vs) ∧
  (∀ i d acc ρ2, items[i]? = some d → Inv i acc ρ2 → g d (nils ρ2 vs) fun ρ3 => tt ρ3 (fun b ρ4 => if b = true then te ρ4 (fun r ρ5 => frz r ρ5 fun y ρ6 => Inv (i + 1) (acc ++ [y]) (nils ρ6 vs)) noX else Inv (i + 1) acc (nils ρ4 vs)) noX) ∧
  (∀ acc ρ2, Inv items.length acc ρ2 → Q (.ow (.l acc)) ρ2)) E
structure PTsD (X : Cx) (W : WX) (ifs : List Expr) (t : DT) : Prop where
  ex : ∃ te, PTs X ifs te ∧ SemT X.K W te t
abbrev dYes : DT := fun ρ Q _ => Q true ρ
theorem ptsd_nil : PTsD X W [] dYes := ⟨_, pts_nil, fun B Hf ρ σ H Q Qd Ed S h hQ hE => hQ _ _ _ _ h S⟩
theorem ptsd_one {c : Expr} {t : DT} (h : PTD X W c t) : PTsD X W [c] t := let ⟨_, p, s⟩ := h; ⟨_, pts_one p, s⟩
theorem sem_lc {wi : TI} {g : TG} {tt : TT} {te : TE} {src : DI} {gd : DG} {td : DT} {ed : DE} {ix vs : List Nat} (s1 : SemI X.K W wi src) (s2 : SemG X.K g gd ix) (s3 : SemT X.K W0 tt td) (s4 : Sem1 X.K W0 te ed) (hv : ∀ i ∈ ix, i ∈ vs) :
    Sem1 X.K W (tLc wi g tt te vs) (eLc src gd td ed vs) := by
  intro B Hf ρ σ H Q Qd Ed S h hQ hE
  refine s1 B Hf ρ σ H _ _ _ S h (fun items ρ1 H1 Hf1 J q S1 io z => ?_) hE
  obtain ⟨Inv, i0, turn, fin⟩ := q
  obtain ⟨Y, G, wk, hG, hY⟩ := io
  intro DD hD
  -- the new list DD is owned, foreign to the turns
  have nfD : Hf1 DD = none := S1.sub.free hD
  let Bt (acc : List V) : Bs := ⟨upd B.fr DD (.lst acc), Hf1⟩
  have frD : B.fr DD = none := by
    cases e : B.fr DD with
    | none => rfl
    | some o => have := (S1.fr DD o e).1; rw [hD] at this; cases this
  have grow : ∀ {acc acc' : List V} {Hf' H' : Hp} {ρ' : List Sl} {σ' : L2.St}, SO X.K (Bt acc) Hf' ρ' σ' H' → SO X.K (Bt acc') Hf' ρ' σ' (upd H' DD (.lst acc')) := by
    intro acc acc' Hf' H' ρ' σ' S'
    obtain ⟨fp, a1, a2, a3⟩ := S'.sl
    have nD : Hf' DD = none := (S'.fr DD (.lst acc) upd_same).2
    have ne : ∀ b ∈ fp, b ≠ DD := fun b hb e => by
      have := (a3 b hb).2
      rw [e] at this
      have q : (upd B.fr DD (.lst acc)) DD = none := this
      rw [upd_same] at q; cases q
    refine ⟨S'.up, fun b o e => ?_, fun b o e => ?_, fp, a1.mono (Same.refl _) fun b hb => upd_ne (ne b hb), a2, fun b hb => ⟨(a3 b hb).1, ?_⟩⟩
    · by_cases hb : b = DD
      · rw [hb, nD] at e; cases e
      · rw [upd_ne hb]; exact S'.sub _ _ e
    · by_cases hb : b = DD
      · subst hb
        have e : (upd B.fr b (.lst acc')) b = some o := e
        rw [upd_same] at e
        rw [upd_same]; exact ⟨e, nD⟩
      · have e : (upd B.fr DD (.lst acc')) b = some o := e
        rw [upd_ne hb] at e
        rw [upd_ne hb]
        refine S'.fr b o ?_
        show (upd B.fr DD (.lst acc)) b = some o
        rw [upd_ne hb]; exact e
    · have := (a3 b hb).2
      show (upd B.fr DD (.lst acc')) b = none
      rw [upd_ne (ne b hb)]
      have q : (upd B.fr DD (.lst acc)) b = none := this
      rw [upd_ne (ne b hb)] at q; exact q
  have start : SO X.K (Bt []) Hf1 ρ1 σ (upd H1 DD (.lst [])) := by
    obtain ⟨fp, a1, a2, a3⟩ := S1.sl
    have ne : ∀ b ∈ fp, b ≠ DD := fun b hb e => a1.dom b hb (by rw [e]; exact hD)
    refine ⟨Same.refl _, S1.sub.trans (same_upd hD), fun b o e => ?_, fp, a1.mono (Same.refl _) fun b hb => upd_ne (ne b hb), a2, fun b hb => ⟨(a3 b hb).1, ?_⟩⟩
    · by_cases hb : b = DD
      · subst hb
        have e : (upd B.fr b (.lst [])) b = some o := e
        rw [upd_same] at e
        rw [upd_same]; exact ⟨e, nfD⟩
      · have e : (upd B.fr DD (.lst [])) b = some o := e
        rw [upd_ne hb] at e
        rw [upd_ne hb]
        exact S1.fr b o e
    · show (upd B.fr DD (.lst [])) b = none
      rw [upd_ne (ne b hb)]; exact (a3 b hb).2
  refine lc_it wk (fun i H' => ∃ acc ds ρ' Hf', SO X.K (Bt acc) Hf' ρ' σ H' ∧ Reps X.K Hf' acc ds ∧ ds.length ≤ i ∧ Inv i ds ρ') ⟨[], [], nils ρ1 vs, Hf1, start.nilsD vs, .nil, Nat.le_refl _, i0⟩ ?_ ?_ ?_
  · rintro i H' hi ⟨acc, ds, ρ', Hf', S', _⟩
    exact hG H' (S'.up.trans S'.sub)
  · rintro i v H2 H3 hi ⟨acc, ds, ρ', Hf', S', r, hl, iv⟩ y
    obtain ⟨d, hd, hh⟩ := hY i H2 v H3 hi (S'.up.trans S'.sub) y
    have S'' : SO X.K (Bs.up (Bt acc) Hf1) Hf' ρ' σ H2 := S'
    obtain ⟨Hf2, S2, rd, m2⟩ := iter_item S'' hh
    have S2 : SO X.K (Bt acc) Hf2 ρ' σ H3 := S2
    have S3 := (S2.nils vs).raise
    have back : ∀ {acc' : List V} {ρ4 : List Sl} {σ3 : L2.St} {Hf4 H4 : Hp}, SO X.K ((Bt acc').up Hf2) Hf4 ρ4 σ3 H4 → wipe σ3 vs = wipe σ vs → SO X.K (Bt acc') Hf4 (DL.nils ρ4 vs) σ H4 := by
      intro acc' ρ4 σ3 Hf4 H4 S4 w
      have q := (S4.base (B := Bt acc') S2.up).nils vs
      rw [w] at q
      have q2 := q.unwipes
      rw [nils_nils] at q2
      exact q2
    refine s2 ((Bt acc).up Hf2) Hf2 _ _ H3 v d _ _ S3 rd (turn i d ds ρ' hd iv) fun ρ3 σ3 q3 S4 w => ?_
    have w : wipe σ3 vs = wipe σ vs := (w vs hv).trans (wipe_wipe σ vs)
    refine ⟨w, ?_⟩
    refine s3 ((Bt acc).up Hf2) Hf2 ρ3 σ3 H3 _ _ noX S4 q3 (fun b ρ4 H4 Hf4 q4 S5 => ?_) xl_no
    cases b with
    | false => exact ⟨acc, ds, _, Hf4, back S5 w, r.same (m2.trans S5.up), by omega, q4⟩
    | true =>
      refine s4 (((Bt acc).up Hf2).up Hf4) Hf4 ρ4 σ3 H4 _ _ noX S5.raise q4 (fun rr ρ5 H5 y q5 ev => ?_) xl_no
      obtain ⟨Hf6, d', ρ6, S6, r6, q6⟩ := ev.frz q5
      have m6 : Same Hf4 Hf6 := S6.up
      have S7 : SO X.K ((Bt acc).up Hf2) Hf6 ρ6 σ3 H5 := S6.base S5.up
      have S8 := back S7 w
      have la := r.length
      refine ⟨acc, (S8.fr DD (.lst acc) upd_same).1, by omega, acc ++ [y], ds ++ [d'], _, Hf6, grow S8, (r.same ((m2.trans S5.up).trans m6)).append (.cons r6 .nil), ?_, q6⟩
      rw [List.length_append, List.length_singleton]
      omega
  · rintro H' ⟨acc, ds, ρ', Hf', S', r, hl, iv⟩
    have cD := S'.fr DD (.lst acc) upd_same
    refine hQ _ ρ' H' _ (fin ds ρ' iv) ⟨Hf', ?_⟩
    obtain ⟨fp, a1, a2, a3⟩ := S'.sl
    have ne : ∀ b ∈ fp, b ≠ DD := fun b hb e => by
      have := (a3 b hb).2
      rw [e] at this
      have q : (upd B.fr DD (.lst acc)) DD = none := this
      rw [upd_same] at q; cases q
    refine ⟨S1.up.trans S'.up, S'.sub, fun b o e => S'.fr b o ?_, DD :: fp, ⟨_, _, [DD], fp, rfl, rfl, ⟨DD, rfl, rfl, by omega, acc, cD.1, r⟩, a1⟩, List.nodup_cons.mpr ⟨fun h => ne DD h rfl, a2⟩, fun b hb => ?_⟩
    · show (upd B.fr DD (.lst acc)) b = some o
      rw [upd_ne (fun z => by rw [z, frD] at e; cases e)]; exact e
    · rcases List.mem_cons.mp hb with rfl | hb
      · exact ⟨cD.2, frD⟩
      · refine ⟨(a3 b hb).1, ?_⟩
        have q : (upd B.fr DD (.lst acc)) b = none := (a3 b hb).2
        rw [upd_ne (ne b hb)] at q; exact q
end
end DL
set_option Elab.async false
set_option linter.all false
set_option maxRecDepth 100000
set_option maxHeartbeats 1000000
/-! DLe: the call of a def, and a def by its body. -/
namespace DL
open PySem PySem.Spec PyProof.Rows L2

/-- an argument as it is handed over -/
inductive Ag where
  | fz (d : D) | bw (i : Nat) | ow (c : Cn) | sc (ns : List Int)
/-- how a borrowed slot comes back -/
inductive Bk where
  | no | ow (i : Nat) | pw (i : Nat) (a : Addr)
inductive RR where
  | fz (d : D) | ow (c : Cn)
abbrev RR.vr : RR → VR
  | .fz d => .fz d
  | .ow c => .ow c
abbrev RR.sl : RR → Sl
  | .fz d => .fz d
  | .ow c => .ow c
/-- a def's promise as data: its arguments, the wished end (result, arguments behind it), the wished exception -/
abbrev FS := List Sl → (RR → List Sl → Prop) → (Addr → List Sl → Prop) → Prop
def spOf (K : PySem.W.Frag) (n : Nat) (fs : FS) : Sp := fun vs H Q E => vs.length = n ∧ ∃ (fr Hf : Hp) (as : List Sl), SO K ⟨fr, Hf⟩ Hf as (vs.map some) H ∧
  fs as (fun r as' => ∀ Hf' H' v, SO K ⟨fr, Hf⟩ Hf' (r.sl :: as') (some v :: vs.map some) H' → Q v H') (fun C as' => ∀ Hf' H', SO K ⟨fr, Hf⟩ Hf' as' (vs.map some) H' → E (.ref C) none H')

/-- a def's promise: what it asks, what it gives (the result, the arguments behind it), which exceptions -/
structure Spc where
  pre : List Sl → Prop
  post : List Sl → RR → List Sl → Prop
  exc : List Sl → Addr → List Sl → Prop := fun _ _ _ => False
def Spc.fs (p : Spc) : FS := fun as Q E => p.pre as ∧ (∀ r as', p.post as r as' → Q r as') ∧ (∀ C as', p.exc as C as' → E C as')

def AgO (K : PySem.W.Frag) (Hf : Hp) (σ : L2.St) : Ag → V → Prop
  | .fz d, v => Rep K Hf v d
  | .bw i, v => σ[i]? = some (some v)
  | .ow _, _ => True
  | .sc ns, v => ∃ a, v = .ref a ∧ SqL K Hf a (ns.map V.int)
def tops : List Ag → List Sl
  | [] => []
  | .ow c :: r => .ow c :: tops r
  | _ :: r => tops r
def topV : List Ag → List V → L2.St
  | .ow _ :: r, v :: vs => some v :: topV r vs
  | _ :: r, _ :: vs => topV r vs
  | _, _ => []
abbrev DC := List Sl → (List Ag → List Sl → Prop) → XD → Prop
def SemC (K : PySem.W.Frag) (W : WX) (ta : TA) (n : Nat) (t : DC) : Prop := ∀ B Hf ρ σ H (Q : List V → Hp → Prop) Qd Ed, SO K B Hf ρ σ H → t ρ Qd Ed → (∀ ags ρ' H' Hf' vs, Qd ags ρ' → SO K B Hf' (tops ags ++ ρ') (topV ags vs ++ σ) H' → Paired (AgO K Hf' σ) ags vs → vs.length = n → Q vs H') → XL K B W Ed → ta σ H Q
structure PCD (X : Cx) (W : WX) (es : List Expr) (t : DC) : Prop where
  ex : ∃ ta, PA X es ta ∧ SemC X.K W ta es.length t
theorem AgO.mono {K : PySem.W.Frag} {Hf Hf' : Hp} {σ : L2.St} {a : Ag} {v : V} (e : Same Hf Hf') (h : AgO K Hf σ a v) : AgO K Hf' σ a v := by
  cases a with
  | fz d => exact Rep.same e h
  | bw i => exact h
  | ow c => trivial
  | sc ns => obtain ⟨a, e1, h⟩ := h; exact ⟨a, e1, e.seq h⟩
section
variable {X : Cx} {W : WX} {pos : Pos}
abbrev cNil : DC := fun ρ Q _ => Q [] ρ
/-- a value that is kept (or the script) -/
abbrev cFz (te : DE) (ta : DC) : DC := fun ρ Q E => te ρ (fun r ρ1 => match r with
  | .sc ns => ta ρ1 (fun ags ρ2 => Q (.sc ns :: ags) ρ2) E
  | r => frz r ρ1 fun d ρ2 => ta ρ2 (fun ags ρ3 => Q (.fz d :: ags) ρ3) E) E
/-- an owned list at a name is lent -/
abbrev cBw (te : DE) (ta : DC) : DC := fun ρ Q E => te ρ (fun r ρ1 => match r with
  | .bw i => ta ρ1 (fun ags ρ2 => Q (.bw i :: ags) ρ2) E
  | _ => False) E
/-- a fresh owned list is handed over, the last argument -/
abbrev cOw (te : DE) : DC := fun ρ Q E => te ρ (fun r ρ1 => match r with
  | .ow c => Q [.ow c] ρ1
  | _ => False) E
theorem pcd_nil : PCD X W [] cNil := ⟨_, pa_nil, fun B Hf ρ σ H Q Qd Ed S h hQ hE => hQ [] _ _ Hf _ h S .nil rfl⟩
theorem pcd_fz {e : Expr} {es : List Expr} {te : DE} {ta : DC} (he : PD X W e te) (ha : PCD X W es ta) (hs : starEach (e :: es) X.env = (false, eval e X.env) :: starEach es X.env := by rfl) : PCD X W (e :: es) (cFz te ta) := by
  obtain ⟨t1, p1, s1⟩ := he
  obtain ⟨t2, p2, s2⟩ := ha
  refine ⟨_, pa_cons p1 p2 hs, ?_⟩
  intro B Hf ρ σ H Q Qd Ed S h hQ hE
  refine s1 B Hf ρ σ H _ _ Ed S h (fun r1 ρ1 H1 v1 q1 e1 => ?_) hE
  have other : ∀ d ρ2 Hf1, SO X.K B Hf1 ρ2 σ H1 → Rep X.K Hf1 v1 d → ta ρ2 (fun ags ρ3 => Qd (.fz d :: ags) ρ3) Ed → t2 σ H1 fun xs H2 => Q (v1 :: xs) H2 := by
    intro d ρ2 Hf1 S1 h1 q
    refine s2 (B.up Hf1) Hf1 ρ2 σ H1 _ _ Ed S1.raise q (fun ags ρ3 H2 Hf2 vs q2 S2 h2 l2 => ?_) (hE.up S1.up)
    exact hQ (.fz d :: ags) ρ3 H2 Hf2 (v1 :: vs) q2 (S2.base S1.up) (.cons (h1.same S2.up) h2) (congrArg (· + 1) l2)
  cases r1 with
  | sc ns =>
    obtain ⟨Hf1, a, S1, rfl, h1⟩ := e1
    refine s2 (B.up Hf1) Hf1 ρ1 σ H1 _ _ Ed S1.raise q1 (fun ags ρ3 H2 Hf2 vs q2 S2 h2 l2 => ?_) (hE.up S1.up)
    exact hQ (.sc ns :: ags) ρ3 H2 Hf2 (_ :: vs) q2 (S2.base S1.up) (.cons ⟨a, rfl, S2.up.seq h1⟩ h2) (congrArg (· + 1) l2)
  | fz d =>
    obtain ⟨Hf1, d, ρ2, S1, h1, q⟩ := e1.frz q1
    exact other d ρ2 Hf1 S1 h1 q
  | ow c =>
    obtain ⟨Hf1, d, ρ2, S1, h1, q⟩ := e1.frz q1
    exact other d ρ2 Hf1 S1 h1 q
  | bw i =>
    obtain ⟨Hf1, d, ρ2, S1, h1, q⟩ := e1.frz q1
    exact other d ρ2 Hf1 S1 h1 q
theorem pcd_bw {e : Expr} {es : List Expr} {te : DE} {ta : DC} (he : PD X W e te) (ha : PCD X W es ta) (hs : starEach (e :: es) X.env = (false, eval e X.env) :: starEach es X.env := by rfl) : PCD X W (e :: es) (cBw te ta) := by
  obtain ⟨t1, p1, s1⟩ := he
  obtain ⟨t2, p2, s2⟩ := ha
  refine ⟨_, pa_cons p1 p2 hs, ?_⟩
  intro B Hf ρ σ H Q Qd Ed S h hQ hE
  refine s1 B Hf ρ σ H _ _ Ed S h (fun r1 ρ1 H1 v1 q1 e1 => ?_) hE
  cases r1 with
  | bw i =>
    obtain ⟨⟨Hf1, S1⟩, h1⟩ := e1
    refine s2 B Hf1 ρ1 σ H1 _ _ Ed S1 q1 (fun ags ρ3 H2 Hf2 vs q2 S2 h2 l2 => ?_) hE
    exact hQ (.bw i :: ags) ρ3 H2 Hf2 (v1 :: vs) q2 S2 (.cons h1 h2) (congrArg (· + 1) l2)
  | _ => exact q1.elim
theorem pcd_ow {e : Expr} {te : DE} (he : PD X W e te) (hs : starEach [e] X.env = (false, eval e X.env) :: starEach [] X.env := by rfl) : PCD X W [e] (cOw te) := by
  obtain ⟨t1, p1, s1⟩ := he
  refine ⟨_, pa_cons p1 pa_nil hs, ?_⟩
  intro B Hf ρ σ H Q Qd Ed S h hQ hE
  refine s1 B Hf ρ σ H _ _ Ed S h (fun r1 ρ1 H1 v1 q1 e1 => ?_) hE
  cases r1 with
  | ow c =>
    obtain ⟨Hf1, S1⟩ := e1
    exact hQ [.ow c] ρ1 H1 Hf1 [v1] q1 S1 (.cons trivial .nil) rfl
  | _ => exact q1.elim

/-- what is handed over is taken out of the slots -/
abbrev resA : List Ag → List Sl → (List Sl → List Sl → List Bk → Prop) → Prop
  | [], ρ, k => k [] ρ []
  | .fz d :: r, ρ, k => resA r ρ fun as ρ' bs => k (.fz d :: as) ρ' (.no :: bs)
  | .sc ns :: r, ρ, k => resA r ρ fun as ρ' bs => k (.sc ns :: as) ρ' (.no :: bs)
  | .ow c :: r, ρ, k => resA r ρ fun as ρ' bs => k (.ow c :: as) ρ' (.no :: bs)
  | .bw i :: r, ρ, k => match getS ρ i with
    | .ow c => resA r (setS ρ i .nil) fun as ρ' bs => k (.ow c :: as) ρ' (.ow i :: bs)
    | .pw a c => resA r (setS ρ i .nil) fun as ρ' bs => k (.ow c :: as) ρ' (.pw i a :: bs)
    | _ => False
abbrev toPw (a : Addr) : Sl → Sl
  | .ow c => .pw a c
  | s => s
abbrev backA : List Bk → List Sl → List Sl → List Sl
  | .ow i :: r, s :: ss, ρ => backA r ss (setS ρ i s)
  | .pw i a :: r, s :: ss, ρ => backA r ss (setS ρ i (toPw a s))
  | .no :: r, _ :: ss, ρ => backA r ss ρ
  | _, _, ρ => ρ
theorem SlsO.split {K : PySem.W.Frag} {Hf H : Hp} : ∀ {ρ1 ρ2 : List Sl} {σ1 σ2 : L2.St} {fp : List Addr}, σ1.length = ρ1.length → SlsO K Hf H (ρ1 ++ ρ2) (σ1 ++ σ2) fp → ∃ f1 f2, fp = f1 ++ f2 ∧ SlsO K Hf H ρ1 σ1 f1 ∧ SlsO K Hf H ρ2 σ2 f2
  | [], _, [], _, fp, _, h => ⟨[], fp, rfl, ⟨rfl, rfl⟩, h⟩
  | [], _, _ :: _, _, _, l, _ => by simp at l
  | _ :: _, _, [], _, _, l, _ => by simp at l
  | s :: ρ1, ρ2, v :: σ1, σ2, _, l, ⟨v', σ', f1, f2, e1, e2, h1, h2⟩ => by
    cases e1; subst e2
    obtain ⟨g1, g2, e, q1, q2⟩ := SlsO.split (ρ1 := ρ1) (σ1 := σ1) (by simpa using l) h2
    subst e
    exact ⟨f1 ++ g1, g2, by rw [List.append_assoc], ⟨v, σ1, f1, g1, rfl, rfl, h1, q1⟩, q2⟩
theorem SlsO.join {K : PySem.W.Frag} {Hf H : Hp} : ∀ {ρ1 ρ2 : List Sl} {σ1 σ2 : L2.St} {f1 f2 : List Addr}, SlsO K Hf H ρ1 σ1 f1 → SlsO K Hf H ρ2 σ2 f2 → SlsO K Hf H (ρ1 ++ ρ2) (σ1 ++ σ2) (f1 ++ f2)
  | [], _, _, _, _, _, ⟨e1, e2⟩, h => by subst e1 e2; exact h
  | s :: ρ1, _, _, _, _, _, ⟨v, σ', g1, g2, e1, e2, h1, h2⟩, h => by
    subst e1 e2
    exact ⟨v, _, g1, _, rfl, by rw [List.append_assoc], h1, SlsO.join h2 h⟩
/-- a borrowed slot stands empty, its value as it was -/
def BkO (σ : L2.St) (ρ : List Sl) : Bk → V → Prop
  | .no, _ => True
  | .ow i, v => σ[i]? = some (some v) ∧ ρ[i]? = some .nil
  | .pw i a, v => σ[i]? = some (some v) ∧ v = .ref a ∧ ρ[i]? = some .nil
def bkIx : List Bk → List Nat
  | [] => []
  | .ow i :: r => i :: bkIx r
  | .pw i _ :: r => i :: bkIx r
  | .no :: r => bkIx r
theorem resA_ok {K : PySem.W.Frag} {Hf H : Hp} {σ : L2.St} : ∀ {ags : List Ag} {ρ : List Sl} {vs : List V} {k : List Sl → List Sl → List Bk → Prop} {f0 f1 : List Addr},
    resA ags ρ k → Paired (AgO K Hf σ) ags vs → SlsO K Hf H (tops ags) (topV ags vs) f0 → SlsO K Hf H ρ σ f1 →
    ∃ as ρ2 bs fa fr, k as ρ2 bs ∧ SlsO K Hf H as (vs.map some) fa ∧ SlsO K Hf H ρ2 σ fr ∧ (f0 ++ f1).Perm (fa ++ fr) ∧ Paired (BkO σ ρ2) bs vs ∧ (bkIx bs).Nodup ∧ (∀ i : Nat, ρ[i]? = some .nil → ρ2[i]? = some .nil ∧ i ∉ bkIx bs)
  | [], ρ, _, k, f0, f1, h, .nil, ⟨_, e⟩, h1 => by
    subst e
    exact ⟨[], ρ, [], [], f1, h, ⟨rfl, rfl⟩, h1, List.Perm.refl _, .nil, List.nodup_nil, fun i e => ⟨e, by simp [bkIx]⟩⟩
  | .fz d :: r, ρ, _, k, f0, f1, h, .cons (b := v) ha hr, h0, h1 => by
    obtain ⟨as, ρ2, bs, fa, fr, q, q1, q2, q3, q4, q5, q6⟩ := resA_ok (ags := r) h hr h0 h1
    exact ⟨_, ρ2, _, fa, fr, q, ⟨some v, _, [], fa, rfl, rfl, ⟨rfl, v, rfl, ha⟩, q1⟩, q2, q3, .cons trivial q4, q5, q6⟩
  | .sc ns :: r, ρ, _, k, f0, f1, h, .cons (b := v) ha hr, h0, h1 => by
    obtain ⟨as, ρ2, bs, fa, fr, q, q1, q2, q3, q4, q5, q6⟩ := resA_ok (ags := r) h hr h0 h1
    obtain ⟨a, e, ha⟩ := ha
    exact ⟨_, ρ2, _, fa, fr, q, ⟨some v, _, [], fa, rfl, rfl, ⟨rfl, a, by rw [e], ha⟩, q1⟩, q2, q3, .cons trivial q4, q5, q6⟩
  | .ow c :: r, ρ, _, k, f0, f1, h, .cons (b := v) ha hr, ⟨w, σ', g1, g2, e1, e2, h0, h0'⟩, h1 => by
    cases e1; subst e2
    obtain ⟨as, ρ2, bs, fa, fr, q, q1, q2, q3, q4, q5, q6⟩ := resA_ok (ags := r) h hr h0' h1
    refine ⟨_, ρ2, _, g1 ++ fa, fr, q, ⟨some v, _, g1, fa, rfl, rfl, h0, q1⟩, q2, ?_, .cons trivial q4, q5, q6⟩
    rw [List.append_assoc, List.append_assoc]
    exact q3.append_left g1
  | .bw i :: r, ρ, _, k, f0, f1, h, .cons (b := v) (l₂ := ws) ha hr, h0, h1 => by
    have ha : σ[i]? = some (some v) := ha
    unfold resA at h
    generalize hs : getS ρ i = s at h
    have core : ∀ (c : Cn) (bk : Bk), (∀ ρ2 : List Sl, ρ2[i]? = some .nil → BkO σ ρ2 bk v) → bkIx [bk] = [i] → ρ[i]? = some s → (∀ fp, SlO K Hf H s (some v) fp → SlO K Hf H (.ow c) (some v) fp) → resA r (setS ρ i .nil) (fun as ρ' bs => k (.ow c :: as) ρ' (bk :: bs)) →
        ∃ as ρ2 bs fa fr, k as ρ2 bs ∧ SlsO K Hf H as (List.map some (v :: ws)) fa ∧ SlsO K Hf H ρ2 σ fr ∧ (f0 ++ f1).Perm (fa ++ fr) ∧ Paired (BkO σ ρ2) bs (v :: ws) ∧ (bkIx bs).Nodup ∧ (∀ i : Nat, ρ[i]? = some .nil → ρ2[i]? = some .nil ∧ i ∉ bkIx bs) := by
      intro c bk hbk hix hi hsl h
      rw [setS_eq] at h
      obtain ⟨v', g1, g2, e1, t1, t2, t3⟩ := h1.take hi
      rw [ha] at e1; cases e1
      obtain ⟨as, ρ2, bs, fa, fr, q, q1, q2, q3, q4, q5, q6⟩ := resA_ok (ags := r) h hr h0 t2
      have lt : i < ρ.length := (List.getElem?_eq_some_iff.mp hi).1
      have nil_i := q6 i (by rw [List.getElem?_set_self lt])
      have hib : bkIx (bk :: bs) = i :: bkIx bs := by
        cases bk with
        | no => cases hix
        | ow j => cases hix; rfl
        | pw j a => cases hix; rfl
      refine ⟨_, ρ2, _, g1 ++ fa, fr, q, ⟨some v, _, g1, fa, rfl, rfl, hsl _ t1, q1⟩, q2, ?_, .cons (hbk ρ2 nil_i.1) q4, ?_, fun j hj => ?_⟩
      · refine (List.Perm.append_left f0 t3).trans ?_
        rw [← List.append_assoc]
        refine (List.Perm.append_right g2 List.perm_append_comm).trans ?_
        rw [List.append_assoc, List.append_assoc]
        exact q3.append_left g1
      · rw [hib]; exact List.nodup_cons.mpr ⟨nil_i.2, q5⟩
      · have ne : j ≠ i := fun z => by
          subst z
          rw [hi] at hj
          have := hsl _ t1
          cases hj
          obtain ⟨a, _, ow⟩ := this
          have t1 : g1 = [] := t1
          subst t1
          cases c with
          | l ds => obtain ⟨z, _⟩ := ow; cases z
        have := q6 j (by rw [List.getElem?_set_ne (Ne.symm ne)]; exact hj)
        rw [hib]
        exact ⟨this.1, fun z => (List.mem_cons.mp z).elim ne this.2⟩
    cases s with
    | ow c => exact core c (.ow i) (fun ρ2 e => ⟨ha, e⟩) rfl (getS_eq hs (fun z => nomatch z)) (fun _ z => z) h
    | pw a c =>
      have hi := getS_eq hs (fun z => nomatch z)
      obtain ⟨v', g1, g2, e1, t1, t2, t3⟩ := h1.take hi
      rw [ha] at e1; cases e1
      obtain ⟨e2, t1⟩ := t1
      cases e2
      exact core c (.pw i a) (fun ρ2 e => ⟨ha, rfl, e⟩) rfl hi (fun fp z => ⟨a, z.1, z.2⟩) h
    | _ => exact h.elim
theorem BkOs_set {σ : L2.St} {ρ : List Sl} {i : Nat} {s : Sl} : ∀ {bs : List Bk} {vs : List V}, i ∉ bkIx bs → Paired (BkO σ ρ) bs vs → Paired (BkO σ (setS ρ i s)) bs vs
  | [], _, _, .nil => .nil
  | .no :: r, _, h, .cons a b => .cons trivial (BkOs_set (bs := r) h b)
  | .ow j :: r, _, h, .cons a b => by
    have hj : i ≠ j := fun z => h (by simp [bkIx, z])
    refine .cons ⟨a.1, ?_⟩ (BkOs_set (bs := r) (fun z => h (List.mem_cons_of_mem _ z)) b)
    rw [setS_eq, List.getElem?_set_ne hj]; exact a.2
  | .pw j c :: r, _, h, .cons a b => by
    have hj : i ≠ j := fun z => h (by simp [bkIx, z])
    refine .cons ⟨a.1, a.2.1, ?_⟩ (BkOs_set (bs := r) (fun z => h (List.mem_cons_of_mem _ z)) b)
    rw [setS_eq, List.getElem?_set_ne hj]; exact a.2.2
theorem backA_ok {K : PySem.W.Frag} {Hf H : Hp} {σ : L2.St} : ∀ {bs : List Bk} {as ρ : List Sl} {vs : List V} {fa fr : List Addr}, SlsO K Hf H as (vs.map some) fa → SlsO K Hf H ρ σ fr → Paired (BkO σ ρ) bs vs → (bkIx bs).Nodup →
    ∃ f g, SlsO K Hf H (backA bs as ρ) σ f ∧ (f ++ g).Perm (fa ++ fr)
  | [], as, ρ, _, fa, fr, h, h1, .nil, _ => by
    refine ⟨fr, fa, ?_, List.perm_append_comm⟩
    cases as <;> exact h1
  | b :: bs, [], ρ, _, fa, fr, ⟨e, _⟩, h1, .cons _ _, _ => by cases e
  | .no :: bs, s :: as, ρ, _, _, fr, ⟨v, σ', g1, g2, e1, e2, h1, h2⟩, h, .cons hb hbs, nd => by
    cases e1; subst e2
    obtain ⟨f, g, q1, q2⟩ := backA_ok (bs := bs) h2 h hbs nd
    refine ⟨f, g1 ++ g, q1, ?_⟩
    rw [List.append_assoc, ← List.append_assoc]
    refine (List.Perm.append_right g List.perm_append_comm).trans ?_
    rw [List.append_assoc]
    exact q2.append_left g1
  | .ow i :: bs, s :: as, ρ, w :: ws, _, fr, ⟨v, σ', g1, g2, e1, e2, h1, h2⟩, h, .cons hb hbs, nd => by
    cases e1; subst e2
    obtain ⟨b1, b2⟩ := hb
    obtain ⟨fp, p1, p2⟩ := h.put b2 h1
    rw [set_self_of b1, ← setS_eq] at p1
    have nd := List.nodup_cons.mp nd
    obtain ⟨f, g, q1, q2⟩ := backA_ok (bs := bs) h2 p1 (BkOs_set nd.1 hbs) nd.2
    refine ⟨f, g, q1, q2.trans ((List.Perm.append_left g2 p2).trans ?_)⟩
    rw [← List.append_assoc]
    exact List.Perm.append_right fr List.perm_append_comm
  | .pw i a :: bs, s :: as, ρ, w :: ws, _, fr, ⟨v, σ', g1, g2, e1, e2, h1, h2⟩, h, .cons hb hbs, nd => by
    cases e1; subst e2
    obtain ⟨b1, b3, b2⟩ := hb
    have h1' : SlO K Hf H (toPw a s) (some w) g1 := by
      cases s with
      | ow c =>
        obtain ⟨a', e, q⟩ := h1
        rw [b3] at e ⊢
        cases e
        exact ⟨rfl, q⟩
      | _ => exact h1
    obtain ⟨fp, p1, p2⟩ := h.put b2 h1'
    rw [set_self_of b1, ← setS_eq] at p1
    have nd := List.nodup_cons.mp nd
    obtain ⟨f, g, q1, q2⟩ := backA_ok (bs := bs) h2 p1 (BkOs_set nd.1 hbs) nd.2
    refine ⟨f, g, q1, q2.trans ((List.Perm.append_left g2 p2).trans ?_)⟩
    rw [← List.append_assoc]
    exact List.Perm.append_right fr List.perm_append_comm

/-! ### the call -/
theorem sub_of {f g l : List Addr} (p : (f ++ g).Perm l) : ∀ b ∈ f, b ∈ l := fun b hb => p.mem_iff.mp (List.mem_append_left _ hb)
def frOf (H fr0 : Hp) (l : List Addr) : Hp := fun b => if b ∈ l then H b else fr0 b
/-- the frame rule: what the callee is given, and what comes back -/
theorem call_frame {K : PySem.W.Frag} {B : Bs} {Hf H : Hp} {σ : L2.St} {ags : List Ag} {ρ : List Sl} {vs : List V} {k : List Sl → List Sl → List Bk → Prop}
    (S : SO K B Hf (tops ags ++ ρ) (topV ags vs ++ σ) H) (ha : Paired (AgO K Hf σ) ags vs) (h : resA ags ρ k) : ∃ as ρ2 bs fr, k as ρ2 bs ∧ SO K ⟨fr, Hf⟩ Hf as (vs.map some) H ∧
      (∀ Hf' H' (r : RR) (v : V) as', SO K ⟨fr, Hf⟩ Hf' (r.sl :: as') (some v :: vs.map some) H' → EV K B (backA bs as' ρ2) σ H' r.vr v) ∧
      (∀ Hf' H' as', SO K ⟨fr, Hf⟩ Hf' as' (vs.map some) H' → ∃ Hf2, SO K B Hf2 (backA bs as' ρ2) σ H') := by
  obtain ⟨fp, s1, s2, s3⟩ := S.sl
  have tl : ∀ (ags : List Ag) (vs : List V), Paired (AgO K Hf σ) ags vs → (topV ags vs).length = (tops ags).length := by
    intro ags vs p
    induction p with
    | nil => rfl
    | @cons a b l1 l2 _ _ ih => cases a <;> simp [topV, tops, ih]
  obtain ⟨f0, f1, rfl, t0, t1⟩ := s1.split (tl ags vs ha)
  obtain ⟨as, ρ2, bs, fa, fr, q, q1, q2, q3, q4, q5, q6⟩ := resA_ok h ha t0 t1
  have nd := q3.nodup_iff.mp s2
  have s3' : ∀ a ∈ fa ++ fr, Hf a = none ∧ B.fr a = none := fun a h => s3 a (q3.mem_iff.mpr h)
  have dj : ∀ b ∈ fr, b ∉ fa := fun b h1 h2 => (List.nodup_append.mp nd).2.2 b h2 b h1 rfl
  refine ⟨as, ρ2, bs, frOf H B.fr fr, q, ⟨Same.refl _, S.sub, fun b o e => ?_, fa, q1, (List.nodup_append.mp nd).1, fun b hb => ⟨(s3' b (List.mem_append_left _ hb)).1, ?_⟩⟩, ?_, ?_⟩
  · have e : (if b ∈ fr then H b else B.fr b) = some o := e
    by_cases hb : b ∈ fr
    · rw [if_pos hb] at e
      exact ⟨e, (s3' b (List.mem_append_right _ hb)).1⟩
    · rw [if_neg hb] at e
      exact S.fr b o e
  · show (if b ∈ fr then H b else B.fr b) = none
    rw [if_neg (fun z => dj b z hb)]
    exact (s3' b (List.mem_append_left _ hb)).2
  all_goals
    have keep : ∀ {Hf' H' : Hp}, (∀ a o, frOf H B.fr fr a = some o → H' a = some o ∧ Hf' a = none) → (∀ b ∈ fr, H' b = H b) ∧ (∀ b ∈ fr, Hf' b = none ∧ B.fr b = none) ∧ (∀ a o, B.fr a = some o → H' a = some o ∧ Hf' a = none) := by
      intro Hf' H' hk
      have h1 : ∀ b ∈ fr, ∃ o, H b = some o ∧ H' b = some o ∧ Hf' b = none := fun b hb => by
        cases e : H b with
        | none => exact absurd e (q2.dom b hb)
        | some o => exact ⟨o, rfl, hk b o (by show (if b ∈ fr then H b else B.fr b) = some o; rw [if_pos hb, e])⟩
      refine ⟨fun b hb => ?_, fun b hb => ⟨?_, (s3' b (List.mem_append_right _ hb)).2⟩, fun a o e => hk a o ?_⟩
      · obtain ⟨o, x, y, _⟩ := h1 b hb
        rw [x, y]
      · obtain ⟨o, x, y, z⟩ := h1 b hb
        exact z
      · show (if a ∈ fr then H a else B.fr a) = some o
        rw [if_neg (fun z => by rw [(s3' a (List.mem_append_right _ z)).2] at e; cases e)]
        exact e
    have outN : ∀ {b : Addr}, frOf H B.fr fr b = none → b ∉ fr ∧ B.fr b = none := by
      intro b e
      have e : (if b ∈ fr then H b else B.fr b) = none := e
      by_cases hb : b ∈ fr
      · rw [if_pos hb] at e; exact absurd e (q2.dom b hb)
      · rw [if_neg hb] at e; exact ⟨hb, e⟩
  · intro Hf' H' r v as' S'
    obtain ⟨k1, k2, k3⟩ := keep S'.fr
    obtain ⟨fq, ⟨v', σ', g1, g2, e1, e2, u1, u2⟩, n1, n2⟩ := S'.sl
    cases e1; subst e2
    obtain ⟨f, g, w1, w2⟩ := backA_ok u2 (q2.mono S'.up k1) q4 q5
    have nall : (g1 ++ (g2 ++ fr)).Nodup := by
      rw [← List.append_assoc]
      exact List.nodup_append.mpr ⟨n1, (List.nodup_append.mp nd).2.1, fun a h1 b h2 e => (outN (n2 a h1).2).1 (e ▸ h2)⟩
    have nf : (g1 ++ f).Nodup := by
      have p2 : (g1 ++ (f ++ g)).Perm (g1 ++ (g2 ++ fr)) := w2.append_left g1
      have := p2.nodup_iff.mpr nall
      rw [← List.append_assoc] at this
      exact (List.nodup_append.mp this).1
    have cond : ∀ a ∈ g1 ++ f, Hf' a = none ∧ B.fr a = none := fun a h => by
      rcases List.mem_append.mp h with h | h
      · exact ⟨(n2 a (List.mem_append_left _ h)).1, (outN (n2 a (List.mem_append_left _ h)).2).2⟩
      · rcases List.mem_append.mp (sub_of w2 a h) with h | h
        · exact ⟨(n2 a (List.mem_append_right _ h)).1, (outN (n2 a (List.mem_append_right _ h)).2).2⟩
        · exact k2 a h
    have S2 : SO K B Hf' (r.sl :: backA bs as' ρ2) (some v :: σ) H' := ⟨S.up.trans S'.up, S'.sub, k3, g1 ++ f, ⟨_, _, g1, f, rfl, rfl, u1, w1⟩, nf, cond⟩
    cases r with
    | fz d =>
      obtain ⟨_, x, e, p⟩ := u1
      cases e
      exact ⟨Hf', S2.drop, p⟩
    | ow c => exact ⟨Hf', S2⟩
  · intro Hf' H' as' S'
    obtain ⟨k1, k2, k3⟩ := keep S'.fr
    obtain ⟨fq, u2, n1, n2⟩ := S'.sl
    obtain ⟨f, g, w1, w2⟩ := backA_ok u2 (q2.mono S'.up k1) q4 q5
    have nall : (fq ++ fr).Nodup := List.nodup_append.mpr ⟨n1, (List.nodup_append.mp nd).2.1, fun a h1 b h2 e => (outN (n2 a h1).2).1 (e ▸ h2)⟩
    exact ⟨Hf', S.up.trans S'.up, S'.sub, k3, f, w1, (List.nodup_append.mp (w2.nodup_iff.mpr nall)).1, fun a h => by
      rcases List.mem_append.mp (sub_of w2 a h) with h | h
      · exact ⟨(n2 a h).1, (outN (n2 a h).2).2⟩
      · exact k2 a h⟩
abbrev eCall (fs : FS) (tc : DC) : DE := fun ρ Q E => tc ρ (fun ags ρ1 => resA ags ρ1 fun as ρ2 bs => fs as (fun r as' => Q r.vr (backA bs as' ρ2)) (fun C as' => E C (backA bs as' ρ2))) E
theorem PA.len {es : List Expr} {t : TA} : True := trivial
theorem pd_call {x : Str} {p : Pos} {e : Expr} {es : List Expr} {k n : Nat} {f : Addr} {fd : FuncData} {ps : List Str} {sp : Spc} {tc : DC} (tk : Takes X W) (F : FnOk X.prog X.w X.K X.mg X.base (L2.CX X.prog X.w) k f fd ps (spOf X.K n sp.fs)) (hr : Room k X.A) (hg : Gl X x) (hm : X.mg x = some (.ref f)) (hk : PySem.W.keepIn X.K (.ref f) = true) (hb : Binds X.K fd ps [])
    (ha : PCD X W (e :: es) tc) (hl : (e :: es).length = n := by rfl) (hdb : (x == ("__debug__" : Str)) = false := by decide) (he : starEach (e :: es) X.env = (false, eval e X.env) :: starEach es X.env := by rfl) (hpl : (backTo pos (starEach es X.env)).any (·.1) = false := by rfl) :
    PD X W (.Call (.Name x p) (e :: es) [] pos) (eCall sp.fs tc) := by
  obtain ⟨ta, pa, sa⟩ := ha
  refine ⟨_, pe_callS (E := WE W) F hr hg hm hk hb (fun σ => passAt tk σ) pa hdb he hpl, ?_⟩
  intro B Hf ρ σ H Q Qd Ed S h hQ hE
  refine sa B Hf ρ σ H _ _ Ed S h (fun ags ρ1 H1 Hf1 vs q S1 h1 l1 => ?_) hE
  obtain ⟨as, ρ2, bs, fr, q2, S2, back, backX⟩ := call_frame S1 h1 q
  refine ⟨l1.trans hl, fr, Hf1, as, S2, ?_⟩
  refine ⟨q2.1, fun r as' p Hf' H' v S3 => hQ _ _ H' v (q2.2.1 r as' p) (back Hf' H' r v as' S3), fun C as' p Hf' H' S3 => ?_⟩
  obtain ⟨Hf2, S4⟩ := backX Hf' H' as' S3
  exact hE C _ σ H' Hf2 (q2.2.2 C as' p) S4

/-! ### a def by its body -/
abbrev startS : List Sl → (Nat → Addr) → Nat → List Sl
  | [], _, _ => []
  | .ow c :: as, ad, i => .pw (ad i) c :: startS as ad (i + 1)
  | s :: as, ad, i => s :: startS as ad (i + 1)
abbrev outs : List Sl → (Nat → Addr) → Nat → List Sl → (List Sl → Prop) → Prop
  | [], _, _, _, k => k []
  | .ow _ :: as, ad, i, .pw a c :: ρ, k => a = ad i ∧ outs as ad (i + 1) ρ fun l => k (.ow c :: l)
  | .fz d :: as, ad, i, _ :: ρ, k => outs as ad (i + 1) ρ fun l => k (.fz d :: l)
  | .sc ns :: as, ad, i, _ :: ρ, k => outs as ad (i + 1) ρ fun l => k (.sc ns :: l)
  | _, _, _, _, _ => False
abbrev endR (as : List Sl) (ad : Nat → Addr) (Q : RR → List Sl → Prop) (r : VR) (ρ : List Sl) : Prop := match r with
  | .fz d => outs as ad 0 ρ fun l => Q (.fz d) l
  | .ow c => outs as ad 0 ρ fun l => Q (.ow c) l
  | .sc _ => False
  | .bw i => match getS ρ i with
    | .ow c => outs as ad 0 (setS ρ i .nil) fun l => Q (.ow c) l
    | .fz d => outs as ad 0 ρ fun l => Q (.fz d) l
    | _ => False
abbrev endsOf (p : Spc) (as : List Sl) (ad : Nat → Addr) : DEnds :=
  { nx := fun ρ => endR as ad (p.post as) (.fz .none) ρ, rt := endR as ad (p.post as), bk := fun _ => False, ct := fun _ => False, ex := fun C ρ => outs as ad 0 ρ fun l => p.exc as C l }
def AdO (as : List Sl) (vs : List V) (ad : Nat → Addr) (i : Nat) : Prop := ∀ (j : Nat) (v : V), vs[j]? = some v → ∀ c : Cn, as[j]? = some (Sl.ow c) → v = V.ref (ad (i + j))
theorem outs_ok {K : PySem.W.Frag} {Hf H Hf' H' : Hp} (e : Same Hf Hf') : ∀ {as : List Sl} {ad : Nat → Addr} {i : Nat} {ρ : List Sl} {k : List Sl → Prop} {vs : List V} {fa fr : List Addr} {σ : L2.St}, outs as ad i ρ k → SlsO K Hf H as (vs.map some) fa → AdO as vs ad i → SlsO K Hf' H' ρ σ fr →
    ∃ l f g, k l ∧ SlsO K Hf' H' l (vs.map some) f ∧ (f ++ g).Perm fr
  | [], ad, i, ρ, k, vs, fa, fr, σ, h, ⟨e1, _⟩, _, _ => ⟨[], [], fr, h, ⟨e1, rfl⟩, List.Perm.refl _⟩
  | .ow c0 :: as, ad, i, .pw a c :: ρ, k, vs, _, _, σ, ⟨ea, h⟩, ⟨v0, σ0, g1, g2, e1, e2, p1, p2⟩, hv, ⟨v1, σ1, q1, q2, e3, e4, r1, r2⟩ => by
    match vs, e1 with
    | v :: vs, e1 =>
      cases e1
      subst e4
      have ev : v = .ref a := by
        have := hv 0 v rfl c0 rfl
        rw [this, ea]; rfl
      obtain ⟨l, f, g, k1, k2, k3⟩ := outs_ok e (as := as) h p2 (fun j w hj c hc => by
        have := hv (j + 1) w (by simpa using hj) c (by simpa using hc)
        rw [this]; congr 2; omega) r2
      refine ⟨_, q1 ++ f, g, k1, ⟨_, _, q1, f, rfl, rfl, ⟨a, by rw [ev], r1.2⟩, k2⟩, ?_⟩
      rw [List.append_assoc]
      exact k3.append_left q1
  | .fz d :: as, ad, i, s :: ρ, k, vs, _, _, σ, h, ⟨v0, σ0, g1, g2, e1, e2, p1, p2⟩, hv, ⟨v1, σ1, q1, q2, e3, e4, r1, r2⟩ => by
    match vs, e1 with
    | v :: vs, e1 =>
      cases e1
      subst e4
      obtain ⟨l, f, g, k1, k2, k3⟩ := outs_ok e (as := as) h p2 (fun j w hj c hc => by
        have := hv (j + 1) w (by simpa using hj) c (by simpa using hc)
        rw [this]; congr 2; omega) r2
      obtain ⟨_, x, ex, rx⟩ := p1
      refine ⟨_, f, g ++ q1, k1, ⟨_, _, [], f, rfl, rfl, ⟨rfl, x, ex, rx.same e⟩, k2⟩, ?_⟩
      rw [← List.append_assoc]
      exact (List.Perm.append_right q1 k3).trans List.perm_append_comm
  | .sc ns :: as, ad, i, s :: ρ, k, vs, _, _, σ, h, ⟨v0, σ0, g1, g2, e1, e2, p1, p2⟩, hv, ⟨v1, σ1, q1, q2, e3, e4, r1, r2⟩ => by
    match vs, e1 with
    | v :: vs, e1 =>
      cases e1
      subst e4
      obtain ⟨l, f, g, k1, k2, k3⟩ := outs_ok e (as := as) h p2 (fun j w hj c hc => by
        have := hv (j + 1) w (by simpa using hj) c (by simpa using hc)
        rw [this]; congr 2; omega) r2
      obtain ⟨_, x, ex, rx⟩ := p1
      refine ⟨_, f, g ++ q1, k1, ⟨_, _, [], f, rfl, rfl, ⟨rfl, x, ex, e.seq rx⟩, k2⟩, ?_⟩
      rw [← List.append_assoc]
      exact (List.Perm.append_right q1 k3).trans List.perm_append_comm
theorem start_ok {K : PySem.W.Frag} {Hf H : Hp} : ∀ {as : List Sl} {vs : List V} {fa : List Addr} (ad : Nat → Addr) (i : Nat), SlsO K Hf H as (vs.map some) fa → AdO as vs ad i → SlsO K Hf H (startS as ad i) (vs.map some) fa
  | [], vs, fa, ad, i, h, _ => h
  | s :: as, vs, fa, ad, i, ⟨v0, σ0, g1, g2, e1, e2, p1, p2⟩, hv => by
    match vs, e1 with
    | v :: vs, e1 =>
      cases e1
      subst e2
      have ih := start_ok ad (i + 1) p2 (fun j w hj c hc => by
        have := hv (j + 1) w (by simpa using hj) c (by simpa using hc)
        rw [this]; congr 2; omega)
      cases s with
      | ow c =>
        have ev : v = .ref (ad i) := hv 0 v rfl c rfl
        obtain ⟨a, ea, q⟩ := p1
        rw [ev] at ea
        cases ea
        exact ⟨_, _, g1, g2, rfl, rfl, ⟨by rw [ev], q⟩, ih⟩
      | _ => exact ⟨_, _, g1, g2, rfl, rfl, p1, ih⟩
theorem nils_ok {K : PySem.W.Frag} {Hf H : Hp} : ∀ m : Nat, SlsO K Hf H (List.replicate m .nil) (List.replicate m none) []
  | 0 => ⟨rfl, rfl⟩
  | m + 1 => ⟨none, _, [], [], rfl, rfl, rfl, nils_ok m⟩
theorem ow_ref {K : PySem.W.Frag} {Hf H : Hp} : ∀ {as : List Sl} {vs : List V} {fa : List Addr} {j : Nat} {v : V} {c : Cn}, SlsO K Hf H as (vs.map some) fa → vs[j]? = some v → as[j]? = some (.ow c) → ∃ a, v = .ref a
  | [], _, _, _, _, _, _, _, h => by simp at h
  | s :: as, vs, fa, j, v, c, ⟨v0, σ0, g1, g2, e1, e2, p1, p2⟩, h1, h2 => by
    match vs, e1 with
    | w :: vs, e1 =>
      cases e1
      cases j with
      | zero =>
        cases h1
        have h2 : some s = some (.ow c) := h2
        cases h2
        obtain ⟨a, ea, _⟩ := p1
        cases ea
        exact ⟨a, rfl⟩
      | succ j => exact ow_ref p2 (by simpa using h1) (by simpa using h2)
def adOf (vs : List V) (j : Nat) : Addr := match vs[j]? with
  | some (.ref a) => a
  | _ => 0
theorem def_ok {P : Program} {w : World} {K : PySem.W.Frag} {mg : Str → Option Value} {base : Heap} {x qual : Str} {st : Stmt} {f : Addr} {fd : FuncData} {N ps : List Str} {k : Nat} (F : Fun K x qual st f fd) (S : FnScope N ps (defScope st)) (sp : Spc)
    (hbody : ∀ (cdv : Value) (A : Around) (outer : List Env) (s : Shared) (H : Hp) (E : XK), Room k (A.deeper (envOfC qual (defScope st) s.heap.objs.size f cdv)) →
      ∃ t, PBD (cxOf (L2.CX P w) P w K mg base N qual (defScope st) f cdv A outer s H E) (fun cls d _ H => E cls d H) (defBody st) t ∧ ∀ as ad, sp.pre as → as.length = ps.length → t (endsOf sp as ad) (startS as ad 0 ++ List.replicate (N.length - ps.length) .nil)) :
    FnOk P w K mg base (L2.CX P w) (k + 1) f fd ps (spOf K ps.length sp.fs) := by
  refine F.okX S (fun vs H Q E h => h.1) (fun cdv A outer s H vs Q E hr h => ?_)
  obtain ⟨t, ⟨ts, p, sem⟩, rd⟩ := hbody cdv A outer s H E hr
  refine ⟨ts, p, ?_⟩
  obtain ⟨hl, fr, Hf, as, S0, pre, post, exc⟩ := h
  obtain ⟨fa, s1, s2, s3⟩ := S0.sl
  have la : as.length = ps.length := by have := s1.length; rw [List.length_map] at this; omega
  have hv : AdO as vs (adOf vs) 0 := fun j v h1 c h2 => by
    obtain ⟨a, e⟩ := ow_ref s1 h1 h2
    subst e
    rw [Nat.zero_add]
    unfold adOf
    rw [h1]
  have q0 := rd as (adOf vs) pre la
  have st0 : SlsO K Hf H (startS as (adOf vs) 0 ++ List.replicate (N.length - ps.length) .nil) (L2.start N vs) fa := by
    have := (start_ok (adOf vs) 0 s1 hv).join (nils_ok (K := K) (Hf := Hf) (H := H) (N.length - ps.length))
    rw [List.append_nil] at this
    unfold L2.start
    rw [hl]; exact this
  have S1 : SO K ⟨fr, Hf⟩ Hf (startS as (adOf vs) 0 ++ List.replicate (N.length - ps.length) .nil) (L2.start N vs) H := ⟨S0.up, S0.sub, S0.fr, fa, st0, s2, s3⟩
  -- behind the body
  have endO : ∀ {Hf' H' : Hp} {ρ : List Sl} {σ : L2.St} {k : List Sl → Prop}, outs as (adOf vs) 0 ρ k → SO K ⟨fr, Hf⟩ Hf' ρ σ H' → ∃ l, k l ∧ SO K ⟨fr, Hf⟩ Hf' l (vs.map some) H' := by
    intro Hf' H' ρ σ k h S'
    obtain ⟨fp, t1, t2, t3⟩ := S'.sl
    obtain ⟨l, f, g, k1, k2, k3⟩ := outs_ok S'.up h s1 hv t1
    exact ⟨l, k1, S'.up, S'.sub, S'.fr, f, k2, (List.nodup_append.mp (k3.nodup_iff.mpr t2)).1, fun a ha => t3 a (sub_of k3 a ha)⟩
  have endW : ∀ {Hf' H' : Hp} {ρ : List Sl} {σ : L2.St} {k : List Sl → Prop} {s : Sl} {v : Option V}, outs as (adOf vs) 0 ρ k → SO K ⟨fr, Hf⟩ Hf' (s :: ρ) (v :: σ) H' → ∃ l, k l ∧ SO K ⟨fr, Hf⟩ Hf' (s :: l) (v :: vs.map some) H' := by
    intro Hf' H' ρ σ k s v h S'
    obtain ⟨fp, ⟨v', σ', u1, u2, e1, e2, w1, w2⟩, t2, t3⟩ := S'.sl
    cases e1; subst e2
    obtain ⟨l, f, g, k1, k2, k3⟩ := outs_ok S'.up h s1 hv w2
    have p : ((u1 ++ f) ++ g).Perm (u1 ++ u2) := by rw [List.append_assoc]; exact k3.append_left u1
    exact ⟨l, k1, S'.up, S'.sub, S'.fr, u1 ++ f, ⟨_, _, u1, f, rfl, rfl, w1, k2⟩, (List.nodup_append.mp (p.nodup_iff.mpr t2)).1, fun a ha => t3 a (sub_of p a ha)⟩
  have addFz : ∀ {Hf' H' : Hp} {ρ : List Sl} {σ : L2.St} {v : V} {d : D}, SO K ⟨fr, Hf⟩ Hf' ρ σ H' → Rep K Hf' v d → SO K ⟨fr, Hf⟩ Hf' (.fz d :: ρ) (some v :: σ) H' := by
    intro Hf' H' ρ σ v d S' r
    obtain ⟨fp, t1, t2, t3⟩ := S'.sl
    exact ⟨S'.up, S'.sub, S'.fr, fp, ⟨_, _, [], fp, rfl, rfl, ⟨rfl, v, rfl, r⟩, t1⟩, t2, t3⟩
  have endE : ∀ {r : VR} {ρ : List Sl} {σ : L2.St} {H' : Hp} {v : V}, endR as (adOf vs) (sp.post as) r ρ → EV K ⟨fr, Hf⟩ ρ σ H' r v → Q v H' := by
    intro r ρ σ H' v q ev
    cases r with
    | fz d =>
      obtain ⟨Hf', S', rv⟩ := ev
      obtain ⟨l, k1, S2⟩ := endW q (addFz S' rv)
      exact post (.fz d) l k1 Hf' H' v S2
    | ow c =>
      obtain ⟨Hf', S'⟩ := ev
      obtain ⟨l, k1, S2⟩ := endW q S'
      exact post (.ow c) l k1 Hf' H' v S2
    | sc ns => exact q.elim
    | bw i =>
      obtain ⟨⟨Hf', S'⟩, e⟩ := ev
      unfold endR at q
      dsimp only at q
      generalize hs : getS ρ i = s at q
      cases s with
      | ow c =>
        obtain ⟨w, e1, S2⟩ := S'.takeSl (getS_eq hs (fun z => nomatch z))
        rw [e] at e1; cases e1
        rw [setS_eq] at q
        obtain ⟨l, k1, S3⟩ := endW q S2
        exact post (.ow c) l k1 Hf' H' v S3
      | fz d =>
        obtain ⟨w, fp, e1, e2, y, e3, rv⟩ := S'.get (getS_eq hs (fun z => nomatch z))
        rw [e] at e1; cases e1; cases e3
        obtain ⟨l, k1, S2⟩ := endW q (addFz S' rv)
        exact post (.fz d) l k1 Hf' H' v S2
      | _ => exact q.elim
  refine sem ⟨fr, Hf⟩ Hf _ _ H (endsOf sp as (adOf vs)) _ S1 ⟨fun ρ σ H' Hf' q S' => ?_, fun r ρ σ H' v q ev => endE q ev, fun _ _ _ _ q _ => q.elim, fun _ _ _ _ q _ => q.elim, fun C ρ σ H' Hf' q S' => ?_⟩ q0
  · exact endE (r := .fz .none) (σ := σ) q ⟨Hf', S', .non⟩
  · obtain ⟨l, k1, S2⟩ := endO q S'
    exact exc C l k1 Hf' H' S2
end
end DL
set_option Elab.async false
set_option linter.all false
set_option maxRecDepth 100000
set_option maxHeartbeats 1000000
/-! DLf: comprehensions in place, what is walked, slices, isinstance, stores, methods. -/
namespace DL
open PySem PySem.Spec PyProof.Rows L2
section
variable {X : Cx} {W : WX} {pos : Pos} {tg iter : Expr}

/-! ### comprehensions in place -/
theorem pg_all {ι : Type} {X : ι → Cx} {tg : Expr} {t : DG} {ix : List Nat} {K : PySem.W.Frag} (hK : ∀ c, (X c).K = K) (h : ∀ c, PGD (X c) tg t ix) : ∃ g, (∀ c, PG (X c) tg g) ∧ SemG K g t ix := by
  have h' : ∀ c, ∃ g, PG (X c) tg g ∧ SemG K g t ix := fun c => by
    have q := (h c).ex
    rw [hK c] at q
    exact q
  refine ⟨fun v σ H Q => ∀ c, (Classical.choose (h' c)) v σ H Q, fun c => ⟨fun pins s σ H v u Q I r q => (Classical.choose_spec (h' c)).1.run pins s σ H v u Q I r (q c)⟩, ?_⟩
  intro B Hf ρ σ H v d Q Qd S r q k c
  exact (Classical.choose_spec (h' c)).2 B Hf ρ σ H v d Q Qd S r q k
theorem pe_all {ι : Type} {X : ι → Cx} {W : WX} {e : Expr} {t : DE} {K : PySem.W.Frag} (hK : ∀ c, (X c).K = K) (h : ∀ c, PD (X c) W e t) : ∃ te, (∀ c, PE (X c) e te) ∧ Sem1 K W te t := by
  have h' : ∀ c, ∃ te, PE (X c) e te ∧ Sem1 K W te t := fun c => by
    have q := (h c).ex
    rw [hK c] at q
    exact q
  refine ⟨fun σ H Q => ∀ c, (Classical.choose (h' c)) σ H Q, fun c => ⟨fun pins s σ H Q I q => (Classical.choose_spec (h' c)).1.run pins s σ H Q I (q c)⟩, ?_⟩
  intro B Hf ρ σ H Q Qd Ed S q hQ hE c
  exact (Classical.choose_spec (h' c)).2 B Hf ρ σ H Q Qd Ed S q hQ hE
theorem pts_all {ι : Type} {X : ι → Cx} {W : WX} {e : List Expr} {t : DT} {K : PySem.W.Frag} (hK : ∀ c, (X c).K = K) (h : ∀ c, PTsD (X c) W e t) : ∃ te, (∀ c, PTs (X c) e te) ∧ SemT K W te t := by
  have h' : ∀ c, ∃ te, PTs (X c) e te ∧ SemT K W te t := fun c => by
    have q := (h c).ex
    rw [hK c] at q
    exact q
  refine ⟨fun σ H Q => ∀ c, (Classical.choose (h' c)) σ H Q, fun c => ⟨fun pins s σ H Q I q => (Classical.choose_spec (h' c)).1.run pins s σ H Q I (q c)⟩, ?_⟩
  intro B Hf ρ σ H Q Qd Ed S q hQ hE c
  exact (Classical.choose_spec (h' c)).2 B Hf ρ σ H Q Qd Ed S q hQ hE
abbrev BlkI := Shared × Hp × Addr × List (Str × Addr) × List Addr
abbrev blkX (X : Cx) (scope : Scope) (c : BlkI) : Cx := X.blk c.1 c.2.1 scope (compEnvC scope c.2.2.2.1 c.2.2.1 X.env) c.2.2.2.2
theorem pd_lc {elt : Expr} {ifs : List Expr} {scope : Scope} {own : List (Str × Nat)} {src : DI} {gd : DG} {td : DT} {ed : DE} {ix : List Nat} (hc : X.calm = true) (hN : X.N.Nodup) (hi : PID X W tg iter src) (ok : BlkOk X.N X.env.scope scope own)
    (hg : ∀ c : BlkI, PGD (blkX X scope c) tg gd ix) (ht : ∀ c : BlkI, PTsD (blkX X scope c) W0 ifs td) (he : ∀ c : BlkI, PD (blkX X scope c) W0 elt ed) (hv : ∀ i ∈ ix, i ∈ own.map (·.2) := by decide)
    (hs : ∀ x, foldedSetIterable iter X.env x = pure x := by intro _; rfl) : PD X W (.ListComp elt [⟨tg, iter, ifs, 0⟩] scope pos) (eLc src gd td ed (own.map (·.2))) := by
  obtain ⟨wi, p1, s1⟩ := hi
  obtain ⟨g, p2, s2⟩ := pg_all (K := X.K) (X := blkX X scope) (fun _ => rfl) hg
  obtain ⟨tt, p3, s3⟩ := pts_all (K := X.K) (X := blkX X scope) (fun _ => rfl) ht
  obtain ⟨te, p4, s4⟩ := pe_all (K := X.K) (X := blkX X scope) (fun _ => rfl) he
  exact ⟨_, pe_lc hc hN p1 ok (fun s H C cl fp => p2 (s, H, C, cl, fp)) (fun s H C cl fp => p3 (s, H, C, cl, fp)) (fun s H C cl fp => p4 (s, H, C, cl, fp)) hs, sem_lc s1 s2 s3 s4 hv⟩
theorem psd_setLc (i : Nat) {y : Str} {py spos : Pos} {elt : Expr} {ifs : List Expr} {scope : Scope} {own : List (Str × Nat)} {src : DI} {gd : DG} {td : DT} {ed : DE} {ix : List Nat} (hc : X.calm = true) (hN : X.N.Nodup) (hi : PID X W tg iter src) (ok : BlkOk X.N X.env.scope scope own)
    (hg : ∀ c : BlkI, PGD (blkX X scope c) tg gd ix) (ht : ∀ c : BlkI, PTsD (blkX X scope c) W0 ifs td) (he : ∀ c : BlkI, PD (blkX X scope c) W0 elt ed)
    (hsw : swapsWith (.ListComp elt [⟨tg, iter, ifs, 0⟩] scope pos) (some (.Name y py)) spos.line X.env = pure true) (hy : X.N[i]? = some y := by rfl) (hyl : X.env.scope.names.lookup y = some .local := by rfl) (hv : ∀ i ∈ ix, i ∈ own.map (·.2) := by decide)
    (hs : ∀ x, foldedSetIterable iter X.env x = pure x := by intro _; rfl) : PSD X W (.Assign [.Name y py] (.ListComp elt [⟨tg, iter, ifs, 0⟩] scope pos) spos) (sSet i (eLc src gd td ed (own.map (·.2)))) := by
  obtain ⟨wi, p1, s1⟩ := hi
  obtain ⟨g, p2, s2⟩ := pg_all (K := X.K) (X := blkX X scope) (fun _ => rfl) hg
  obtain ⟨tt, p3, s3⟩ := pts_all (K := X.K) (X := blkX X scope) (fun _ => rfl) ht
  obtain ⟨te, p4, s4⟩ := pe_all (K := X.K) (X := blkX X scope) (fun _ => rfl) he
  exact ⟨_, ps_setLc hc hN hy hyl hsw p1 ok (fun s H C cl fp => p2 (s, H, C, cl, fp)) (fun s H C cl fp => p3 (s, H, C, cl, fp)) (fun s H C cl fp => p4 (s, H, C, cl, fp)) hs, sem_set (sem_lc s1 s2 s3 s4 hv)⟩

/-! ### a list or a tuple is walked -/
def iSeqW (K : PySem.W.Frag) (tl : TE) : TI := fun σ H R => tl σ H fun x H1 => ∃ a, x = .ref a ∧ (((∃ xs, SqL K H1 a xs) ∧ R (Itl K a) H1) ∨ ((∃ xs, SqT K H1 a xs) ∧ R (Itt K a) H1))
theorem pi_seqW {l : Expr} {tl : TE} (hl : PE X l tl) : PI X tg l (iSeqW X.K tl) := by
  refine ⟨fun pins s σ H R I h => ?_⟩
  refine thn (hl.run pins s σ H _ I h) fun v s1 hh => ?_
  obtain ⟨x, H1, I1, r1, a, rfl, q1⟩ := hh
  cases r1
  rcases q1 with ⟨⟨xs, hq⟩, q⟩ | ⟨⟨xs, hq⟩, q⟩
  · obtain ⟨its, rv, p, hz⟩ := I1.list hq
    refine wpAny_pyIter_list p.isList ⟨s1.heap.objs.size, [s1.heap.objs.size], _, _, H1, rfl, I1.kept (t' := s1.toks) fun b o e => Heap.get?_push_of_some _ e, turn_list a _, ⟨_, Heap.get?_push_size _ rfl, rfl, rfl⟩, fun b hb => ?_, q⟩
    rw [show b = s1.heap.objs.size by simpa using hb]
    exact I1.fpOk (Nat.le_refl _) (I1.hok.fresh (Nat.le_refl _))
  · obtain ⟨its, rv, p, hz⟩ := I1.tuple hq
    refine wpAny_pyIter_tuple (show s1.heap.IsTuple a its.toArray from p) ⟨s1.heap.objs.size, [s1.heap.objs.size], _, _, H1, rfl, I1.kept (t' := s1.toks) fun b o e => Heap.get?_push_of_some _ e, turn_tuple a _, ⟨_, Heap.get?_push_size _ rfl, rfl, rfl⟩, fun b hb => ?_, q⟩
    rw [show b = s1.heap.objs.size by simpa using hb]
    exact I1.fpOk (Nat.le_refl _) (I1.hok.fresh (Nat.le_refl _))
abbrev iSeq (te : DE) : DI := fun ρ R E => te ρ (fun r ρ1 => match r with
  | .sc ns => R (ns.map .int) ρ1 ∧ ns.length ≤ sizeLine
  | r => frz r ρ1 fun d ρ2 => match d with
    | .list ds => R ds ρ2
    | .tuple ds => R ds ρ2
    | _ => False) E
theorem iter_list {K : PySem.W.Frag} {Hf : Hp} {a : Addr} {vs : List V} {ds : List D} (h : SqL K Hf a vs) (r : Reps K Hf vs ds) : IterOk K Hf (Itl K a) ds := by
  refine ⟨_, _, by rw [← r.length]; exact walk_list (K := K) (a := a) (xs := vs), fun H e => e.seq h, fun i H v H' hi e y => ?_⟩
  obtain ⟨rfl, y⟩ := y
  obtain ⟨d, e1, rd⟩ := r.get y
  exact ⟨d, e1, .inl ⟨rfl, rd⟩⟩
theorem iter_tup {K : PySem.W.Frag} {Hf : Hp} {a : Addr} {vs : List V} {ds : List D} (h : SqT K Hf a vs) (r : Reps K Hf vs ds) : IterOk K Hf (Itt K a) ds := by
  refine ⟨_, _, by rw [← r.length]; exact walk_tup (K := K) (a := a) (xs := vs), fun H e => sqT_same e h, fun i H v H' hi e y => ?_⟩
  obtain ⟨rfl, y⟩ := y
  obtain ⟨d, e1, rd⟩ := r.get y
  exact ⟨d, e1, .inl ⟨rfl, rd⟩⟩
theorem pid_seq {te : DE} (he : PD X W iter te) : PID X W tg iter (iSeq te) := by
  obtain ⟨t, p, s⟩ := he
  refine ⟨_, pi_seqW p, ?_⟩
  intro B Hf ρ σ H R Rd Ed S h hR hE
  refine s B Hf ρ σ H _ _ Ed S h (fun r ρ1 H1 v q e => ?_) hE
  have other : (∃ Hf1 d ρ2, SO X.K B Hf1 ρ2 σ H1 ∧ Rep X.K Hf1 v d ∧ match d with | .list ds => Rd ds ρ2 | .tuple ds => Rd ds ρ2 | _ => False) → ∃ a, v = .ref a ∧ (((∃ xs, SqL X.K H1 a xs) ∧ R (Itl X.K a) H1) ∨ ((∃ xs, SqT X.K H1 a xs) ∧ R (Itt X.K a) H1)) := by
    rintro ⟨Hf1, d, ρ2, S1, rv, q⟩
    cases rv with
    | lst h r z => exact ⟨_, rfl, .inl ⟨⟨_, SqL.of (S1.sub _ _ h)⟩, hR _ ρ2 H1 Hf1 _ q S1 (iter_list (SqL.of h) r) z⟩⟩
    | tup h r z => exact ⟨_, rfl, .inr ⟨⟨_, sqT_same S1.sub h⟩, hR _ ρ2 H1 Hf1 _ q S1 (iter_tup h r) z⟩⟩
    | _ => exact q.elim
  cases r with
  | sc ns =>
    obtain ⟨Hf1, a, S1, rfl, h1⟩ := e
    exact ⟨a, rfl, .inl ⟨⟨_, S1.sub.seq h1⟩, hR _ ρ1 H1 Hf1 _ q.1 S1 (iter_list h1 (Reps.ofInts ns)) (by rw [List.length_map]; exact q.2)⟩⟩
  | fz d => exact other (e.frz q)
  | ow c => exact other (e.frz q)
  | bw i => exact other (e.frz q)

/-! ### range -/
def rgD (lo c : Int) (n : Nat) : List D := (List.range n).map fun i => .int (lo + (i : Nat) * c)
theorem rgD_len (lo c : Int) (n : Nat) : (rgD lo c n).length = n := by simp [rgD]
theorem rgD_get {lo c : Int} {n i : Nat} (h : i < n) : (rgD lo c n)[i]? = some (.int (lo + (i : Nat) * c)) := by simp [rgD, h]
theorem iter_range {K : PySem.W.Frag} {Hf : Hp} {lo : Int} {n : Nat} : IterOk K Hf (Itr lo n) (rgD lo 1 n) := by
  refine ⟨_, _, by rw [rgD_len]; exact walk_range (lo := lo) (n := n), fun _ _ => trivial, fun i H v H' hi e y => ?_⟩
  obtain ⟨rfl, rfl⟩ := y
  rw [rgD_len] at hi
  exact ⟨_, rgD_get hi, .inl ⟨rfl, by rw [Int.mul_one]; exact .int _⟩⟩
theorem iter_rangeC {K : PySem.W.Frag} {Hf : Hp} {lo c : Int} {n : Nat} : IterOk K Hf (Itc lo c n) (rgD lo c n) := by
  refine ⟨_, _, by rw [rgD_len]; exact walk_rangeC (lo := lo) (c := c) (n := n), fun _ _ => trivial, fun i H v H' hi e y => ?_⟩
  obtain ⟨rfl, rfl⟩ := y
  rw [rgD_len] at hi
  exact ⟨_, rgD_get hi, .inl ⟨rfl, .int _⟩⟩
/-- range(j), range(i, j), range(i, j, -1): at most sizeLine turns -/
abbrev rgK : List SD → (List D → Prop) → Prop
  | [.d (.int j)], R => (-(2305843009213693952 : Int) ≤ j ∧ j ≤ 16777216) ∧ R (rgD 0 1 j.toNat)
  | [.d (.int i), .d (.int j)], R => (-(2305843009213693952 : Int) ≤ i ∧ i ≤ 2305843009213693952 ∧ j - i ≤ 16777216 ∧ -(2305843009213693952 : Int) ≤ j ∧ j ≤ 2305843009213693952) ∧ R (rgD i 1 (j - i).toNat)
  | [.d (.int i), .d (.int j), .d (.int c)], R => c = -1 ∧ (-(2305843009213693952 : Int) ≤ i ∧ i ≤ 2305843009213693952 ∧ i - j ≤ 16777216 ∧ -(2305843009213693952 : Int) ≤ j ∧ j ≤ 2305843009213693952) ∧ R (rgD i (-1) (i - j).toNat)
  | _, _ => False
abbrev iRg (ta : DA) : DI := fun ρ R E => ta ρ (fun rs ρ1 => match peeks rs ρ1 with
  | some as => rgK as fun ds => R ds ρ1
  | none => False) E
theorem three_of {K : PySem.W.Frag} {Hf H : Hp} {xs : List V} {a b c : SD} (r : Paired (RepS K Hf H) xs [a, b, c]) : ∃ x y z, xs = [x, y, z] ∧ RepS K Hf H x a ∧ RepS K Hf H y b ∧ RepS K Hf H z c := by
  cases r with
  | cons h r =>
    obtain ⟨y, z, rfl, h2, h3⟩ := two_of r
    exact ⟨_, y, z, rfl, h, h2, h3⟩
theorem pid_range1 {a : Expr} {ta : DA} {p : Pos} (hg : Gl X "range") (hm : X.mg "range" = none) (ha : PAD X W [a] ta) (hs : starEach [a] X.env = [(false, eval a X.env)] := by rfl) : PID X W tg (.Call (.Name "range" p) [a] [] pos) (iRg ta) := by
  obtain ⟨t, p1, s⟩ := ha
  refine ⟨_, pi_range1 hg hm p1 hs, ?_⟩
  intro B Hf ρ σ H R Rd Ed S h hR hE
  refine s B Hf ρ σ H _ _ Ed S h (fun rs ρ1 H1 Hf1 vs q S1 h1 hlen => ?_) hE
  simp only [List.length_cons, List.length_nil] at hlen
  cases e : peeks rs ρ1 with
  | none => rw [e] at q; exact q.elim
  | some as =>
    rw [e] at q
    have pr := h1.peeks S1 e
    have l1 := h1.length
    have l2 := pr.length
    have la : as.length = 1 := by omega
    match as, la, pr, q with
    | [.d (.int j)], _, pr, q =>
      obtain ⟨x, rfl, r1⟩ := one_of (P := fun _ _ => True) pr
      obtain ⟨qb, q⟩ := q
      refine ⟨j, by rw [r1.int], by omega, by omega, hR _ ρ1 H1 Hf1 _ q S1 iter_range ?_⟩
      rw [rgD_len, sizeLine_eq]; omega
theorem pid_range2 {a b : Expr} {ta : DA} {p : Pos} (hg : Gl X "range") (hm : X.mg "range" = none) (ha : PAD X W [a, b] ta)
    (hs : starEach [a, b] X.env = [(false, eval a X.env), (false, eval b X.env)] := by rfl) (hs2 : starEach [b] X.env = [(false, eval b X.env)] := by rfl) : PID X W tg (.Call (.Name "range" p) [a, b] [] pos) (iRg ta) := by
  obtain ⟨t, p1, s⟩ := ha
  refine ⟨_, pi_range2 hg hm p1 hs hs2, ?_⟩
  intro B Hf ρ σ H R Rd Ed S h hR hE
  refine s B Hf ρ σ H _ _ Ed S h (fun rs ρ1 H1 Hf1 vs q S1 h1 hlen => ?_) hE
  simp only [List.length_cons, List.length_nil] at hlen
  cases e : peeks rs ρ1 with
  | none => rw [e] at q; exact q.elim
  | some as =>
    rw [e] at q
    have pr := h1.peeks S1 e
    have l1 := h1.length
    have l2 := pr.length
    have la : as.length = 2 := by omega
    match as, la, pr, q with
    | [.d (.int i), .d (.int j)], _, pr, q =>
      obtain ⟨x, y, rfl, r1, r2⟩ := two_of pr
      obtain ⟨qb, q⟩ := q
      refine ⟨i, j, by rw [r1.int, r2.int], ⟨by omega, by omega, by omega, by omega⟩, hR _ ρ1 H1 Hf1 _ q S1 iter_range ?_⟩
      rw [rgD_len, sizeLine_eq]; omega
theorem pid_range3 {a b c : Expr} {ta : DA} {p : Pos} (hg : Gl X "range") (hm : X.mg "range" = none) (ha : PAD X W [a, b, c] ta)
    (hs : starEach [a, b, c] X.env = (false, eval a X.env) :: starEach [b, c] X.env := by rfl) (hpl : (backTo pos (starEach [b, c] X.env)).any (·.1) = false := by rfl) : PID X W tg (.Call (.Name "range" p) [a, b, c] [] pos) (iRg ta) := by
  obtain ⟨t, p1, s⟩ := ha
  refine ⟨_, pi_range3 hg hm p1 hs hpl, ?_⟩
  intro B Hf ρ σ H R Rd Ed S h hR hE
  refine s B Hf ρ σ H _ _ Ed S h (fun rs ρ1 H1 Hf1 vs q S1 h1 hlen => ?_) hE
  simp only [List.length_cons, List.length_nil] at hlen
  cases e : peeks rs ρ1 with
  | none => rw [e] at q; exact q.elim
  | some as =>
    rw [e] at q
    have pr := h1.peeks S1 e
    have l1 := h1.length
    have l2 := pr.length
    have la : as.length = 3 := by omega
    match as, la, pr, q with
    | [.d (.int i), .d (.int j), .d (.int c)], _, pr, q =>
      obtain ⟨x, y, z, rfl, r1, r2, r3⟩ := three_of pr
      obtain ⟨rfl, q1, q⟩ := q
      refine ⟨i, j, -1, (i - j).toNat, by rw [r1.int, r2.int, r3.int], RgC.neg (by omega) (by omega) (by omega) (by omega), hR _ ρ1 H1 Hf1 _ q S1 iter_rangeC ?_⟩
      rw [rgD_len, sizeLine_eq]; omega
end
end DL
set_option Elab.async false
set_option linter.all false
set_option maxRecDepth 100000
set_option maxHeartbeats 1000000
/-! DLg: slices, isinstance, stores, methods, keywords, raise, try, the law's end. -/
namespace DL
open PySem PySem.Spec PyProof.Rows L2
section
variable {X : Cx} {W : WX} {pos : Pos}

/-! ### slices -/
abbrev DO := List Sl → (Option Int → List Sl → Prop) → XD → Prop
def SemO (K : PySem.W.Frag) (W : WX) (to : TO) (t : DO) : Prop := ∀ B Hf ρ σ H (Q : Option Int → Hp → Prop) Qd Ed, SO K B Hf ρ σ H → t ρ Qd Ed → (∀ o ρ' H' Hf', Qd o ρ' → SO K B Hf' ρ' σ H' → Q o H') → XL K B W Ed → to σ H Q
structure POD (X : Cx) (W : WX) (e : Option Expr) (t : DO) : Prop where
  ex : ∃ to, PO X e to ∧ SemO X.K W to t
abbrev oNone : DO := fun ρ Q _ => Q none ρ
abbrev oSome (te : DE) : DO := fun ρ Q E => te ρ (fun r ρ1 => match peek (stl r) ρ1 with
  | some (.d (.int i)) => Q (some i) ρ1
  | _ => False) E
theorem pod_none : POD X W none oNone := ⟨_, po_none, fun B Hf ρ σ H Q Qd Ed S h hQ hE => hQ _ _ _ _ h S⟩
theorem pod_some {e : Expr} {te : DE} (he : PD X W e te) : POD X W (some e) (oSome te) := by
  obtain ⟨t, p, s⟩ := he
  refine ⟨_, po_some p, ?_⟩
  intro B Hf ρ σ H Q Qd Ed S h hQ hE
  refine s B Hf ρ σ H _ _ Ed S h (fun r1 ρ1 H1 v1 q1 e1 => ?_) hE
  obtain ⟨Hf1, S1, h1⟩ := e1.settle
  cases p : peek (stl r1) ρ1 with
  | none => rw [p] at q1; exact q1.elim
  | some a =>
    rw [p] at q1
    have R := h1.peek S1 p
    cases a with
    | sc ns => exact q1.elim
    | d d =>
      cases d with
      | int i => exact ⟨i, R.int, hQ _ ρ1 H1 Hf1 q1 S1⟩
      | _ => exact q1.elim
def cutA {α : Type} (xs : List α) (lo hi : Option Int) : List α := (xs.drop (HT.sIx xs.length 0 lo)).take (HT.sIx xs.length xs.length hi - HT.sIx xs.length 0 lo)
theorem cutA_le {α : Type} (xs : List α) (lo hi : Option Int) : (cutA xs lo hi).length ≤ xs.length := by
  unfold cutA
  rw [List.length_take, List.length_drop]
  omega
theorem Reps.cut {K : PySem.W.Frag} {H : Hp} {vs : List V} {ds : List D} (r : Reps K H vs ds) (lo hi : Option Int) : Reps K H (cutV vs lo hi) (cutA ds lo hi) := by
  unfold cutV cutA
  rw [r.length]
  exact (r.drop _).take _
abbrev dSl : SD → Option Int → Option Int → (VR → Prop) → Prop
  | .d (.list ds), lo, hi, Q => Q (.ow (.l (cutA ds lo hi)))
  | .d (.tuple ds), lo, hi, Q => Q (.fz (.tuple (cutA ds lo hi)))
  | .sc ns, lo, hi, Q => ns.length ≤ sizeLine ∧ Q (.ow (.l ((cutA ns lo hi).map .int)))
  | .d (.str x), lo, hi, Q => x.length ≤ sizeLine ∧ Q (.fz (.str (cutS x lo hi)))
  | _, _, _, _ => False
abbrev eSl (te : DE) (tl th : DO) : DE := fun ρ Q E => te ρ (fun x ρ1 => tl ρ1 (fun l ρ2 => th ρ2 (fun u ρ3 => match peek (stl x) ρ3 with
  | some a => dSl a l u fun z => Q z ρ3
  | none => False) E) E) E
theorem cut_whole {α : Type} {xs : List α} {lo hi : Option Int} (h : HT.sIx xs.length 0 lo = 0 ∧ HT.sIx xs.length xs.length hi = xs.length) : cutA xs lo hi = xs := by
  unfold cutA
  rw [h.1, h.2]
  simp
def rSlX3 (K : PySem.W.Frag) : V → Option Int → Option Int → Hp → VK → Prop := fun x lo hi H Q => rSlL K x lo hi H Q ∨ rSlA K x lo hi H Q ∨ rSlS x lo hi H Q
theorem pd_slice {e : Expr} {lo hi : Option Expr} {te : DE} {tl th : DO} {p2 : Pos} (he : PD X W e te) (hl : POD X W lo tl) (hh : POD X W hi th) : PD X W (.Subscript e (.Slice lo hi none p2) pos) (eSl te tl th) := by
  obtain ⟨t1, p1, s1⟩ := he
  obtain ⟨t2, p2, s2⟩ := hl
  obtain ⟨t3, p3, s3⟩ := hh
  refine ⟨_, pe_slice (r := rSlX3 X.K) (SlR.or sl_list (SlR.or sl_tupA sl_str)) p1 p2 p3, ?_⟩
  intro B Hf ρ σ H Q Qd Ed S h hQ hE
  refine s1 B Hf ρ σ H _ _ Ed S h (fun r1 ρ1 H1 v1 q1 e1 => ?_) hE
  obtain ⟨Hf1, S1, h1⟩ := e1.settle
  refine s2 (B.up Hf1) Hf1 ρ1 σ H1 _ _ Ed S1.raise q1 (fun l ρ2 H2 Hf2 q2 S2 => ?_) (hE.up S1.up)
  refine s3 (B.up Hf1) Hf2 ρ2 σ H2 _ _ Ed S2 q2 (fun u ρ3 H3 Hf3 q3 S3 => ?_) (hE.up S1.up)
  have S4 := S3.base S1.up
  cases p : peek (stl r1) ρ3 with
  | none => rw [p] at q3; exact q3.elim
  | some a =>
    rw [p] at q3
    have R := (h1.mono S3.up).peek S4 p
    cases a with
    | sc ns =>
      obtain ⟨a, rfl, h⟩ := R
      refine .inl ⟨a, _, rfl, h, fun p hp => hQ _ ρ3 _ _ q3.2 ⟨Hf3, S4.allocL hp ?_ ?_⟩⟩
      · have := (Reps.ofInts (K := X.K) (H := Hf3) ns).cut l u
        have e : cutA (ns.map PyData.int) l u = (cutA ns l u).map .int := by unfold cutA; rw [List.length_map, List.map_take, List.map_drop]
        rw [e] at this; exact this
      · have := cutA_le ns l u
        have hz := q3.1
        rw [List.length_map]; omega
    | d d =>
      cases d with
      | list ds =>
        obtain ⟨a, vs, rfl, h, r, z⟩ := R
        have := cutA_le ds l u
        exact .inl ⟨a, vs, rfl, SqL.of h, fun p hp => hQ _ ρ3 _ _ q3 ⟨Hf3, S4.allocL hp (r.cut l u) (by omega)⟩⟩
      | tuple ds =>
        obtain ⟨a, vs, rfl, h, r, z⟩ := R.tup
        have := cutA_le ds l u
        refine .inr (.inl ⟨a, vs, rfl, sqT_same S4.sub h, fun w => ?_, fun w p hp => ?_⟩)
        · rw [r.length] at w
          have q3 : Qd (.fz (.tuple (cutA ds l u))) ρ3 := q3
          rw [cut_whole w] at q3
          exact hQ _ ρ3 _ _ q3 ⟨Hf3, S4, .tup h r z⟩
        · exact hQ _ ρ3 _ _ q3 ⟨_, S4.alloc hp _, .tup (SqT.of upd_same) ((r.cut l u).same (same_upd (S4.sub.free hp))) (by omega)⟩
      | str x => exact .inr (.inr ⟨x, R.str, q3.1, hQ _ ρ3 _ _ q3.2 ⟨Hf3, S4, .str _⟩⟩)
      | _ => exact q3.elim

/-! ### isinstance of data -/
def tyD : D → String
  | .none => "NoneType" | .bool _ => "bool" | .int _ => "int" | .str _ => "str" | .list _ => "list" | .tuple _ => "tuple" | .dict _ => "dict"
abbrev isInt : D → Bool | .int _ => true | .bool _ => true | _ => false
abbrev isBool : D → Bool | .bool _ => true | _ => false
abbrev isStr : D → Bool | .str _ => true | _ => false
abbrev isList : D → Bool | .list _ => true | _ => false
abbrev isTuple : D → Bool | .tuple _ => true | _ => false
/-- an exception object's class is asked of the built-in types: never one of these -/
def ExcNo (K : PySem.W.Frag) (C : Addr) (T : String) : Prop := ExcC K C ∧ PySem.W.kitOne K (.ref C) (.type T) = some false
theorem kt_int : (["NoneType", "bool", "int", "str", "list", "tuple"].all fun a => kitB a "int" == some (a == "int" || a == "bool")) = true := by decide +kernel
theorem is_int : ∀ d : D, (∀ k, d ≠ .dict k) → kitB (tyD d) "int" = some (isInt d)
  | .none, _ => (eq_of_beq (List.all_eq_true.mp kt_int "NoneType" (by decide))).trans (congrArg some (by decide : (("NoneType" : String) == "int" || ("NoneType" : String) == "bool") = false))
  | .bool _, _ => (eq_of_beq (List.all_eq_true.mp kt_int "bool" (by decide))).trans (congrArg some (by decide : (("bool" : String) == "int" || ("bool" : String) == "bool") = true))
  | .int _, _ => (eq_of_beq (List.all_eq_true.mp kt_int "int" (by decide))).trans (congrArg some (by decide : (("int" : String) == "int" || ("int" : String) == "bool") = true))
  | .str _, _ => (eq_of_beq (List.all_eq_true.mp kt_int "str" (by decide))).trans (congrArg some (by decide : (("str" : String) == "int" || ("str" : String) == "bool") = false))
  | .list _, _ => (eq_of_beq (List.all_eq_true.mp kt_int "list" (by decide))).trans (congrArg some (by decide : (("list" : String) == "int" || ("list" : String) == "bool") = false))
  | .tuple _, _ => (eq_of_beq (List.all_eq_true.mp kt_int "tuple" (by decide))).trans (congrArg some (by decide : (("tuple" : String) == "int" || ("tuple" : String) == "bool") = false))
  | .dict k, h => absurd rfl (h k)
theorem kt_bool : (["NoneType", "bool", "int", "str", "list", "tuple"].all fun a => kitB a "bool" == some (a == "bool")) = true := by decide +kernel
theorem is_bool : ∀ d : D, (∀ k, d ≠ .dict k) → kitB (tyD d) "bool" = some (isBool d)
  | .none, _ => (eq_of_beq (List.all_eq_true.mp kt_bool "NoneType" (by decide))).trans (congrArg some (by decide : (("NoneType" : String) == "bool") = false))
  | .bool _, _ => (eq_of_beq (List.all_eq_true.mp kt_bool "bool" (by decide))).trans (congrArg some (by decide : (("bool" : String) == "bool") = true))
  | .int _, _ => (eq_of_beq (List.all_eq_true.mp kt_bool "int" (by decide))).trans (congrArg some (by decide : (("int" : String) == "bool") = false))
  | .str _, _ => (eq_of_beq (List.all_eq_true.mp kt_bool "str" (by decide))).trans (congrArg some (by decide : (("str" : String) == "bool") = false))
  | .list _, _ => (eq_of_beq (List.all_eq_true.mp kt_bool "list" (by decide))).trans (congrArg some (by decide : (("list" : String) == "bool") = false))
  | .tuple _, _ => (eq_of_beq (List.all_eq_true.mp kt_bool "tuple" (by decide))).trans (congrArg some (by decide : (("tuple" : String) == "bool") = false))
  | .dict k, h => absurd rfl (h k)
theorem kt_str : (["NoneType", "bool", "int", "str", "list", "tuple"].all fun a => kitB a "str" == some (a == "str")) = true := by decide +kernel
theorem is_str : ∀ d : D, (∀ k, d ≠ .dict k) → kitB (tyD d) "str" = some (isStr d)
  | .none, _ => (eq_of_beq (List.all_eq_true.mp kt_str "NoneType" (by decide))).trans (congrArg some (by decide : (("NoneType" : String) == "str") = false))
  | .bool _, _ => (eq_of_beq (List.all_eq_true.mp kt_str "bool" (by decide))).trans (congrArg some (by decide : (("bool" : String) == "str") = false))
  | .int _, _ => (eq_of_beq (List.all_eq_true.mp kt_str "int" (by decide))).trans (congrArg some (by decide : (("int" : String) == "str") = false))
  | .str _, _ => (eq_of_beq (List.all_eq_true.mp kt_str "str" (by decide))).trans (congrArg some (by decide : (("str" : String) == "str") = true))
  | .list _, _ => (eq_of_beq (List.all_eq_true.mp kt_str "list" (by decide))).trans (congrArg some (by decide : (("list" : String) == "str") = false))
  | .tuple _, _ => (eq_of_beq (List.all_eq_true.mp kt_str "tuple" (by decide))).trans (congrArg some (by decide : (("tuple" : String) == "str") = false))
  | .dict k, h => absurd rfl (h k)
theorem kt_list : (["NoneType", "bool", "int", "str", "list", "tuple"].all fun a => kitB a "list" == some (a == "list")) = true := by decide +kernel
theorem is_list : ∀ d : D, (∀ k, d ≠ .dict k) → kitB (tyD d) "list" = some (isList d)
  | .none, _ => (eq_of_beq (List.all_eq_true.mp kt_list "NoneType" (by decide))).trans (congrArg some (by decide : (("NoneType" : String) == "list") = false))
  | .bool _, _ => (eq_of_beq (List.all_eq_true.mp kt_list "bool" (by decide))).trans (congrArg some (by decide : (("bool" : String) == "list") = false))
  | .int _, _ => (eq_of_beq (List.all_eq_true.mp kt_list "int" (by decide))).trans (congrArg some (by decide : (("int" : String) == "list") = false))
  | .str _, _ => (eq_of_beq (List.all_eq_true.mp kt_list "str" (by decide))).trans (congrArg some (by decide : (("str" : String) == "list") = false))
  | .list _, _ => (eq_of_beq (List.all_eq_true.mp kt_list "list" (by decide))).trans (congrArg some (by decide : (("list" : String) == "list") = true))
  | .tuple _, _ => (eq_of_beq (List.all_eq_true.mp kt_list "tuple" (by decide))).trans (congrArg some (by decide : (("tuple" : String) == "list") = false))
  | .dict k, h => absurd rfl (h k)
theorem kt_tuple : (["NoneType", "bool", "int", "str", "list", "tuple"].all fun a => kitB a "tuple" == some (a == "tuple")) = true := by decide +kernel
theorem is_tuple : ∀ d : D, (∀ k, d ≠ .dict k) → kitB (tyD d) "tuple" = some (isTuple d)
  | .none, _ => (eq_of_beq (List.all_eq_true.mp kt_tuple "NoneType" (by decide))).trans (congrArg some (by decide : (("NoneType" : String) == "tuple") = false))
  | .bool _, _ => (eq_of_beq (List.all_eq_true.mp kt_tuple "bool" (by decide))).trans (congrArg some (by decide : (("bool" : String) == "tuple") = false))
  | .int _, _ => (eq_of_beq (List.all_eq_true.mp kt_tuple "int" (by decide))).trans (congrArg some (by decide : (("int" : String) == "tuple") = false))
  | .str _, _ => (eq_of_beq (List.all_eq_true.mp kt_tuple "str" (by decide))).trans (congrArg some (by decide : (("str" : String) == "tuple") = false))
  | .list _, _ => (eq_of_beq (List.all_eq_true.mp kt_tuple "list" (by decide))).trans (congrArg some (by decide : (("list" : String) == "tuple") = false))
  | .tuple _, _ => (eq_of_beq (List.all_eq_true.mp kt_tuple "tuple" (by decide))).trans (congrArg some (by decide : (("tuple" : String) == "tuple") = true))
  | .dict k, h => absurd rfl (h k)
theorem RepS.ty {K : PySem.W.Frag} {Hf H : Hp} {v : V} {d : D} (e : Same Hf H) (h : RepS K Hf H v (.d d)) (hd : ∀ k, d ≠ .dict k) : TyX K H v (.type (tyD d)) := by
  cases d with
  | none => rw [h.non]; exact .base .non
  | bool b => rw [h.bool]; exact .base (.bl _)
  | int i => rw [h.int]; exact .base (.int _)
  | str x => rw [h.str]; exact .base (.str _)
  | list ds => obtain ⟨a, vs, rfl, h, _⟩ := h; exact .base (.lst h)
  | tuple ds =>
    obtain ⟨a, vs, rfl, h, _⟩ := h.tup
    rcases h with (h | ⟨o, h⟩) | ⟨o, its, n, h1, h2, _⟩
    · exact .base (.tup (e _ _ h))
    · exact .fTuple (e _ _ h)
    · exact .kTuple h1 h2
  | dict k => exact absurd rfl (hd k)
/-- isinstance(x, T), isinstance(x, (T, U)) of data, T and U built-in types; exD: what is answered of exception objects -/
abbrev eIs (f : D → Bool) (ta : DE) : DE := fun ρ Q E => ta ρ (fun r ρ1 => match peek (stl r) ρ1 with
  | some (.d (.dict _)) => False
  | some (.d d) => Q (.fz (.bool (f d))) ρ1
  | _ => False) E
structure IsT (T : String) (f : D → Bool) : Prop where
  h : ∀ d : D, (∀ k, d ≠ .dict k) → kitB (tyD d) T = some (f d)
theorem ist_int : IsT "int" isInt := ⟨is_int⟩
theorem ist_bool : IsT "bool" isBool := ⟨is_bool⟩
theorem ist_str : IsT "str" isStr := ⟨is_str⟩
theorem ist_list : IsT "list" isList := ⟨is_list⟩
theorem ist_tuple : IsT "tuple" isTuple := ⟨is_tuple⟩
theorem eis_of {P : D → Prop} {a : SD} (q : match (some a : Option SD) with | some (.d (.dict _)) => False | some (.d d) => P d | _ => False) : ∃ d, a = .d d ∧ (∀ k, d ≠ .dict k) ∧ P d := by
  cases a with
  | sc _ => exact q.elim
  | d d => cases d with
    | dict k => exact q.elim
    | _ => exact ⟨_, rfl, fun k z => (nomatch z), q⟩
theorem pd_is {y : Str} {p p2 : Pos} {a : Expr} {T : String} {f : D → Bool} {ta : DE} (it : IsT T f) (hg : Gl X "isinstance") (hm : X.mg "isinstance" = none) (hg2 : Gl X y) (hm2 : X.mg y = none) (hv2 : bootBuiltins y = some (.type T)) (ha : PD X W a ta)
    (hn : y ≠ "__name__" := by decide) (hd : (y == ("__debug__" : Str)) = false := by decide)
    (he : starEach [a, .Name y p2] X.env = (false, eval a X.env) :: starEach [.Name y p2] X.env := by rfl) (hpl : (backTo pos (starEach [.Name y p2] X.env)).any (·.1) = false := by rfl) (he2 : starEach [.Name y p2] X.env = (false, eval (.Name y p2) X.env) :: starEach [] X.env := by rfl) :
    PD X W (.Call (.Name "isinstance" p) [a, .Name y p2] [] pos) (eIs f ta) := by
  obtain ⟨t, p1, s⟩ := ha
  refine ⟨_, pe_callB call_isi hg hm PyProof.Rows.boot_isinstance (pa_cons p1 (pa_cons (pe_bltn (v := .ty T) hg2 hm2 hv2 rfl hn hd) pa_nil he2) he) (by decide) (by decide) he hpl, ?_⟩
  intro B Hf ρ σ H Q Qd Ed S h hQ hE
  refine s B Hf ρ σ H _ _ Ed S h (fun r1 ρ1 H1 v1 q1 e1 => ?_) hE
  obtain ⟨Hf1, S1, h1⟩ := e1.settle
  cases pk : peek (stl r1) ρ1 with
  | none => rw [pk] at q1; exact q1.elim
  | some a =>
    rw [pk] at q1
    obtain ⟨d, rfl, hd, q⟩ := eis_of (P := fun d => Qd (.fz (.bool (f d))) ρ1) q1
    exact ⟨v1, .ty T, _, .type T, f d, rfl, .ty T, (h1.peek S1 pk).ty S1.sub hd, kit_ty (it.h d hd), hQ _ ρ1 H1 _ q ⟨Hf1, S1, .bl _⟩⟩
theorem pd_is2 {y z : Str} {p p2 p3 pt : Pos} {x1 : Nat} {a : Expr} {T U : String} {f g : D → Bool} {ta : DE} (it : IsT T f) (iu : IsT U g) (hg : Gl X "isinstance") (hm : X.mg "isinstance" = none) (hg2 : Gl X y) (hm2 : X.mg y = none) (hv2 : bootBuiltins y = some (.type T)) (hg3 : Gl X z) (hm3 : X.mg z = none) (hv3 : bootBuiltins z = some (.type U)) (ha : PD X W a ta)
    (hn : y ≠ "__name__" := by decide) (hd : (y == ("__debug__" : Str)) = false := by decide) (hn3 : z ≠ "__name__" := by decide) (hd3 : (z == ("__debug__" : Str)) = false := by decide)
    (he : starEach [a, .Tuple [.Name y p2, .Name z p3] x1 pt] X.env = (false, eval a X.env) :: starEach [.Tuple [.Name y p2, .Name z p3] x1 pt] X.env := by rfl) (hpl : (backTo pos (starEach [.Tuple [.Name y p2, .Name z p3] x1 pt] X.env)).any (·.1) = false := by rfl)
    (he2 : starEach [.Tuple [.Name y p2, .Name z p3] x1 pt] X.env = (false, eval (.Tuple [.Name y p2, .Name z p3] x1 pt) X.env) :: starEach [] X.env := by rfl)
    (he3 : starEach [.Name y p2, .Name z p3] X.env = (false, eval (.Name y p2) X.env) :: starEach [.Name z p3] X.env := by rfl) (he4 : starEach [.Name z p3] X.env = (false, eval (.Name z p3) X.env) :: starEach [] X.env := by rfl) :
    PD X W (.Call (.Name "isinstance" p) [a, .Tuple [.Name y p2, .Name z p3] x1 pt] [] pos) (eIs (fun d => f d || g d) ta) := by
  obtain ⟨t, p1, s⟩ := ha
  refine ⟨_, pe_callB call_isiT hg hm PyProof.Rows.boot_isinstance (pa_cons p1 (pa_cons (pe_tup (pa_cons (pe_bltn (v := .ty T) hg2 hm2 hv2 rfl hn hd) (pa_cons (pe_bltn (v := .ty U) hg3 hm3 hv3 rfl hn3 hd3) pa_nil he4) he3)) pa_nil he2) he) (by decide) (by decide) he hpl, ?_⟩
  intro B Hf ρ σ H Q Qd Ed S h hQ hE
  refine s B Hf ρ σ H _ _ Ed S h (fun r1 ρ1 H1 v1 q1 e1 => ?_) hE
  obtain ⟨Hf1, S1, h1⟩ := e1.settle
  cases pk : peek (stl r1) ρ1 with
  | none => rw [pk] at q1; exact q1.elim
  | some a =>
    rw [pk] at q1
    obtain ⟨d, rfl, hd, q⟩ := eis_of (P := fun d => Qd (.fz (.bool (f d || g d))) ρ1) q1
    refine ⟨by show 2 ≤ sizeLine; decide, fun p hp => ?_⟩
    have S2 := S1.junk (same_upd (o := .tup [.ty T, .ty U]) hp)
    refine ⟨v1, p, [.ty T, .ty U], _, [.type T, .type U], f d || g d, rfl, upd_same, .cons (.ty T) (.cons (.ty U) .nil), (h1.peek S2 pk).ty S2.sub hd, ?_, hQ _ ρ1 _ _ q ⟨Hf1, S2, .bl _⟩⟩
    refine kitAny_cons (kit_ty (it.h d hd)) (fun e => ?_) (fun e => by rw [e]; rfl)
    refine kitAny_cons (kit_ty (iu.h d hd)) (fun e2 => ?_) (fun e2 => by rw [e, e2]; rfl)
    rw [e, e2]; exact kitAny_nil

/-! ### stores into an owned list, methods of one -/
abbrev conL : Sl → Option (List D)
  | .ow (.l ds) => some ds
  | .pw _ (.l ds) => some ds
  | _ => none
abbrev wrL (s : Sl) (es : List D) : Sl := match s with
  | .pw a _ => .pw a (.l es)
  | _ => .ow (.l es)
theorem SO.wr {K : PySem.W.Frag} {B : Bs} {Hf H : Hp} {ρ : List Sl} {σ : L2.St} {i : Nat} {ds : List D} {v : V} (S : SO K B Hf ρ σ H) (hc : conL (getS ρ i) = some ds) (hv : σ[i]? = some (some v)) : ∃ p vs, v = .ref p ∧ H p = some (.lst vs) ∧ Reps K Hf vs ds ∧ ds.length ≤ sizeLine ∧
    ∀ us es, Reps K Hf us es → es.length ≤ sizeLine → SO K B Hf (setS ρ i (wrL (getS ρ i) es)) σ (upd H p (.lst us)) := by
  generalize hs : getS ρ i = s at hc
  have hn : s ≠ .nil := fun z => by rw [z] at hc; cases hc
  have hi := getS_eq hs hn
  have lt := S.lt hi
  obtain ⟨w, e1, S1⟩ := S.takeSl hi
  rw [hv] at e1; cases e1
  obtain ⟨fp, ⟨v', σ', f1, f2, e2, e3, h1, h2⟩, n1, n2⟩ := S1.sl
  cases e2; subst e3
  have key : ∃ p, v = .ref p ∧ OwnR K Hf H (.l ds) p f1 ∧ ∀ (H' : Hp) (es : List D), OwnR K Hf H' (.l es) p f1 → SlO K Hf H' (wrL s es) (some v) f1 := by
    cases s with
    | ow c =>
      cases c with
      | l ds' =>
        cases hc
        obtain ⟨p, e, q⟩ := h1
        cases e
        exact ⟨p, rfl, q, fun H' es q' => ⟨p, rfl, q'⟩⟩
    | pw a c =>
      cases c with
      | l ds' =>
        cases hc
        obtain ⟨e, q⟩ := h1
        cases e
        exact ⟨a, rfl, q, fun H' es q' => ⟨rfl, q'⟩⟩
    | _ => cases hc
  obtain ⟨p, rfl, ⟨rfl, z, vs, q1, q2⟩, back⟩ := key
  refine ⟨p, vs, rfl, q1, q2, z, fun us es r ze => ?_⟩
  have hp := n2 p (by simp)
  have nd := List.nodup_cons.mp n1
  have ne : ∀ b ∈ f2, b ≠ p := fun b hb e => nd.1 (e ▸ hb)
  have S2 : SO K B Hf (wrL s es :: ρ.set i .nil) (some (.ref p) :: σ) (upd H p (.lst us)) := by
    refine ⟨S1.up, fun b o e => ?_, fun b o e => ?_, [p] ++ f2, ⟨_, _, [p], f2, rfl, rfl, back _ es ⟨rfl, ze, us, upd_same, r⟩, h2.mono (Same.refl _) fun b hb => upd_ne (ne b hb)⟩, n1, n2⟩
    · rw [upd_ne (fun z => by rw [z, hp.1] at e; cases e)]
      exact S1.sub _ _ e
    · rw [upd_ne (fun z => by rw [z, hp.2] at e; cases e)]
      exact S1.fr b o e
  have S3 := S2.putSl (i := i) (by rw [List.getElem?_set_self lt])
  rw [List.set_set, set_self_of hv] at S3
  rw [setS_eq]
  exact S3
/-- xs[k] = e, xs an owned list at a name -/
abbrev sSt (i : Nat) (te ti : DE) : DS := fun D ρ => te ρ (fun r ρ1 => frz r ρ1 fun d ρ2 => (conL (getS ρ2 i)).isSome = true ∧ ti ρ2 (fun r2 ρ3 => match peek (stl r2) ρ3, conL (getS ρ3 i) with
  | some (.d (.int k)), some ds => ∃ j, ixN ds.length k = some j ∧ D.nx (setS ρ3 i (wrL (getS ρ3 i) (ds.set j d)))
  | _, _ => False) D.ex) D.ex
theorem conL_var {K : PySem.W.Frag} {B : Bs} {Hf H : Hp} {ρ : List Sl} {σ : L2.St} {i : Nat} (S : SO K B Hf ρ σ H) (h : (conL (getS ρ i)).isSome = true) : ∃ p, σ[i]? = some (some (.ref p)) := by
  generalize hs : getS ρ i = s at h
  have hn : s ≠ .nil := fun z => by rw [z] at h; cases h
  obtain ⟨w, fp, e, q⟩ := S.get (getS_eq hs hn)
  cases s with
  | ow c => obtain ⟨a, e2, _⟩ := q; subst e2; exact ⟨a, e⟩
  | pw a c => obtain ⟨e2, _⟩ := q; subst e2; exact ⟨a, e⟩
  | _ => cases h
theorem psd_st (i : Nat) {x : Str} {e ie : Expr} {te ti : DE} {p1 p2 : Pos} (he : PD X W e te) (hi : PD X W ie ti) (hN : X.N[i]? = some x := by rfl) (hv : Vis X.env.scope x := by first | exact Or.inl rfl | exact Or.inr (Or.inl rfl) | exact Or.inr (Or.inr rfl))
    (ha : ∀ v, assign (.Subscript (.Name x p1) ie p2) X.env v = (do
      let ov ← holding [v] (eval (.Name x p1) X.env)
      let iv ← holding [v, ov] (eval ie X.env)
      standAt p2
      holding [v, ov, iv] (setItem ov iv v)
      release [v, ov, iv] []) := by intro _; rfl)
    (hs : swapsWithSole [.Subscript (.Name x p1) ie p2] e pos.line X.env = pure false := by rfl) (hw : swappedStores [.Subscript (.Name x p1) ie p2] e X.env = pure none := by rfl)
    (h1 : (assignEach [.Subscript (.Name x p1) ie p2] X.env).map (·.2) = [assign (.Subscript (.Name x p1) ie p2) X.env] := by rfl)
    (hd : (x == ("__debug__" : Str)) = false := by decide) (hcd : (x == ("__classdict__" : Str)) = false := by decide) : PSD X W (.Assign [.Subscript (.Name x p1) ie p2] e pos) (sSt i te ti) := by
  obtain ⟨t, p, s⟩ := he
  obtain ⟨t2, q2, s2⟩ := hi
  refine ⟨_, ps_asg p (pg_sub (pv i hN hv hd hcd) q2 set_list ha) hs hw h1, ?_⟩
  intro B Hf ρ σ H D D' S L h
  refine s B Hf ρ σ H _ _ _ S h (fun r ρ' H' v q e => ?_) L.ex
  obtain ⟨Hf', d, ρ2, S2, rv, hc, q⟩ := e.frz q
  obtain ⟨pp, hp⟩ := conL_var S2 hc
  refine ⟨_, hp, ?_⟩
  refine s2 (B.up Hf') Hf' ρ2 σ H' _ _ _ S2.raise q (fun r2 ρ3 H3 v3 q3 e3 => ?_) (L.ex.up S2.up)
  obtain ⟨Hf3, S3, h3⟩ := e3.settle
  cases pk : peek (stl r2) ρ3 with
  | none => rw [pk] at q3; exact q3.elim
  | some a =>
    cases ck : conL (getS ρ3 i) with
    | none => rw [pk, ck] at q3; cases a with | sc _ => exact q3.elim | d d => cases d <;> exact q3.elim
    | some ds =>
      rw [pk, ck] at q3
      cases a with
      | sc _ => exact q3.elim
      | d d0 =>
        cases d0 with
        | int k =>
          obtain ⟨j, hj, q3⟩ := q3
          obtain ⟨p3, vs, e4, w1, w2, w3, w4⟩ := S3.wr ck hp
          cases e4
          refine ⟨pp, vs, k, j, rfl, (h3.peek S3 pk).int, w1, by rw [w2.length]; exact hj, ?_⟩
          exact L.nx _ _ _ _ q3 ((w4 (vs.set j v) (ds.set j d) (w2.set (rv.same S3.up) j) (by rw [List.length_set]; exact w3)).base S2.up)
        | _ => exact q3.elim

abbrev OpM := List D → List D → (D → List D → Prop) → Prop
def ConnM (K : PySem.W.Frag) (r : V → List V → Hp → VK → Prop) (op : OpM) : Prop := ∀ (Hf H : Hp) (p : Addr) (vs : List V) (ds : List D) (xs : List V) (args : List D) (Q : VK) (P : D → List D → Prop), H p = some (.lst vs) → Reps K Hf vs ds → ds.length ≤ sizeLine → Reps K Hf xs args → op ds args P → Same Hf H →
  (∀ res es v us, P res es → Rep K Hf v res → Reps K Hf us es → es.length ≤ sizeLine → Q v (upd H p (.lst us))) → r (.ref p) xs H Q
abbrev eMt (i : Nat) (op : OpM) (ta : DF) : DE := fun ρ Q E => (conL (getS ρ i)).isSome = true ∧ ta ρ (fun args ρ1 => match conL (getS ρ1 i) with
  | some ds => op ds args fun res es => Q (.fz res) (setS ρ1 i (wrL (getS ρ1 i) es))
  | none => False) E
theorem tyv_list {K : PySem.W.Frag} {B : Bs} {Hf H : Hp} {ρ : List Sl} {σ : L2.St} {i : Nat} {p : Addr} (S : SO K B Hf ρ σ H) (h : (conL (getS ρ i)).isSome = true) (hp : σ[i]? = some (some (.ref p))) : tyV K "list" (.ref p) H := by
  cases ck : conL (getS ρ i) with
  | none => rw [ck] at h; cases h
  | some ds =>
    obtain ⟨p', vs, e, w1, _⟩ := S.wr ck hp
    cases e
    exact .inl ⟨rfl, vs, SqL.of w1⟩
theorem pd_mt (i : Nat) {x name : Str} {id : String} {r : V → List V → Hp → VK → Prop} {op : OpM} {e : Expr} {es : List Expr} {ta : DF} {px apos : Pos} (hm : MtR X id r) (c : ConnM X.K r op) (slot : Slot "list" name id) (hty : typeOf (.builtin id) = pure (.type "method_descriptor")) (ha : PFD X W (e :: es) ta)
    (hN : X.N[i]? = some x := by rfl) (hv : Vis X.env.scope x := by first | exact Or.inl rfl | exact Or.inr (Or.inl rfl) | exact Or.inr (Or.inr rfl))
    (hbase : attributeBase (.Name x px) name X.env (eval (.Name x px) X.env) = eval (.Name x px) X.env := by rfl)
    (hfew : ((backTo pos (starEach (e :: es) X.env)).all (fun x => !x.1) && (backToKw pos (keywordEach [] X.env)).all (fun x => x.1.isSome)
      && decide ((e :: es).length + ([] : List Keyword).length + (if ([] : List Keyword).isEmpty then 0 else 1) < 30)) = true := by rfl)
    (hline : (apos.endLine == pos.line) = true := by rfl) (hs : starEach (e :: es) X.env = (false, eval e X.env) :: starEach es X.env := by rfl) (hplain : (backTo pos (starEach es X.env)).any (·.1) = false := by rfl)
    (hd : (x == ("__debug__" : Str)) = false := by decide) (hcd : (x == ("__classdict__" : Str)) = false := by decide) : PD X W (.Call (.Attribute (.Name x px) name apos) (e :: es) [] pos) (eMt i op ta) := by
  obtain ⟨t, p, s⟩ := ha
  refine ⟨_, pe_bm PySem.F.plainAttrs_list slot hty hm (pv i hN hv hd hcd) p hbase hfew hline hs hplain, ?_⟩
  intro B Hf ρ σ H Q Qd Ed S h hQ hE
  obtain ⟨hc, h⟩ := h
  obtain ⟨pp, hp⟩ := conL_var S hc
  refine ⟨_, hp, tyv_list S hc hp, ?_⟩
  refine s B Hf ρ σ H _ _ _ S h (fun args ρ1 H1 Hf1 xs q S1 r1 _ => ?_) hE
  cases ck : conL (getS ρ1 i) with
  | none => rw [ck] at q; exact q.elim
  | some ds =>
    rw [ck] at q
    obtain ⟨p', vs, e, w1, w2, w3, w4⟩ := S1.wr ck hp
    cases e
    exact c Hf1 H1 pp vs ds xs args Q _ w1 w2 w3 r1 q S1.sub fun res es v us qr rr ru z => hQ _ _ _ _ qr ⟨Hf1, w4 us es ru z, rr⟩
theorem pd_mt0 (i : Nat) {x name : Str} {id : String} {r : V → List V → Hp → VK → Prop} {op : OpM} {px apos : Pos} (hm : MtR X id r) (c : ConnM X.K r op) (slot : Slot "list" name id) (hty : typeOf (.builtin id) = pure (.type "method_descriptor"))
    (hN : X.N[i]? = some x := by rfl) (hv : Vis X.env.scope x := by first | exact Or.inl rfl | exact Or.inr (Or.inl rfl) | exact Or.inr (Or.inr rfl))
    (hbase : attributeBase (.Name x px) name X.env (eval (.Name x px) X.env) = eval (.Name x px) X.env := by rfl) (hline : (apos.endLine == pos.line) = true := by rfl)
    (hd : (x == ("__debug__" : Str)) = false := by decide) (hcd : (x == ("__classdict__" : Str)) = false := by decide) : PD X W (.Call (.Attribute (.Name x px) name apos) [] [] pos) (eMt i op fNil) := by
  refine ⟨_, pe_bm0 PySem.F.plainAttrs_list slot hty hm (pv i hN hv hd hcd) hbase hline, ?_⟩
  intro B Hf ρ σ H Q Qd Ed S h hQ hE
  obtain ⟨hc, h⟩ := h
  obtain ⟨pp, hp⟩ := conL_var S hc
  refine ⟨_, hp, tyv_list S hc hp, ?_⟩
  have q : match conL (getS ρ i) with | some ds => op ds [] fun res es => Qd (.fz res) (setS ρ i (wrL (getS ρ i) es)) | none => False := h
  cases ck : conL (getS ρ i) with
  | none => rw [ck] at q; exact q.elim
  | some ds =>
    rw [ck] at q
    obtain ⟨p', vs, e, w1, w2, w3, w4⟩ := S.wr ck hp
    cases e
    exact c Hf H pp vs ds [] [] Q _ w1 w2 w3 .nil q S.sub fun res es v us qr rr ru z => hQ _ _ _ _ qr ⟨Hf, w4 us es ru z, rr⟩
abbrev mAppend : OpM := fun ds args P => match args with
  | [d] => ds.length < sizeLine ∧ P .none (ds ++ [d])
  | _ => False
theorem cm_append {K : PySem.W.Frag} : ConnM K rAppend mAppend := by
  intro Hf H p vs ds xs args Q P hp r z ra op e k
  match args, ra, op with
  | [d], .cons (v := y) h .nil, op =>
    exact ⟨p, vs, y, rfl, rfl, hp, by rw [r.length]; exact op.1, k _ _ _ _ op.2 .non (r.append (.cons h .nil)) (by rw [List.length_append, List.length_singleton]; exact op.1)⟩
abbrev mPop : OpM := fun ds args P => match args with
  | [] => ∃ d, ds[ds.length - 1]? = some d ∧ P d ds.dropLast
  | _ => False
theorem cm_pop {K : PySem.W.Frag} : ConnM K rPop mPop := by
  intro Hf H p vs ds xs args Q P hp r z ra op e k
  match args, ra, op with
  | [], .nil, op =>
    obtain ⟨d, hd, op⟩ := op
    rw [← r.length] at hd
    obtain ⟨y, hy, ry⟩ := r.get' hd
    exact ⟨p, vs, y, rfl, rfl, hp, hy, k _ _ _ _ op ry r.dropLast (by rw [List.length_dropLast]; omega)⟩
abbrev mPopAt : OpM := fun ds args P => match args with
  | [.int i] => -(2 ^ 63) ≤ i ∧ i < 2 ^ 63 ∧ ∃ j d, seqIndex? i ds.length = some j ∧ ds[j]? = some d ∧ P d (ds.eraseIdx j)
  | _ => False
theorem cm_popAt {K : PySem.W.Frag} : ConnM K rPopAt mPopAt := by
  intro Hf H p vs ds xs args Q P hp r z ra op e k
  match args, ra, op with
  | [.int i], .cons (v := y) h .nil, op =>
    obtain ⟨b1, b2, j, d, hj, hd, op⟩ := op
    cases h
    obtain ⟨y, hy, ry⟩ := r.get' hd
    exact ⟨p, vs, i, j, y, rfl, rfl, hp, b1, b2, by rw [r.length]; exact hj, hy, k _ _ _ _ op ry (r.eraseIdx j) (Nat.le_trans (len_erase ds j) z)⟩
abbrev mInsert : OpM := fun ds args P => match args with
  | [.int i, d] => ds.length < sizeLine ∧ 0 ≤ i ∧ i < 2 ^ 63 ∧ P .none (ds.take i.toNat ++ [d] ++ ds.drop i.toNat)
  | _ => False
theorem cm_insert {K : PySem.W.Frag} : ConnM K (fun x vs H Q => ∃ (l : Addr) (xs : List V) (i : Int) (y : V), x = .ref l ∧ vs = [.int i, y] ∧ H l = some (.lst xs) ∧ xs.length < sizeLine ∧ 0 ≤ i ∧ i < 2 ^ 63 ∧
    Q .non (upd H l (.lst (xs.take i.toNat ++ [y] ++ xs.drop i.toNat)))) mInsert := by
  intro Hf H p vs ds xs args Q P hp r z ra op e k
  match args, ra, op with
  | [.int i, d], .cons h0 (.cons (v := y) h .nil), op =>
    obtain ⟨b0, b1, b2, op⟩ := op
    cases h0
    refine ⟨p, vs, i, y, rfl, rfl, hp, by rw [r.length]; exact b0, b1, b2, k _ _ _ _ op .non (((r.take _).append (.cons h .nil)).append (r.drop _)) ?_⟩
    simp only [List.length_append, List.length_take, List.length_drop, List.length_cons, List.length_nil]
    omega
abbrev mExtend : OpM := fun ds args P => match args with
  | [.list es] => ds.length + es.length ≤ sizeLine ∧ P .none (ds ++ es)
  | _ => False
theorem cm_extend {K : PySem.W.Frag} : ConnM K rExtend mExtend := by
  intro Hf H p vs ds xs args Q P hp r z ra op e k
  match args, ra, op with
  | [.list es], .cons (v := y) h .nil, op =>
    cases h with
    | lst h rs z2 => exact ⟨p, _, vs, _, rfl, rfl, hp, e _ _ h, by rw [r.length, rs.length]; exact op.1, k _ _ _ _ op.2 .non (r.append rs) (by rw [List.length_append]; exact op.1)⟩
abbrev mReverse : OpM := fun ds args P => match args with
  | [] => P .none ds.reverse
  | _ => False
theorem cm_reverse {K : PySem.W.Frag} : ConnM K rReverse mReverse := by
  intro Hf H p vs ds xs args Q P hp r z ra op e k
  match args, ra, op with
  | [], .nil, op => exact ⟨p, vs, rfl, rfl, hp, k _ _ _ _ op .non r.reverse (by rw [List.length_reverse]; exact z)⟩
end
end DL
set_option Elab.async false
set_option linter.all false
set_option maxRecDepth 100000
set_option maxHeartbeats 1000000
/-! DLh: the text's defs, keywords, raise, try, the law's end. -/
namespace DL
open PySem PySem.Spec PyProof.Rows L2

/-! ### the defs of the text -/
structure Has (K : PySem.W.Frag) (mg : Str → Option Value) (x : Str) (st : Stmt) : Prop where
  ex : ∃ f fd, Fun K x x st f fd ∧ mg x = some (.ref f)
theorem has_mk {K : PySem.W.Frag} {h : Heap} {mg : Str → Option Value} {x : Str} {st : Stmt} {f : Addr} {oc : Value} {od an : Option Addr} {osl : Array (Option Value)} {kV doc pm cdv ct : Value} (X : K.In h) (G : h.Ns mainGlobals mg) (a : PySem.W.nsIn K mainGlobals x = some (some (.ref f)))
    (l : K.lookup f = some ⟨oc, od, .func (PySem.W.fnOf x x (defArgs st) (defBody st) (defScope st) .none kV doc pm an cdv ct), osl⟩) (c : PySem.W.codeIn K cdv x = true) (k : PySem.W.keepIn K (.ref f) = true) : Has K mg x st :=
  ⟨f, _, fun_mk l c k, PySem.W.mg_of X G a⟩
/-- a def that may be called: its promise -/
structure FnC (P : Program) (w : World) (K : PySem.W.Frag) (mg : Str → Option Value) (base : Heap) (k : Nat) (x : Str) (ps : List Str) (st : Stmt) (sp : Spc) : Prop where
  ex : ∃ f fd, Fun K x x st f fd ∧ mg x = some (.ref f) ∧ FnOk P w K mg base (L2.CX P w) k f fd ps (spOf K ps.length sp.fs)
section
variable {P : Program} {w : World} {K : PySem.W.Frag} {mg : Str → Option Value} {base : Heap}
theorem FnC.mono {j k : Nat} {x : Str} {ps : List Str} {st : Stmt} {sp : Spc} (F : FnC P w K mg base j x ps st sp) (h : j ≤ k) : FnC P w K mg base k x ps st sp := let ⟨f, fd, a, b, c⟩ := F; ⟨f, fd, a, b, c.mono h⟩
/-- THE RULE for a def of the text -/
theorem defC {x : Str} {st : Stmt} {N ps : List Str} {k : Nat} (Hs : Has K mg x st) (S : FnScope N ps (defScope st)) (sp : Spc)
    (hbody : ∀ (cdv : Value) (f : Addr) (A : Around) (outer : List Env) (s : Shared) (H : Hp) (E : XK), Room k (A.deeper (envOfC x (defScope st) s.heap.objs.size f cdv)) →
      ∃ t, PBD (cxOf (L2.CX P w) P w K mg base N x (defScope st) f cdv A outer s H E) (fun cls d _ H => E cls d H) (defBody st) t ∧ ∀ as ad, sp.pre as → as.length = ps.length → t (endsOf sp as ad) (startS as ad 0 ++ List.replicate (N.length - ps.length) .nil)) :
    FnC P w K mg base (k + 1) x ps st sp := by
  obtain ⟨f, fd, F, gm⟩ := Hs
  exact ⟨f, fd, F, gm, def_ok F S sp fun cdv A outer s H E hr => hbody cdv f A outer s H E hr⟩
end
section
variable {X : Cx} {W : WX} {pos : Pos}
/-- how the arguments of a text's def bind: by place -/
structure BindP (st : Stmt) (x : Str) (ps : List Str) : Prop where
  h : ∀ (kV doc pm : Value) (an : Option Addr) (cdv ct : Value) (us : List Value), us.length = ps.length → bindArgs (PySem.W.fnOf x x (defArgs st) (defBody st) (defScope st) .none kV doc pm an cdv ct) ⟨us, []⟩ = pure (ps.zip us)
/-- .. by keywords alone, ks in the call's sequence, g puts them in the parameters' -/
structure BindK (st : Stmt) (x : Str) (ps ks : List Str) (pm : List Nat) : Prop where
  h : ∀ (kV doc pmv : Value) (an : Option Addr) (cdv ct : Value) (us : List Value), us.length = ks.length → bindArgs (PySem.W.fnOf x x (defArgs st) (defBody st) (defScope st) .none kV doc pmv an cdv ct) ⟨[], ks.zip us⟩ = pure (ps.zip (pm.filterMap (us[·]?)))
theorem pd_callC {x : Str} {p : Pos} {e : Expr} {es : List Expr} {k j : Nat} {ps : List Str} {st : Stmt} {sp : Spc} {tc : DC} (tk : Takes X W) (F : FnC X.prog X.w X.K X.mg X.base k x ps st sp) (hr : Room j X.A) (hj : k ≤ j) (bp : BindP st x ps) (hg : Gl X x)
    (ha : PCD X W (e :: es) tc) (hl : (e :: es).length = ps.length := by rfl) (hdb : (x == ("__debug__" : Str)) = false := by decide) (he : starEach (e :: es) X.env = (false, eval e X.env) :: starEach es X.env := by rfl) (hpl : (backTo pos (starEach es X.env)).any (·.1) = false := by rfl) :
    PD X W (.Call (.Name x p) (e :: es) [] pos) (eCall sp.fs tc) := by
  obtain ⟨f, fd, F1, gm, F2⟩ := F
  exact pd_call tk F2 (hr.mono hj) hg gm F1.kp (F1.binds bp.h) ha hl hdb he hpl
abbrev permL {α : Type} (pm : List Nat) (l : List α) : List α := pm.filterMap (l[·]?)
theorem paired_perm {α β : Type} {F : α → β → Prop} {as : List α} {bs : List β} (h : Paired F as bs) : ∀ pm : List Nat, Paired F (permL pm as) (permL pm bs)
  | [] => .nil
  | i :: pm => by
    have get : ∀ {as : List α} {bs : List β} {i : Nat}, Paired F as bs → (as[i]? = none ∧ bs[i]? = none) ∨ ∃ a b, as[i]? = some a ∧ bs[i]? = some b ∧ F a b := by
      intro as bs i p
      induction p generalizing i with
      | nil => exact .inl ⟨by simp, by simp⟩
      | @cons a b l1 l2 h t ih =>
        cases i with
        | zero => exact .inr ⟨a, b, rfl, rfl, h⟩
        | succ i => simpa using ih (i := i)
    unfold permL
    rcases get (i := i) h with ⟨e1, e2⟩ | ⟨a, b, e1, e2, q⟩
    · rw [List.filterMap_cons, List.filterMap_cons, e1, e2]
      exact paired_perm h pm
    · rw [List.filterMap_cons, List.filterMap_cons, e1, e2]
      exact .cons q (paired_perm h pm)
/-- f(k = v, ..), every parameter by its name -/
theorem pe_callKw {x : Str} {p : Pos} {kws : List Keyword} {k : Nat} {f : Addr} {fd : FuncData} {ps ks : List Str} {s0 : Sp} {tk : TA} {CX : CXT} {E : L2.St → XK} {pm : List Nat}
    (F : FnOk X.prog X.w X.K X.mg X.base CX k f fd ps s0) (hr : Room k X.A) (hg : Gl X x) (hm : X.mg x = some (.ref f)) (hk : PySem.W.keepIn X.K (.ref f) = true)
    (hb : ∀ (s : Shared) (ws : List Value), ws.length = ks.length → BindsTo s fd ⟨[], ks.zip ws⟩ (ps.zip (permL pm ws))) (hx : ∀ σ, PassesAt CX X σ (E σ))
    (hkw : PK X kws tk) (hall : (backToKw pos (keywordEach kws X.env)).all (·.1.isSome) = true := by rfl) (hks : (backToKw pos (keywordEach kws X.env)).filterMap (·.1) = ks := by rfl) (hdb : (x == ("__debug__" : Str)) = false := by decide)
    (hpl : ((backTo pos (starEach [] X.env)).any (·.1) || (backToKw pos (keywordEach kws X.env)).any (·.1.isNone)) = false := by rfl) :
    PE X (.Call (.Name x p) [] kws pos) (fun σ H Q => tk σ H fun zs H2 => zs.length = ks.length ∧ s0 (permL pm zs) H2 Q (E σ)) := by
  refine ⟨fun pins s σ H Q I h => ?_⟩
  refine wpAny_Call_Name_kw (ld_glob I hg hm ?_ hdb)
  refine PySem.W.callWith_KW0 (h₀ := X.base) I.ok.mod.kin hk hall (thn (hkw.run pos pins s σ H _ I h) fun ws s2 hh => ?_) hpl
  obtain ⟨zs, H2, I2, rz, lz, q2⟩ := hh
  refine ⟨I2.kIn, ?_⟩
  rw [hks]
  have r2 : Vals (permL pm zs) (permL pm ws) := paired_perm rz pm
  have lw := rz.length
  refine wpAny_call (codeAny_mono (F.run X.A X.stack s2 H2 ⟨[], ks.zip ws⟩ (permL pm ws) (permL pm zs) Q (E σ) hr I2.env0 (hb s2 ws (by omega)) r2 q2) fun r s' hq => ?_)
  cases r with
  | error e => exact hx σ pins H2 s2 e s' I2 hq
  | ok fl =>
    cases fl with
    | ret u => exact I2.after hq
    | next => exact False.elim hq
    | brk => exact False.elim hq
    | cont => exact False.elim hq
structure PKD (X : Cx) (W : WX) (kws : List Keyword) (t : DC) : Prop where
  ex : ∃ ta, PK X kws ta ∧ SemC X.K W ta kws.length t
theorem pkd_nil : PKD X W [] cNil := ⟨_, pk_nil, fun B Hf ρ σ H Q Qd Ed S h hQ hE => hQ [] _ _ Hf _ h S .nil rfl⟩
theorem pkd_cons {nm : Option Str} {kpos : Pos} {e : Expr} {kws : List Keyword} {te : DE} {ta : DC} (he : PD X W e te) (ha : PKD X W kws ta) : PKD X W (⟨nm, e, kpos⟩ :: kws) (cFz te ta) := by
  obtain ⟨t1, p1, s1⟩ := he
  obtain ⟨t2, p2, s2⟩ := ha
  refine ⟨_, pk_cons p1 p2, ?_⟩
  intro B Hf ρ σ H Q Qd Ed S h hQ hE
  refine s1 B Hf ρ σ H _ _ Ed S h (fun r1 ρ1 H1 v1 q1 e1 => ?_) hE
  have other : ∀ d ρ2 Hf1, SO X.K B Hf1 ρ2 σ H1 → Rep X.K Hf1 v1 d → ta ρ2 (fun ags ρ3 => Qd (.fz d :: ags) ρ3) Ed → t2 σ H1 fun xs H2 => Q (v1 :: xs) H2 := by
    intro d ρ2 Hf1 S1 h1 q
    refine s2 (B.up Hf1) Hf1 ρ2 σ H1 _ _ Ed S1.raise q (fun ags ρ3 H2 Hf2 vs q2 S2 h2 l2 => ?_) (hE.up S1.up)
    exact hQ (.fz d :: ags) ρ3 H2 Hf2 (v1 :: vs) q2 (S2.base S1.up) (.cons (h1.same S2.up) h2) (congrArg (· + 1) l2)
  cases r1 with
  | sc ns =>
    obtain ⟨Hf1, a, S1, rfl, h1⟩ := e1
    refine s2 (B.up Hf1) Hf1 ρ1 σ H1 _ _ Ed S1.raise q1 (fun ags ρ3 H2 Hf2 vs q2 S2 h2 l2 => ?_) (hE.up S1.up)
    exact hQ (.sc ns :: ags) ρ3 H2 Hf2 (_ :: vs) q2 (S2.base S1.up) (.cons ⟨a, rfl, S2.up.seq h1⟩ h2) (congrArg (· + 1) l2)
  | fz d =>
    obtain ⟨Hf1, d, ρ2, S1, h1, q⟩ := e1.frz q1
    exact other d ρ2 Hf1 S1 h1 q
  | ow c =>
    obtain ⟨Hf1, d, ρ2, S1, h1, q⟩ := e1.frz q1
    exact other d ρ2 Hf1 S1 h1 q
  | bw i =>
    obtain ⟨Hf1, d, ρ2, S1, h1, q⟩ := e1.frz q1
    exact other d ρ2 Hf1 S1 h1 q
abbrev noOw : List Ag → Bool
  | [] => true
  | .fz _ :: r => noOw r
  | .sc _ :: r => noOw r
  | _ :: _ => false
abbrev nthR {α : Type} : List α → Nat → Option α
  | [], _ => none
  | a :: _, 0 => some a
  | _ :: l, i + 1 => nthR l i
abbrev permR {α : Type} : List Nat → List α → List α
  | [], _ => []
  | i :: pm, l => match nthR l i with
    | some x => x :: permR pm l
    | none => permR pm l
theorem nthR_eq {α : Type} : ∀ (l : List α) (i : Nat), nthR l i = l[i]?
  | [], _ => by simp [nthR]
  | _ :: _, 0 => rfl
  | _ :: l, i + 1 => by simpa [nthR] using nthR_eq l i
theorem permR_eq {α : Type} : ∀ (pm : List Nat) (l : List α), permR pm l = permL pm l
  | [], _ => rfl
  | i :: pm, l => by
    unfold permL
    rw [List.filterMap_cons]
    have ih := permR_eq pm l
    unfold permL at ih
    show (match nthR l i with | some x => x :: permR pm l | none => permR pm l) = _
    rw [nthR_eq, ih]
    cases l[i]? <;> rfl
/-- the keywords' values in the parameters' sequence -/
abbrev cPerm (pm : List Nat) (tc : DC) : DC := fun ρ Q E => tc ρ (fun ags ρ1 => noOw ags = true ∧ Q (permR pm ags) ρ1) E
theorem noOw_tops : ∀ {ags : List Ag}, noOw ags = true → tops ags = []
  | [], _ => rfl
  | .fz _ :: r, h => noOw_tops (ags := r) h
  | .sc _ :: r, h => noOw_tops (ags := r) h
  | .bw _ :: _, h => by cases h
  | .ow _ :: _, h => by cases h
theorem noOw_topV : ∀ {ags : List Ag} {vs : List V}, noOw ags = true → topV ags vs = []
  | [], [], _ => rfl
  | [], _ :: _, _ => rfl
  | .fz _ :: r, _ :: vs, h => noOw_topV (ags := r) (vs := vs) h
  | .fz _ :: r, [], h => rfl
  | .sc _ :: r, [], h => rfl
  | .sc _ :: r, _ :: vs, h => noOw_topV (ags := r) (vs := vs) h
  | .bw _ :: _, _, h => by cases h
  | .ow _ :: _, _, h => by cases h
theorem permL_ow {pm : List Nat} {ags : List Ag} (h : noOw ags = true) : noOw (permL pm ags) = true := by
  have mem : ∀ {l : List Ag}, noOw l = true ↔ ∀ a ∈ l, (∃ d, a = .fz d) ∨ ∃ ns, a = .sc ns := by
    intro l
    induction l with
    | nil => simp [noOw]
    | cons a r ih =>
      cases a with
      | fz d => simp [noOw, ih]
      | sc ns => simp [noOw, ih]
      | bw i => simp [noOw]
      | ow c => simp [noOw]
  refine mem.mpr fun a ha => ?_
  unfold permL at ha
  obtain ⟨i, _, hi⟩ := List.mem_filterMap.mp ha
  exact mem.mp h a (List.mem_of_getElem? hi)
theorem pd_callKw {x : Str} {p : Pos} {kws : List Keyword} {k j : Nat} {ps ks : List Str} {st : Stmt} {sp : Spc} {tc : DC} (pm : List Nat) (tk : Takes X W) (F : FnC X.prog X.w X.K X.mg X.base k x ps st sp) (hr : Room j X.A) (hj : k ≤ j) (bp : BindK st x ps ks pm) (hg : Gl X x)
    (ha : PKD X W kws tc) (hn : ∀ (l : List V), l.length = ks.length → (permL pm l).length = ps.length) (hkl : kws.length = ks.length := by rfl) (hdb : (x == ("__debug__" : Str)) = false := by decide) (hall : (backToKw pos (keywordEach kws X.env)).all (·.1.isSome) = true := by rfl) (hks : (backToKw pos (keywordEach kws X.env)).filterMap (·.1) = ks := by rfl)
    (hpl : ((backTo pos (starEach [] X.env)).any (·.1) || (backToKw pos (keywordEach kws X.env)).any (·.1.isNone)) = false := by rfl) :
    PD X W (.Call (.Name x p) [] kws pos) (eCall sp.fs (cPerm pm tc)) := by
  obtain ⟨f, fd, F1, gm, F2⟩ := F
  obtain ⟨ta, pa, sa⟩ := ha
  have hb : ∀ (s : Shared) (ws : List Value), ws.length = ks.length → BindsTo s fd ⟨[], ks.zip ws⟩ (ps.zip (permL pm ws)) := by
    intro s ws hl
    obtain ⟨oc, od, kV, doc, pmv, an, cdv, ct, osl, rfl, lk, hcd⟩ := F1.ex
    exact .of_eq (bp.h kV doc pmv an cdv ct ws hl)
  refine ⟨_, pe_callKw (E := WE W) F2 (hr.mono hj) hg gm F1.kp hb (fun σ => passAt tk σ) pa hall hks hdb hpl, ?_⟩
  intro B Hf ρ σ H Q Qd Ed S h hQ hE
  refine sa B Hf ρ σ H _ _ Ed S h (fun ags ρ1 H1 Hf1 vs q S1 h1 l1 => ?_) hE
  obtain ⟨hno, q⟩ := q
  rw [permR_eq] at q
  have hp := permL_ow (pm := pm) hno
  have S1' : SO X.K B Hf1 (tops (permL pm ags) ++ ρ1) (topV (permL pm ags) (permL pm vs) ++ σ) H1 := by
    rw [noOw_tops hno, noOw_topV hno] at S1
    rw [noOw_tops hp, noOw_topV hp]
    exact S1
  obtain ⟨as, ρ2, bs, fr, q2, S2, back, backX⟩ := call_frame S1' (paired_perm h1 pm) q
  refine ⟨l1.trans hkl, hn vs (l1.trans hkl), fr, Hf1, as, S2, ?_⟩
  refine ⟨q2.1, fun r as' p Hf' H' v S3 => hQ _ _ H' v (q2.2.1 r as' p) (back Hf' H' r v as' S3), fun C as' p Hf' H' S3 => ?_⟩
  obtain ⟨Hf2, S4⟩ := backX Hf' H' as' S3
  exact hE C _ σ H' Hf2 (q2.2.2 C as' p) S4

/-! ### raise, try -/
/-- an exception class of the text without an __init__ of its own -/
structure ExT (K : PySem.W.Frag) (mg : Str → Option Value) (x : Str) (C : Addr) : Prop where
  g : mg x = some (.ref C)
  x : PySem.W.excIn K C [.type "ValueError", .type "Exception", .type "BaseException", .type "object"] "ValueError.__new__" = true
  k : PySem.W.keepIn K (.ref C) = true
  b : PySem.W.subIn K (.ref C) (.type "BaseException") = some true
  t : PySem.W.typeIn K (.ref C) = some (.type "type")
abbrev sRaise (C : Addr) : DS := fun D ρ => D.ex C ρ
theorem psd_raise {x m : Str} {j : Nat} {p p2 pos2 : Pos} {C : Addr} (tk : Takes X W) (hc : X.calm = true) (T : ExT X.K X.mg x C) (hg : Gl X x) (hdb : (x == ("__debug__" : Str)) = false := by decide) : PSD X W (.Raise (some (.Call (.Name x p) [.Constant (.str m) j p2] [] pos)) none pos2) (sRaise C) := by
  refine ⟨_, ps_raise hc tk (pmk_own PySem.F.excBase_ValueError T.x T.g T.k (raises_own T.b T.t) hg hdb), ?_⟩
  intro B Hf ρ σ H D D' S L h
  exact L.ex C ρ σ H Hf h S
/-- try .. except x (as n): m tells which classes are caught, su the suite -/
abbrev tryX (i : Option Nat) (m : Addr → Option Bool) (su : Addr → Addr → DS) (D : DEnds) : XD := fun C ρ1 => match m C with
  | some true => ∀ a, (match i with
    | some i => su a C { nx := fun ρ2 => D.nx (setS ρ2 i .nil), rt := D.rt, bk := fun ρ2 => D.bk (setS ρ2 i .nil), ct := fun ρ2 => D.ct (setS ρ2 i .nil), ex := noX } (setS ρ1 i (.xa a))
    | none => su a C { D with ex := noX } ρ1)
  | some false => D.ex C ρ1
  | none => False
abbrev sTry (i : Option Nat) (m : Addr → Option Bool) (body : DS) (su : Addr → Addr → DS) : DS := fun D ρ => body { D with ex := tryX i m su D } ρ
/-- the suites, whatever the exception -/
structure SuD (X : Cx) (b₀ : Stmt) (suite : List Stmt) (m : Addr → Option Bool) (su : Addr → Addr → DS) : Prop where
  h : ∀ (a : Addr) (oe : Obj) (C : Addr) (pn : List (Addr × Obj)), m C = some true → Zc (.ref C) none oe → (∃ vs, oe.data = .fields vs) → PBD (X.suite a ((a, oe) :: pn)) W0 (b₀ :: suite) (su a C)
theorem SuD.all {b₀ : Stmt} {suite : List Stmt} {m : Addr → Option Bool} {su : Addr → Addr → DS} (h : SuD X b₀ suite m su) : ∃ ts : Addr → Value → Option Addr → TS,
    (∀ (a : Addr) (oe : Obj) (cls : Value) (d : Option Addr) (pn : List (Addr × Obj)), Zc cls d oe → (∃ vs, oe.data = .fields vs) → PSs (X.suite a ((a, oe) :: pn)) (b₀ :: suite) (ts a cls d)) ∧
    ∀ a C, m C = some true → SemS X.K W0 (ts a (.ref C) none) (su a C) := by
  refine ⟨fun a cls d D σ H => (∃ C, cls = .ref C ∧ d = none ∧ m C = some true) ∧ ∀ (C : Addr) (hC : m C = some true), cls = .ref C → ∀ (oe : Obj) (pn : List (Addr × Obj)) (hz : Zc (.ref C) none oe) (hf : ∃ vs, oe.data = .fields vs), (Classical.choose (h.h a oe C pn hC hz hf).ex) D σ H, ?_, ?_⟩
  · intro a oe cls d pn hz hf
    refine ⟨fun pins s σ H D I q => ?_⟩
    obtain ⟨⟨C, rfl, rfl, hC⟩, q⟩ := q
    exact (Classical.choose_spec (h.h a oe C pn hC hz hf).ex).1.run pins s σ H D I (q C hC rfl oe pn hz hf)
  · intro a C hC B Hf ρ σ H D D' S L q
    refine ⟨⟨C, rfl, rfl, hC⟩, fun C' hC' e oe pn hz hf => ?_⟩
    cases e
    exact (Classical.choose_spec (h.h a oe C pn hC hz hf).ex).2 B Hf ρ σ H D D' S L q
theorem body_all {body : List Stmt} {t : DS} (hb : ∀ (W : WX) (pn : List (Addr × Obj)) (xe : Value → Shared → Prop), Takes (X.tr pn xe) W → PassesOwn (model X.prog X.w) X.A X.env xe → PBD (X.tr pn xe) W body t) :
    ∃ tb : WX → TS, (∀ (W : WX) (pn : List (Addr × Obj)) (xe : Value → Shared → Prop), Takes (X.tr pn xe) W → PassesOwn (model X.prog X.w) X.A X.env xe → PSs (X.tr pn xe) body (tb W)) ∧ ∀ W, SemS X.K W (tb W) t := by
  refine ⟨fun W D σ H => ∀ (pn : List (Addr × Obj)) (xe : Value → Shared → Prop) (tk : Takes (X.tr pn xe) W) (po : PassesOwn (model X.prog X.w) X.A X.env xe), (Classical.choose (hb W pn xe tk po).ex) D σ H, ?_, ?_⟩
  · intro W pn xe tk po
    exact ⟨fun pins s σ H D I q => (Classical.choose_spec (hb W pn xe tk po).ex).1.run pins s σ H D I (q pn xe tk po)⟩
  · intro W B Hf ρ σ H D D' S L q pn xe tk po
    exact (Classical.choose_spec (hb W pn xe tk po).ex).2 B Hf ρ σ H D D' S L q
theorem xa_set {K : PySem.W.Frag} {B : Bs} {Hf H : Hp} {ρ : List Sl} {σ : L2.St} (S : SO K B Hf ρ σ H) (i : Nat) (a : Addr) : SO K B Hf (setS ρ i (.xa a)) (σ.set i (some (.ref a))) H := S.setFz i (s := .xa a) ⟨rfl, rfl⟩
theorem psd_try {x : Str} {c : Value} {body suite : List Stmt} {b₀ : Stmt} {np pos' : Pos} {m : Addr → Option Bool} {t : DS} {su : Addr → Addr → DS} (hs : X.stack = X.env :: X.outer) (hf : X.env.frame = some X.env.locals) (hc : Names X x c) (tk : Takes X W)
    (hm : ∀ C b, m C = some b → PySem.W.exmOne X.K (.ref C) c = some b)
    (hb : ∀ (W : WX) (pn : List (Addr × Obj)) (xe : Value → Shared → Prop), Takes (X.tr pn xe) W → PassesOwn (model X.prog X.w) X.A X.env xe → PBD (X.tr pn xe) W body t) (hsu : SuD X b₀ suite m su) :
    PSD X W (.Try body [.ExceptHandler (some (.Name x np)) none (b₀ :: suite) pos'] [] [] pos) (sTry none m t su) := by
  obtain ⟨tb, p1, s1⟩ := body_all hb
  obtain ⟨ts, p2, s2⟩ := hsu.all
  refine ⟨_, ps_try_only (tb := tb) (ts := ts) hs hf hc tk p1 p2, ?_⟩
  intro B Hf ρ σ H D D' S L h
  refine s1 _ B Hf ρ σ H { D with ex := tryX none m su D } D' S ⟨L.nx, L.rt, L.bk, L.ct, ?_⟩ h
  intro C ρ1 σ1 H1 Hf1 q S1
  have q : tryX none m su D C ρ1 := q
  unfold tryX at q
  cases e : m C with
  | none => rw [e] at q; exact q.elim
  | some b =>
    rw [e] at q
    refine ⟨b, hm C b e, fun hb a ha => ?_, fun hb => ?_⟩
    · subst hb
      exact s2 a C e B Hf1 ρ1 σ1 H1 { D with ex := noX } D' S1 ⟨L.nx, L.rt, L.bk, L.ct, xl_no⟩ (q a)
    · subst hb
      exact L.ex C ρ1 σ1 H1 Hf1 q S1
theorem psd_tryAs (i : Nat) {x n : Str} {c : Value} {body suite : List Stmt} {b₀ : Stmt} {np pos' : Pos} {m : Addr → Option Bool} {t : DS} {su : Addr → Addr → DS} (hs : X.stack = X.env :: X.outer) (hf : X.env.frame = some X.env.locals) (hN : X.N.Nodup) (hi : X.N[i]? = some n) (hln : X.env.kindOf n = some .local) (hc : Names X x c) (tk : Takes X W)
    (hm : ∀ C b, m C = some b → PySem.W.exmOne X.K (.ref C) c = some b)
    (hb : ∀ (W : WX) (pn : List (Addr × Obj)) (xe : Value → Shared → Prop), Takes (X.tr pn xe) W → PassesOwn (model X.prog X.w) X.A X.env xe → PBD (X.tr pn xe) W body t) (hsu : SuD X b₀ suite m su) :
    PSD X W (.Try body [.ExceptHandler (some (.Name x np)) (some n) (b₀ :: suite) pos'] [] [] pos) (sTry (some i) m t su) := by
  obtain ⟨tb, p1, s1⟩ := body_all hb
  obtain ⟨ts, p2, s2⟩ := hsu.all
  refine ⟨_, ps_try_as (tb := tb) (ts := ts) hs hf hN hi hln hc tk p1 p2, ?_⟩
  intro B Hf ρ σ H D D' S L h
  refine s1 _ B Hf ρ σ H { D with ex := tryX (some i) m su D } D' S ⟨L.nx, L.rt, L.bk, L.ct, ?_⟩ h
  intro C ρ1 σ1 H1 Hf1 q S1
  have q : tryX (some i) m su D C ρ1 := q
  unfold tryX at q
  cases e : m C with
  | none => rw [e] at q; exact q.elim
  | some b =>
    rw [e] at q
    refine ⟨b, hm C b e, fun hb a ha => ?_, fun hb => ?_⟩
    · subst hb
      refine s2 a C e B Hf1 _ _ H1 { nx := fun ρ2 => D.nx (setS ρ2 i .nil), rt := D.rt, bk := fun ρ2 => D.bk (setS ρ2 i .nil), ct := fun ρ2 => D.ct (setS ρ2 i .nil), ex := noX } _ (xa_set S1 i a) ⟨fun ρ σ H Hf q S => L.nx _ _ _ _ q (S.setNone i), L.rt, fun ρ σ H Hf q S => L.bk _ _ _ _ q (S.setNone i), fun ρ σ H Hf q S => L.ct _ _ _ _ q (S.setNone i), xl_no⟩ (q a)
    · subst hb
      exact L.ex C ρ1 σ1 H1 Hf1 q S1
end

/-! ### the law's end -/
theorem law_end {l : PySem.W.OpenLaw} {q : Program} {loose : List Str} {XP : (Str → Option Value) → Heap → Prop} {YP : World → Heap → Prop} {d : DefRec} {K : Params → PySem.W.Frag} {st : Stmt} {k : Nat} {x : Str} {sp : Spc} (hn : l.most = some 63) (hdf : d.params.defaults = []) (hr : Room k callerA)
    (hY : ∀ (w : World) (h : Heap), YP w h → (K w.params).In h) (bp : BindP st d.name [x])
    (F : ∀ (w : World) (mg : Str → Option Value) (h : Heap), (K w.params).In h → h.Ns mainGlobals mg → ∀ base : Heap, (K w.params).In base → base.Ns mainGlobals mg → FnC l.prog w (K w.params) mg base k d.name [x] st sp)
    (hp : ∀ ns : List Int, ns.length ≤ 63 → (∀ z ∈ ns, Builtin.Int.intBits z ≤ 1048576) → sp.pre [.sc ns] ∧ (∀ r as', sp.post [.sc ns] r as' → r = .fz (.bool true)) ∧ ∀ C as', ¬ sp.exc [.sc ns] C as') :
    PySem.W.WalkO q loose XP YP l.row.toRowW d [] (fun f vs => PySem.call f vs) := by
  refine L2.walk_ofB (n := 63) (k := k) (x := x) (CX := fun w => L2.CX l.prog w) (sp := fun w => spOf (K w.params) 1 sp.fs) hn (by decide) hdf hr hY (fun w mg fa h KX G hfa => ?_) (fun w H a ns hl hb hO hS => ?_) fun w H s e s' h => ?_
  · obtain ⟨f, fd, F1, gm, _⟩ := F w mg h KX G h KX G
    refine ⟨fd, fun s v => ?_, fun base Kb Gb => ?_⟩
    · obtain ⟨oc, od, kV, doc, pmv, an, cdv, ct, osl, rfl, lk, hcd⟩ := F1.ex
      exact .of_eq (bp.h kV doc pmv an cdv ct [v] rfl)
    · obtain ⟨f', fd', F1', gm', F2'⟩ := F w mg h KX G base Kb Gb
      have e1 : f' = fa := by rw [hfa] at gm'; cases gm'; rfl
      have e2 : f = fa := by rw [hfa] at gm; cases gm; rfl
      subst e1
      subst e2
      obtain ⟨oc, od, kV, doc, pmv, an, cdv, ct, osl, e3, lk, hcd⟩ := F1.ex
      obtain ⟨oc', od', kV', doc', pmv', an', cdv', ct', osl', e4, lk', hcd'⟩ := F1'.ex
      rw [lk] at lk'
      have : fd = fd' := by cases lk'; rfl
      rw [this]
      exact F2'
  · obtain ⟨h1, h2, h3⟩ := hp ns hl hb
    refine ⟨rfl, fun _ => none, H, [.sc ns], ⟨Same.refl _, Same.refl _, fun _ _ e => (by cases e), [], ⟨_, _, [], [], rfl, rfl, ⟨rfl, a, rfl, hS⟩, rfl, rfl⟩, List.nodup_nil, fun _ h => by simp at h⟩, h1, fun r as' p Hf' H' v S' => ?_, fun C as' p => absurd p (h3 C as')⟩
    have e := h2 r as' p
    subst e
    obtain ⟨v', fp, e1, e2, y, e3, rv⟩ := S'.get (i := 0) rfl
    cases e1
    cases e3
    cases rv
    rfl
  · obtain ⟨_, _, _, _, _, _, _, _, _, _, _, _, z⟩ := h
    exact z
end DL
set_option Elab.async false
set_option linter.all false
set_option maxRecDepth 100000
set_option maxHeartbeats 1000000
/-! DLi: chains, in, divmod, a caught exception's class. -/
namespace DL
open PySem PySem.Spec PyProof.Rows L2
section
variable {X : Cx} {W : WX} {pos : Pos}

/-! ### a constant of the text -/
theorem pd_globI {x : Str} {i : Int} (hg : Gl X x) (h : ∃ t, X.mg x = some (.int i t)) (hd : (x == ("__debug__" : Str)) = false := by decide) : PD X W (.Name x pos) (eC (.int i)) := by
  obtain ⟨t, h⟩ := h
  exact pd_glob (v := .int i) hg h ⟨t, rfl⟩ (fun _ => .int i) hd
theorem pd_globR {x : Str} {d : D} (hg : Gl X x) (h : ∃ a, X.mg x = some (.ref a) ∧ ∀ H, Rep X.K H (.ref a) d) (hd : (x == ("__debug__" : Str)) = false := by decide) : PD X W (.Name x pos) (eC d) := by
  obtain ⟨a, h, r⟩ := h
  exact pd_glob (v := .ref a) hg h rfl r hd
theorem u65 {k : Nat} {A : Around} (r : Room k A) : A.units + 65 < cLine := by have := r.un; omega

/-! ### a op b op2 c -/
abbrev eChain (rd rd' : DE2) (ta tb tc : DE) : DE := fun ρ Q E => ta ρ (fun x ρ1 => tb ρ1 (fun y ρ2 => pk2 (stl x) (stl y) ρ2 fun a b => rd a b fun z => match z with
  | .fz (.bool k) => if k = true then tc ρ2 (fun w ρ3 => pk2 (stl y) (stl w) ρ3 fun b c => rd' b c fun z => Q z ρ3) E else Q (.fz (.bool false)) ρ2
  | _ => False) E) E
theorem sem_chain {r r' : R2} {rd rd' : DE2} {ta tb tc : TE} {da db dc : DE} (c : Conn X.K r rd) (c' : Conn X.K r' rd') (ha : Sem1 X.K W ta da) (hb : Sem1 X.K W tb db) (hc : Sem1 X.K W tc dc) : Sem1 X.K W (tChain r r' ta tb tc) (eChain rd rd' da db dc) := by
  intro B Hf ρ σ H Q Qd Ed S h hQ hE
  refine ha B Hf ρ σ H _ _ Ed S h (fun r1 ρ1 H1 v1 q1 e1 => ?_) hE
  obtain ⟨Hf1, S1, h1⟩ := e1.settle
  refine hb (B.up Hf1) Hf1 ρ1 σ H1 _ _ Ed S1.raise q1 (fun r2 ρ2 H2 v2 q2 e2 => ?_) (hE.up S1.up)
  obtain ⟨Hf2, S2, h2⟩ := e2.settle
  have S3 := S2.base S1.up
  obtain ⟨a, b, p1, p2, q⟩ := pk2_of q2
  refine c (B.up Hf2) Hf2 ρ2 σ H2 v1 v2 a b _ _ S3.raise ((h1.mono S2.up).peek S3 p1) (h2.peek S3 p2) q fun z H3 v qz ez => ?_
  match z, qz with
  | .fz (.bool k), qz =>
    obtain ⟨Hf3, S4, rv⟩ := ez
    have ev : v = .bl k := by cases rv; rfl
    refine ⟨k, ev, ?_⟩
    cases k with
    | false => exact hQ _ _ H3 _ qz ⟨Hf3, S4.base S3.up, .bl _⟩
    | true =>
      refine hc (B.up Hf3) Hf3 ρ2 σ H3 _ _ Ed (S4.base S3.up).raise qz (fun r4 ρ4 H4 v4 q4 e4 => ?_) (hE.up (S4.base S3.up).up)
      obtain ⟨Hf5, S5, h5⟩ := e4.settle
      have S6 := S5.base (S4.base S3.up).up
      obtain ⟨b', c'', p3, p4, q5⟩ := pk2_of q4
      exact c' B Hf5 ρ4 σ H4 v2 v4 b' c'' Q _ S6 (((h2.mono S4.up).mono S5.up).peek S6 p3) (h5.peek S6 p4) q5 fun z H' v qz ez => hQ z ρ4 H' v qz ez
theorem pd_chain {op op' : CmpOp} {r r' : R2} {rd rd' : DE2} {a b c : Expr} {ta tb tc : DE} (ho : OpR X (compareOp op) r) (cn : Conn X.K r rd) (ho' : OpR X (compareOp op') r') (cn' : Conn X.K r' rd') (ha : PD X W a ta) (hb : PD X W b tb) (hc : PD X W c tc)
    (hm : lastMarks [op, op'] [b, c] = false := by with_unfolding_all rfl) : PD X W (.Compare a [op, op'] [b, c] pos) (eChain rd rd' ta tb tc) := by
  obtain ⟨t1, p1, s1⟩ := ha
  obtain ⟨t2, p2, s2⟩ := hb
  obtain ⟨t3, p3, s3⟩ := hc
  exact ⟨_, pe_chain ho ho' p1 p2 p3 hm, sem_chain cn cn' s1 s2 s3⟩
theorem ptd_chain {op op' : CmpOp} {r r' : R2} {rd rd' : DE2} {a b c : Expr} {ta tb tc : DE} (ho : OpR X (compareOp op) r) (cn : Conn X.K r rd) (ho' : OpR X (compareOp op') r') (cn' : Conn X.K r' rd') (ha : PD X W a ta) (hb : PD X W b tb) (hc : PD X W c tc)
    (hm : lastMarks [op, op'] [b, c] = false := by with_unfolding_all rfl) : PTD X W (.Compare a [op, op'] [b, c] pos) (dB (eChain rd rd' ta tb tc)) := by
  obtain ⟨t1, p1, s1⟩ := ha
  obtain ⟨t2, p2, s2⟩ := hb
  obtain ⟨t3, p3, s3⟩ := hc
  refine ⟨_, pt_chain ho ho' p1 p2 p3 hm, ?_⟩
  exact sem_b (sem_chain cn cn' s1 s2 s3)

/-! ### in -/
def flatD : D → Bool
  | .none => true
  | .bool _ => true
  | .int _ => true
  | .str _ => true
  | _ => false
abbrev dInn (n : Bool) : DE2
  | .d a, .d (.tuple ds), Q => SeqAt.shaped a = true ∧ SeqAt.shaped (.tuple ds) = true ∧ Q (.fz (.bool (n.xor (ds.any fun y => PyData.eqv y a))))
  | .d a, .d (.list ds), Q => SeqAt.shaped a = true ∧ SeqAt.shaped (.list ds) = true ∧ Q (.fz (.bool (n.xor (ds.any fun y => PyData.eqv y a))))
  | _, _, _ => False
def rInT (K : PySem.W.Frag) (n : Bool) : R2 := fun x y H Q => ∃ d ds, Dp K H x d ∧ Dp K H y (.tuple ds) ∧ SeqAt.shaped d = true ∧ SeqAt.shaped (.tuple ds) = true ∧ Q (.bl (n.xor (ds.any fun z => PyData.eqv z d))) H
theorem op_inT (hu : X.A.units + 65 < cLine) : OpR X (compareOp .In) (rInT X.K false) := by
  intro pins s σ H x y v u Q I rx ry h
  obtain ⟨d, ds, hd, he, sd, se, q⟩ := h
  rw [Bool.false_xor] at q
  obtain ⟨as, r1⟩ := Dp.reads I d x v hd rx
  obtain ⟨bs, r2⟩ := Dp.reads I (.tuple ds) y u he ry
  exact SeqAt.in_tuple_reads r2 r1 (SeqAt.canLay_of_shaped se) (SeqAt.canLay_of_shaped sd) (room_in_shaped sd hu) ⟨.bl _, H, I, rfl, q⟩
theorem op_notInT (hu : X.A.units + 65 < cLine) : OpR X (compareOp .NotIn) (rInT X.K true) := by
  intro pins s σ H x y v u Q I rx ry h
  obtain ⟨d, ds, hd, he, sd, se, q⟩ := h
  rw [Bool.true_xor] at q
  obtain ⟨as, r1⟩ := Dp.reads I d x v hd rx
  obtain ⟨bs, r2⟩ := Dp.reads I (.tuple ds) y u he ry
  exact SeqAt.notIn_tuple_reads r2 r1 (SeqAt.canLay_of_shaped se) (SeqAt.canLay_of_shaped sd) (room_in_shaped sd hu) ⟨.bl _, H, I, rfl, q⟩
def rInA (K : PySem.W.Frag) (n : Bool) : R2 := fun x y H Q => rInT K n x y H Q ∨ (if n then rNotInD K x y H Q else rInD K x y H Q)
theorem op_inA (hu : X.A.units + 65 < cLine) : OpR X (compareOp .In) (rInA X.K false) := OpR.or (op_inT hu) (op_inD hu)
theorem op_notInA (hu : X.A.units + 65 < cLine) : OpR X (compareOp .NotIn) (rInA X.K true) := OpR.or (op_notInT hu) (op_notInD hu)
theorem c_inn {K : PySem.W.Frag} (n : Bool) : Conn K (rInA K n) (dInn n) := by
  intro B Hf ρ σ H x y a b Q Qd S ra rb q k
  cases a with
  | sc _ => exact q.elim
  | d a =>
    cases b with
    | sc _ => exact q.elim
    | d b =>
      cases b with
      | tuple ds =>
        obtain ⟨f1, f2, q⟩ := q
        have d1 := (ra.rep S.sub).dp _ _ (SeqAt.canLay_of_shaped f1)
        have d2 := (rb.rep S.sub).dp _ _ (SeqAt.canLay_of_shaped f2)
        exact .inl ⟨a, ds, d1, d2, f1, f2, k _ _ _ q ⟨Hf, S, .bl _⟩⟩
      | list ds =>
        obtain ⟨f1, f2, q⟩ := q
        refine .inr ?_
        have d1 := (ra.rep S.sub).dp _ _ (SeqAt.canLay_of_shaped f1)
        have d2 := (rb.rep S.sub).dp _ _ (SeqAt.canLay_of_shaped f2)
        cases n
        · exact ⟨a, ds, d1, d2, f1, f2, k _ _ _ q ⟨Hf, S, by rw [Bool.false_xor]; exact .bl _⟩⟩
        · exact ⟨a, ds, d1, d2, f1, f2, k _ _ _ q ⟨Hf, S, by rw [Bool.true_xor]; exact .bl _⟩⟩
      | _ => exact q.elim

/-! ### divmod -/
abbrev dDivmod : DEn
  | [.d (.int i), .d (.int j)], Q => CDivP i j ∧ Q (.fz (.tuple [.int (i / j), .int (i % j)]))
  | _, _ => False
theorem c_divmod {K : PySem.W.Frag} : ConnN K (fun xs H Q => ∃ i j, xs = [.int i, .int j] ∧ CDivP i j ∧ ∀ p, H p = none → Q (.ref p) (upd H p (.tup [.int (i / j), .int (i % j)]))) dDivmod := by
  intro B Hf ρ σ H xs as Q Qd S r q k
  match as, q with
  | [.d (.int i), .d (.int j)], q =>
    obtain ⟨x, y, rfl, r1, r2⟩ := two_of r
    refine ⟨i, j, by rw [r1.int, r2.int], q.1, fun p hp => k _ _ _ q.2 ⟨_, S.alloc hp _, ?_⟩⟩
    exact .tup (SqT.of upd_same) (.cons (.int _) (.cons (.int _) .nil)) (by show 2 ≤ sizeLine; decide)
theorem divp_small {i j : Int} (hj : 0 < j) (h : i.natAbs < 2 ^ 4000) : CDivP i j := divp_ok hj (by
  have := PyProof.Rows.intBits_le h
  omega)

/-! ### isinstance of what a suite caught -/
abbrev eIsE (i : Nat) (a : Addr) (o : Option Bool) : DE := fun ρ Q _ => match o with
  | some b => getS ρ i = .xa a ∧ Q (.fz (.bool b)) ρ
  | none => False
theorem pd_isE (i : Nat) {a C : Addr} {oe : Obj} {pn : List (Addr × Obj)} {x y : Str} {p p1 p2 : Pos} {o : Option Bool} {te : V} {cv : Value} (E : ExcC X.K C) (hz : Zc (.ref C) none oe) (hf : ∃ vs, oe.data = .fields vs)
    (hg : Gl X "isinstance") (hm : X.mg "isinstance" = none) (hN : X.N[i]? = some x) (hv : Vis X.env.scope x) (hd : (x == ("__debug__" : Str)) = false) (hcd : (x == ("__classdict__" : Str)) = false)
    (hy : PE (X.suite a ((a, oe) :: pn)) (.Name y p2) (tC te)) (hcv : ∀ u, RelV te u → u = cv) (hb : ∀ b, o = some b → PySem.W.kitOne X.K (.ref C) cv = some b)
    (he : starEach [.Name x p1, .Name y p2] (X.suite a ((a, oe) :: pn)).env = (false, eval (.Name x p1) (X.suite a ((a, oe) :: pn)).env) :: starEach [.Name y p2] (X.suite a ((a, oe) :: pn)).env := by rfl) (he2 : starEach [.Name y p2] (X.suite a ((a, oe) :: pn)).env = (false, eval (.Name y p2) (X.suite a ((a, oe) :: pn)).env) :: starEach [] (X.suite a ((a, oe) :: pn)).env := by rfl)
    (hpl : (backTo pos (starEach [.Name y p2] (X.suite a ((a, oe) :: pn)).env)).any (·.1) = false := by rfl) :
    PD (X.suite a ((a, oe) :: pn)) W (.Call (.Name "isinstance" p) [.Name x p1, .Name y p2] [] pos) (eIsE i a o) := by
  refine ⟨_, pe_callB (X := X.suite a ((a, oe) :: pn)) (call_isE E hz hf) hg hm PyProof.Rows.boot_isinstance (pa_cons (pe_var (X := X.suite a ((a, oe) :: pn)) (i := i) hN hv hd hcd) (pa_cons hy pa_nil he2) he) (by decide) (by decide) he hpl, ?_⟩
  intro B Hf ρ σ H Q Qd Ed S h hQ hE
  cases o with
  | none => exact h.elim
  | some b =>
    obtain ⟨h1, h2⟩ := h
    obtain ⟨w, fp, e1, e2, e3⟩ := S.get (getS_eq h1 (fun z => nomatch z))
    refine ⟨.ref a, ?_, te, cv, b, rfl, hcv, hb b rfl, hQ _ ρ H _ h2 ⟨Hf, S, .bl _⟩⟩
    rw [e1, e3]
end
end DL
set_option Elab.async false
set_option linter.all false
set_option maxRecDepth 100000
set_option maxHeartbeats 1000000
/-! DLj: enumerate, zip, op=, exceptions as data. -/
namespace DL
open PySem PySem.Spec PyProof.Rows L2
/-! ### enumerate over a tuple -/
theorem meets_enum1 {v : Value} {o : Obj} {H : Heap → Prop} (B : Begins v o H) :
    Meets (Builtin.«enumerate.__new__» ⟨[.type "enumerate", v], []⟩) (fun _ R s => H s.heap ∧
      R (.ok (.ret (.ref (s.heap.push o).objs.size))) { s with heap := (s.heap.push o).push { cls := .type "enumerate", data := .fields #[.none, .bool false, .ref s.heap.objs.size, rawInt 0, .none, .none] } }) :=
  .of_wp fun prog w A R s h => by
    obtain ⟨hp, g, d, tk, os⟩ := s; obtain ⟨h1, h⟩ := h
    have hsub := sub_enumerate
    have q1 : ∀ {A' : Around} {E : Value → Shared → Prop} {Q : Value → Shared → Prop}, Q (.ref hp.objs.size) ⟨hp.push o, g, d, tk, os⟩ → wpAny (model prog w) A' (pyIter v) Q E ⟨hp, g, d, tk, os⟩ :=
      fun q => B.iter prog w _ _ ⟨hp, g, d, tk, os⟩ _ h1 q
    wp_walk using q1
    refine wpAny_stack_any fun st => wpAny_pure ?_
    split
    · rename_i c _ _ _ _ _
      cases (c == Value.type "enumerate")
      · wp_walk using q1
        exact ⟨_, rfl, h⟩
      · wp_walk using q1
        exact ⟨_, rfl, h⟩
    · wp_walk using q1
      exact ⟨_, rfl, h⟩
theorem enum_begins1 {prog : Program} {w : World} {A : Around} {E : Value → Shared → Prop} {s : Shared} {v : Value} {o : Obj} {H : Heap → Prop} {Q : Value → Shared → Prop} (B : Begins v o H) (h1 : H s.heap)
    (h : ∀ h', IsEnum h' (s.heap.objs.size + 1) s.heap.objs.size 0 .none → h'.get? s.heap.objs.size = some o → h'.objs.size = s.heap.objs.size + 2 →
      (∀ b o, s.heap.get? b = some o → h'.get? b = some o) → Q (.ref (s.heap.objs.size + 1)) { s with heap := h' }) :
    wpAny (model prog w) A (call (.type "enumerate") [v]) Q E s := by
  refine callType_new F.called_enumerate (by decide) (F.typeCall_enumerate_1 _) (F.newCall_enumerate_1 _) (fun obj => F.args_object_init_2 obj _) F.entry_enumerate_new
    (meets_enum1 B) ⟨h1, ?_⟩
  have hz : (s.heap.push o).objs.size = s.heap.objs.size + 1 := Heap.size_push ..
  show _ ∧ _
  rw [hz]
  have he : IsEnum ((s.heap.push o).push { cls := .type "enumerate", data := .fields #[.none, .bool false, .ref s.heap.objs.size, rawInt 0, .none, .none] }) (s.heap.objs.size + 1) s.heap.objs.size 0 .none := by
    have := Heap.get?_push_size (s.heap.push o) (o := { cls := .type "enumerate", data := .fields #[.none, .bool false, .ref s.heap.objs.size, rawInt 0, .none, .none] }) rfl
    rw [hz] at this; exact this
  refine ⟨⟨_, he, rfl⟩, h _ he (Heap.get?_push_of_some _ (Heap.get?_push_size _ B.free)) (by rw [Heap.size_push, hz]) fun b o x => Heap.get?_push_of_some _ (Heap.get?_push_of_some _ x)⟩
def IteT (K : PySem.W.Frag) (a : Addr) : It :=
  ⟨fun i H => ∃ (xs : List V) (x : V), SqT K H a xs ∧ xs[i]? = some x, fun i H v H' => ∃ T x, v = .ref T ∧ H T = none ∧ H' = upd H T (.tup [.int (i : Nat), x]) ∧ ∀ xs, SqT K H a xs → xs[i]? = some x, fun i H => ∃ xs : List V, SqT K H a xs ∧ xs.length ≤ i⟩
theorem turn_enumT {P : Program} {w : World} {K : PySem.W.Frag} {elts : List Expr} {kk : Nat} {tpos : Pos} (a e it : Addr) :
    Turn P w K (.Tuple elts kk tpos) (IteT K a) [e, it] e (fun i h => (∃ old, IsEnum h e it ((i : Nat) : Int) old) ∧ h.IsTupleIter it a i ∧ e ≠ it ∧ e ≠ a ∧ a ≠ it) where
  mem := by simp
  obj := fun i h st b hb => by
    obtain ⟨⟨old, he⟩, ⟨o, ho, hc, hd⟩, _⟩ := st
    have e' : b = e ∨ b = it := by simpa using hb
    rcases e' with z | z
    · rw [z]; exact ⟨_, he, fun v q => nomatch q⟩
    · rw [z]; exact ⟨o, ho, fun v q => by rw [hd] at q; cases q⟩
  keep := fun i h h' st k => let ⟨⟨old, he⟩, hi, hne⟩ := st; ⟨⟨old, k e (by simp) _ he⟩, hi.at fun o q => k it (by simp) o q, hne⟩
  item := by
    intro X hP hw hK hc i pins s σ H E I hf st hg
    subst hP hw hK
    obtain ⟨⟨old, he⟩, hit, hne, hea, hai⟩ := st
    obtain ⟨xs, x, hq, hx⟩ := hg
    obtain ⟨its, rv, p, hz⟩ := I.tuple hq
    obtain ⟨u, hu, ru⟩ := rv.get hx
    have hel : e < s.heap.objs.size := Heap.lt_size he
    have hil : it < s.heap.objs.size := by obtain ⟨_, q, _⟩ := hit; exact Heap.lt_size q
    have pt : s.heap.IsTuple a its.toArray := p
    have hlen : i < its.toArray.size := by
      have := (List.getElem?_eq_some_iff.mp hu).1
      simpa using this
    refine wpAny_pyNext_enum_itemD (D := Draws.tuple (A := X.A.in1) (I.ok.hd hc) it a hai its.toArray) he ⟨hit, pt⟩ hlen hne (by simp [hne, hea]) fun y h' tk hy ho hst' hT hsz hk => ?_
    have ey : y = u := by
      have hy : its.toArray[i]? = some y := hy
      rw [show its.toArray[i]? = some u by simpa using hu] at hy
      exact (Option.some.inj hy).symm
    subst ey
    refine ⟨_, rfl, wpAny_letOwnedTupleGo_enum (s := { s with heap := h', toks := tk + 1 }) ho fun h'' he' sb => ?_⟩
    have hT2 : h''.get? s.heap.objs.size = some { cls := .type "tuple", data := .seq #[.int i tk, y] } := (sb.2 _ (Nat.ne_of_gt hel)).trans hT
    have new : ObjOk X.prog X.w (upd H s.heap.objs.size (.tup [.int (i : Nat), x])) h'' s.heap.objs.size (.tup [.int (i : Nat), x]) :=
      ⟨by show 2 ≤ sizeLine; decide, [.int i tk, y], .cons ⟨_, rfl⟩ (.cons ru .nil), ⟨_, hT2, rfl, _, rfl⟩⟩
    have I1 : Inv X pins σ (upd H s.heap.objs.size (.tup [.int (i : Nat), x])) { s with heap := h'', toks := tk + 1 } :=
      I.turnedNew (ch := [e, it]) (fun b ob hb q => (sb.2 b (fun z => hb (by simp [z]))).trans (hk b ob (fun z => hb (by simp [z])) (fun z => hb (by simp [z])) q)) hf (Nat.le_refl _) new
    refine ⟨.ref s.heap.objs.size, _, I1, rfl, ⟨_, x, rfl, I.hok.fresh (Nat.le_refl _), rfl, fun ys hy => by rw [I.tuple_inj hy hq]; exact hx⟩, ⟨⟨y, ?_⟩, hst'.1.at fun o q => (sb.2 it (Ne.symm hne)).trans q, hne, hea, hai⟩, fun b hb => ?_⟩
    · have e1 : ((i + 1 : Nat) : Int) = (i : Int) + 1 := by omega
      rw [e1]; exact he'
    · have hb' : b < s.heap.objs.size := by
        have e' : b = e ∨ b = it := by simpa using hb
        rcases e' with z | z
        · rw [z]; exact hel
        · rw [z]; exact hil
      rw [upd_ne (Nat.ne_of_lt hb')]
      exact (hf b hb).1
  done := by
    intro X hP hw hK hc i pins s σ H E I hf st hg
    subst hP hw hK
    obtain ⟨⟨old, he⟩, hit, hne, hea, hai⟩ := st
    obtain ⟨xs, hq, hx⟩ := hg
    obtain ⟨its, rv, p, hz⟩ := I.tuple hq
    obtain ⟨f0, f1, f2, f3, f4, f5⟩ := hf it (by simp)
    have hl := rv.length
    have pt : s.heap.IsTuple a its.toArray := p
    unfold pyNext
    have hT : s.TypeIs (.ref e) "enumerate" := ⟨_, he, rfl⟩
    refine wpAny_bind (wpAny_attempt (wpAny_callSpecial?_slot (name := Str.ofString "__next__") hT F.slot_enumerate_next
      (wpAny_call_entry F.slot_enumerate_next hT F.entry_enumerate_next ?_ (F.args_enumerate_next_1 _))))
    show wpAny _ _ (field (.ref e) 2 >>= _) _ _ _
    refine wpAny_bind (wpAny_field he rfl (x := .ref it) rfl ?_)
    refine wpAny_bind (wpAny_nextOf_tuple_end (A := X.A.in1) (I.ok.hd hc) hit pt (by simp; omega) fun h' x he' hx' => ?_)
    obtain ⟨o, ho, hcc⟩ := hx'
    refine wpAny_bind (wpAny_isInstance (T := "StopIteration") (b := true) ⟨o, ho, hcc⟩ isSubtype_stop ?_)
    exact wpAny_pure ⟨rfl, I.turned (t' := s.toks) (fun b o hb q => he' b o hb q) f0 f1 f3 f4 f5⟩
  self := fun A i s Q E st h => let ⟨⟨_, he⟩, _⟩ := st; wpAny_pyIter_enum he h
def iEnumW (K : PySem.W.Frag) (ta : TA) : TI := fun σ H R => ta σ H fun vs H1 => ∃ a xs, vs = [.ref a] ∧ ((SqL K H1 a xs ∧ R (Ite K a) H1) ∨ (SqT K H1 a xs ∧ R (IteT K a) H1))
theorem pi_enumW {X : Cx} {e : Expr} {ta : TA} {p pos tpos : Pos} {elts : List Expr} {kk : Nat} (hg : Gl X "enumerate") (hm : X.mg "enumerate" = none) (ha : PA X [e] ta) (hs : starEach [e] X.env = [(false, eval e X.env)] := by rfl) :
    PI X (.Tuple elts kk tpos) (.Call (.Name "enumerate" p) [e] [] pos) (iEnumW X.K ta) := by
  refine ⟨fun pins s σ H R I h => ?_⟩
  refine Call_ (ld_blt I hg hm boot_enumerate (PyProof.Rows.callWith_type1 (thn (ha.run pos pins s σ H _ I h) fun us s1 ⟨vs, H1, I1, r1, q1⟩ => ?_) hs rfl))
  obtain ⟨a, xs, ex, q⟩ := q1
  subst ex
  cases r1 with
  | cons r rr =>
    cases rr
    cases r
    have fp2 : ∀ b, b ∈ [s1.heap.objs.size + 1, s1.heap.objs.size] → FpOk X pins H1 b := fun b hb => by
      have e' : b = s1.heap.objs.size + 1 ∨ b = s1.heap.objs.size := by simpa using hb
      have hle : s1.heap.objs.size ≤ b := by
        rcases e' with z | z
        · rw [z]; exact Nat.le_add_right _ _
        · rw [z]; exact Nat.le_refl _
      exact I1.fpOk hle (I1.hok.fresh hle)
    rcases q with ⟨hq, q⟩ | ⟨hq, q⟩
    · obtain ⟨its, rv, p', hz⟩ := I1.list hq
      refine call_enumerate_list p'.isList fun h' he hit hsz hk => wpAny_pyIter_enum he ?_
      have I2 : Inv X pins σ H1 { s1 with heap := h' } := I1.kept (t' := s1.toks) hk
      exact ⟨s1.heap.objs.size + 1, [s1.heap.objs.size + 1, s1.heap.objs.size], _, _, H1, rfl, I2, turn_enum a (s1.heap.objs.size + 1) s1.heap.objs.size, ⟨⟨.none, he⟩, hit, Nat.succ_ne_self _⟩, fp2, q⟩
    · obtain ⟨its, rv, p', hz⟩ := I1.tuple hq
      have pt : s1.heap.IsTuple a its.toArray := p'
      have hal : a < s1.heap.objs.size := by obtain ⟨o, ho, _⟩ := id p'; exact Heap.lt_size ho
      refine enum_begins1 (begins_tuple a its.toArray) pt fun h' he hit hsz hk => wpAny_pyIter_enum he ?_
      have I2 : Inv X pins σ H1 { s1 with heap := h' } := I1.kept (t' := s1.toks) hk
      exact ⟨s1.heap.objs.size + 1, [s1.heap.objs.size + 1, s1.heap.objs.size], _, _, H1, rfl, I2, turn_enumT a (s1.heap.objs.size + 1) s1.heap.objs.size, ⟨⟨.none, he⟩, ⟨_, hit, rfl, rfl⟩, Nat.succ_ne_self _, Nat.ne_of_gt (Nat.lt_succ_of_lt hal), Nat.ne_of_lt hal⟩, fp2, q⟩
/-! the walks as data -/
theorem walk_enumT {K : PySem.W.Frag} {a : Addr} {xs : List V} : Walk (IteT K a) xs.length (fun H => SqT K H a xs) (YPair (fun i => some (.int (i : Nat))) (fun i => xs[i]?)) := by
  refine ⟨fun i _ hi q => ⟨xs, xs[i], q, by simp [hi]⟩, fun _ q => ⟨xs, q, Nat.le_refl _⟩, fun i H v H' _ q y => ?_⟩
  obtain ⟨T, x, h1, h2, h3, h4⟩ := y
  exact ⟨T, .int (i : Nat), x, h1, h2, h3, rfl, h4 xs q⟩
/-- each item with its place -/
def enumD (ds : List D) : List D := (List.range ds.length).map fun i => .tuple [.int (i : Nat), ds.getD i .none]
theorem enumD_len (ds : List D) : (enumD ds).length = ds.length := by simp [enumD]
theorem enumD_get {ds : List D} {i : Nat} {d : D} (h : ds[i]? = some d) : (enumD ds)[i]? = some (.tuple [.int (i : Nat), d]) := by
  have hl := (List.getElem?_eq_some_iff.mp h).1
  unfold enumD
  rw [List.getElem?_map, List.getElem?_range hl]
  have e : ds.getD i PyData.none = d := by simp [List.getD, h]
  show some (PyData.tuple [.int (i : Nat), ds.getD i PyData.none]) = some _
  rw [e]
theorem pair_item {K : PySem.W.Frag} {Hf H H' : Hp} {v x y : V} {d e : D} {T : Addr} (h1 : v = .ref T) (h2 : H T = none) (h3 : H' = upd H T (.tup [x, y])) (r1 : Rep K Hf x d) (r2 : Rep K Hf y e) :
    (H' = H ∧ Rep K Hf v (.tuple [d, e])) ∨ ∃ T vs ds, v = .ref T ∧ H T = none ∧ H' = upd H T (.tup vs) ∧ PyData.tuple [d, e] = .tuple ds ∧ Reps K Hf vs ds ∧ ds.length ≤ sizeLine :=
  .inr ⟨T, [x, y], [d, e], h1, h2, h3, rfl, .cons r1 (.cons r2 .nil), by show 2 ≤ sizeLine; decide⟩
theorem iter_enumL {K : PySem.W.Frag} {Hf : Hp} {a : Addr} {vs : List V} {ds : List D} (h : SqL K Hf a vs) (r : Reps K Hf vs ds) : IterOk K Hf (Ite K a) (enumD ds) := by
  refine ⟨_, _, by rw [enumD_len, ← r.length]; exact walk_enum (K := K) (a := a) (xs := vs), fun H e => e.seq h, fun i H v H' hi e y => ?_⟩
  obtain ⟨T, x, y, h1, h2, h3, h4, h5⟩ := y
  cases h4
  obtain ⟨d, e1, rd⟩ := r.get h5
  exact ⟨_, enumD_get e1, pair_item h1 h2 h3 (.int _) rd⟩
theorem iter_enumT {K : PySem.W.Frag} {Hf : Hp} {a : Addr} {vs : List V} {ds : List D} (h : SqT K Hf a vs) (r : Reps K Hf vs ds) : IterOk K Hf (IteT K a) (enumD ds) := by
  refine ⟨_, _, by rw [enumD_len, ← r.length]; exact walk_enumT (K := K) (a := a) (xs := vs), fun H e => sqT_same e h, fun i H v H' hi e y => ?_⟩
  obtain ⟨T, x, y, h1, h2, h3, h4, h5⟩ := y
  cases h4
  obtain ⟨d, e1, rd⟩ := r.get h5
  exact ⟨_, enumD_get e1, pair_item h1 h2 h3 (.int _) rd⟩
section
variable {X : Cx} {W : WX} {pos : Pos}
abbrev iEnum (te : DE) : DI := fun ρ R E => te ρ (fun r ρ1 => frz r ρ1 fun d ρ2 => match d with
    | .list ds => R (enumD ds) ρ2
    | .tuple ds => R (enumD ds) ρ2
    | _ => False) E
theorem pid_enum {e : Expr} {te : DE} {p tpos : Pos} {elts : List Expr} {kk : Nat} (hg : Gl X "enumerate") (hm : X.mg "enumerate" = none) (he : PD X W e te) (hs : starEach [e] X.env = [(false, eval e X.env)] := by rfl) :
    PID X W (.Tuple elts kk tpos) (.Call (.Name "enumerate" p) [e] [] pos) (iEnum te) := by
  obtain ⟨t, pe, s⟩ := he
  refine ⟨_, pi_enumW hg hm (pa_cons pe pa_nil hs) hs, ?_⟩
  intro B Hf ρ σ H R Rd Ed S h hR hE
  refine s B Hf ρ σ H _ _ Ed S h (fun r ρ1 H1 v q e => ?_) hE
  obtain ⟨Hf1, d, ρ2, S1, rv, q⟩ := e.frz q
  cases rv with
  | lst h r z => exact ⟨_, _, rfl, .inl ⟨SqL.of (S1.sub _ _ h), hR _ ρ2 H1 Hf1 _ q S1 (iter_enumL (SqL.of h) r) (by rw [enumD_len]; exact z)⟩⟩
  | tup h r z => exact ⟨_, _, rfl, .inr ⟨sqT_same S1.sub h, hR _ ρ2 H1 Hf1 _ q S1 (iter_enumT h r) (by rw [enumD_len]; exact z)⟩⟩
  | _ => exact q.elim

/-! ### zip of two lists, of two tuples -/
def zipD : List D → List D → List D
  | d :: ds, e :: es => .tuple [d, e] :: zipD ds es
  | _, _ => []
theorem zipD_len : ∀ ds es : List D, (zipD ds es).length = min ds.length es.length
  | [], [] => rfl
  | [], _ :: _ => by simp [zipD]
  | _ :: _, [] => by simp [zipD]
  | d :: ds, e :: es => by simp [zipD, zipD_len ds es]
theorem zipD_get : ∀ {ds es : List D} {i : Nat} {d e : D}, ds[i]? = some d → es[i]? = some e → (zipD ds es)[i]? = some (.tuple [d, e])
  | [], _, _, _, _, h, _ => by simp at h
  | _ :: _, [], _, _, _, _, h => by simp at h
  | d :: ds, e :: es, 0, _, _, h, h' => by simp at h h'; subst h h'; rfl
  | d :: ds, e :: es, i + 1, _, _, h, h' => by
    show (zipD ds es)[i]? = _
    exact zipD_get (by simpa using h) (by simpa using h')
theorem walk_zipT {K : PySem.W.Frag} {a b : Addr} {xs ys : List V} {n : Nat} (hn : n = min xs.length ys.length) : Walk (RZ.ItzT K a b) n (fun H => SqT K H a xs ∧ SqT K H b ys) (YPair (fun i => xs[i]?) (fun i => ys[i]?)) := by
  subst hn
  refine ⟨fun i _ hi q => ?_, fun _ q => ⟨xs, ys, q.1, q.2, by omega⟩, fun i H v H' _ q y => ?_⟩
  · have h1 : i < xs.length := by omega
    have h2 : i < ys.length := by omega
    exact ⟨xs, ys, xs[i], ys[i], q.1, q.2, by simp [h1], by simp [h2]⟩
  · obtain ⟨T, x, z, h1, h2, h3, h4, h5⟩ := y
    exact ⟨T, x, z, h1, h2, h3, h4 xs q.1, h5 ys q.2⟩
theorem iter_zipL {K : PySem.W.Frag} {Hf : Hp} {a b : Addr} {vs us : List V} {ds es : List D} (h : SqL K Hf a vs) (r : Reps K Hf vs ds) (h' : SqL K Hf b us) (r' : Reps K Hf us es) : IterOk K Hf (Itz K a b) (zipD ds es) := by
  refine ⟨_, _, walk_zip (K := K) (a := a) (b := b) (xs := vs) (ys := us) (by rw [zipD_len, r.length, r'.length]), fun H e => ⟨e.seq h, e.seq h'⟩, fun i H v H' hi e y => ?_⟩
  obtain ⟨T, x, y, h1, h2, h3, h4, h5⟩ := y
  obtain ⟨d, e1, rd⟩ := r.get h4
  obtain ⟨d', e2, rd'⟩ := r'.get h5
  exact ⟨_, zipD_get e1 e2, pair_item h1 h2 h3 rd rd'⟩
theorem iter_zipT {K : PySem.W.Frag} {Hf : Hp} {a b : Addr} {vs us : List V} {ds es : List D} (h : SqT K Hf a vs) (r : Reps K Hf vs ds) (h' : SqT K Hf b us) (r' : Reps K Hf us es) : IterOk K Hf (RZ.ItzT K a b) (zipD ds es) := by
  refine ⟨_, _, walk_zipT (K := K) (a := a) (b := b) (xs := vs) (ys := us) (by rw [zipD_len, r.length, r'.length]), fun H e => ⟨sqT_same e h, sqT_same e h'⟩, fun i H v H' hi e y => ?_⟩
  obtain ⟨T, x, y, h1, h2, h3, h4, h5⟩ := y
  obtain ⟨d, e1, rd⟩ := r.get h4
  obtain ⟨d', e2, rd'⟩ := r'.get h5
  exact ⟨_, zipD_get e1 e2, pair_item h1 h2 h3 rd rd'⟩
abbrev iZip (ta : DF) : DI := fun ρ R E => ta ρ (fun ds ρ1 => match ds with
    | [.list ds, .list es] => R (zipD ds es) ρ1
    | [.tuple ds, .tuple es] => R (zipD ds es) ρ1
    | _ => False) E
theorem pid_zip {e e2 : Expr} {ta : DF} {p tpos : Pos} {elts : List Expr} {kk : Nat} (hg : Gl X "zip") (hm : X.mg "zip" = none) (ha : PFD X W [e, e2] ta)
    (hs : starEach [e, e2] X.env = (false, eval e X.env) :: starEach [e2] X.env := by rfl) (hpl : (backTo pos (starEach [e2] X.env)).any (·.1) = false := by rfl) :
    PID X W (.Tuple elts kk tpos) (.Call (.Name "zip" p) [e, e2] [] pos) (iZip ta) := by
  obtain ⟨t, pa, s⟩ := ha
  refine ⟨_, RZ.pi_zipA hg hm pa hs hpl, ?_⟩
  intro B Hf ρ σ H R Rd Ed S h hR hE
  refine s B Hf ρ σ H _ _ Ed S h (fun ds ρ1 H1 Hf1 vs q S1 r hl => ?_) hE
  match ds, r, q with
  | [.list ds, .list es], .cons (.lst h1 r1 z1) (.cons (.lst h2 r2 z2) .nil), q =>
    exact ⟨_, _, _, _, rfl, .inl ⟨SqL.of (S1.sub _ _ h1), SqL.of (S1.sub _ _ h2), hR _ ρ1 H1 Hf1 _ q S1 (iter_zipL (SqL.of h1) r1 (SqL.of h2) r2) (by rw [zipD_len]; omega)⟩⟩
  | [.tuple ds, .tuple es], .cons (.tup h1 r1 z1) (.cons (.tup h2 r2 z2) .nil), q =>
    exact ⟨_, _, _, _, rfl, .inr ⟨sqT_same S1.sub h1, sqT_same S1.sub h2, hR _ ρ1 H1 Hf1 _ q S1 (iter_zipT h1 r1 h2 r2) (by rw [zipD_len]; omega)⟩⟩
end
end DL
set_option Elab.async false
set_option linter.all false
set_option maxRecDepth 100000
set_option maxHeartbeats 1000000
/-! DLk: exceptions as data, isinstance of them, a text many times, op=. -/
namespace DL
open PySem PySem.Spec PyProof.Rows L2
section
variable {X : Cx} {W : WX} {pos : Pos}
/-! ### isinstance, exceptions among the data -/
def rIsO (K : PySem.W.Frag) : List V → Hp → VK → Prop := fun xs H Q => ∃ (a C : Addr) (c : V) (cv : Value) (b : Bool), xs = [.ref a, c] ∧ H a = some (ExO (.ref C) a) ∧ ExcC K C ∧ (∀ u, RelV c u → u = cv) ∧ PySem.W.kitOne K (.ref C) cv = some b ∧ Q (.bl b) H
theorem call_isO : CallR X (.builtin "isinstance") (rIsO X.K) := by
  intro pins s σ H xs us Q I r h
  obtain ⟨a, C, c, cv, b, rfl, ha, E, hcv, e, q⟩ := h
  cases r with
  | cons rx rr =>
    cases rr with
    | cons rt rr =>
      cases rr
      cases rx
      have ec := hcv _ rt
      subst ec
      obtain ⟨oe, vs, hget, hz, hv, _⟩ : ∃ (oe : Obj) (vs : Array Value), s.heap.get? a = some oe ∧ Zc (.ref C) none oe ∧ oe.data = .fields vs ∧ vs[1]? = some Value.none ∧ vs[2]? = some Value.none ∧ 4 < vs.size := (I.hok a _ ha).1
      have J : PySem.W.InstAt s.heap a oe C none := by
        obtain ⟨oc, od, oda, osl⟩ := oe
        obtain ⟨h1, h2⟩ := hz
        dsimp only at h1 h2 hv
        subst h1 h2 hv
        exact ⟨hget, rfl, rfl, trivial⟩
      exact PySem.W.kia_one (PySem.W.handS_kitx_exc E.hg E.hk E.hs E.hd E.ha E.hn E.ht E.hm) I.kIn J e (fun z => nomatch z) fun tk => ⟨.bl b, H, I.kept (t' := tk) fun _ _ z => z, rfl, q⟩
abbrev eIsY (f : D → Bool) (ta : DE) : DE := fun ρ Q E => ta ρ (fun r ρ1 => match peek (stl r) ρ1 with
  | some (.d d) => Q (.fz (.bool (f d))) ρ1
  | _ => False) E
theorem pd_isX {y : Str} {p p2 : Pos} {a : Expr} {T : String} {f : D → Bool} {ta : DE} (it : IsT T f) (hT : T ∈ ["int", "bool", "str", "list", "tuple"]) (hf : ∀ k, f (.dict k) = false) (hg : Gl X "isinstance") (hm : X.mg "isinstance" = none) (hg2 : Gl X y) (hm2 : X.mg y = none) (hv2 : bootBuiltins y = some (.type T)) (ha : PD X W a ta)
    (hn : y ≠ "__name__" := by decide) (hd : (y == ("__debug__" : Str)) = false := by decide)
    (he : starEach [a, .Name y p2] X.env = (false, eval a X.env) :: starEach [.Name y p2] X.env := by rfl) (hpl : (backTo pos (starEach [.Name y p2] X.env)).any (·.1) = false := by rfl) (he2 : starEach [.Name y p2] X.env = (false, eval (.Name y p2) X.env) :: starEach [] X.env := by rfl) :
    PD X W (.Call (.Name "isinstance" p) [a, .Name y p2] [] pos) (eIsY f ta) := by
  obtain ⟨t, p1, s⟩ := ha
  refine ⟨_, pe_callB (CallR.or call_isi call_isO) hg hm PyProof.Rows.boot_isinstance (pa_cons p1 (pa_cons (pe_bltn (v := .ty T) hg2 hm2 hv2 rfl hn hd) pa_nil he2) he) (by decide) (by decide) he hpl, ?_⟩
  intro B Hf ρ σ H Q Qd Ed S h hQ hE
  refine s B Hf ρ σ H _ _ Ed S h (fun r1 ρ1 H1 v1 q1 e1 => ?_) hE
  obtain ⟨Hf1, S1, h1⟩ := e1.settle
  cases pk : peek (stl r1) ρ1 with
  | none => rw [pk] at q1; exact q1.elim
  | some a =>
    rw [pk] at q1
    cases a with
    | sc _ => exact q1.elim
    | d d =>
      have q : Qd (.fz (.bool (f d))) ρ1 := q1
      have hr := h1.peek S1 pk
      by_cases hk : ∀ k, d ≠ .dict k
      · exact .inl ⟨v1, .ty T, _, .type T, f d, rfl, .ty T, hr.ty S1.sub hk, kit_ty (it.h d hk), hQ _ ρ1 H1 _ q ⟨Hf1, S1, .bl _⟩⟩
      · have : ∃ k, d = .dict k := by
          cases d with
          | dict k => exact ⟨k, rfl⟩
          | _ => exact absurd (fun k z => nomatch z) hk
        obtain ⟨k, rfl⟩ := this
        have hrep : Rep X.K Hf1 v1 (.dict k) := hr
        generalize hd : (PyData.dict k) = d0 at hrep
        cases hrep with
        | @ex a C n hex hall =>
          refine .inr ⟨a, C, .ty T, .type T, false, rfl, S1.sub _ _ hex, hall.e, fun u h => h, hall.n T hT, ?_⟩
          rw [hf] at q
          exact hQ _ ρ1 H1 _ q ⟨Hf1, S1, .bl _⟩
        | _ => cases hd
/-- C(e): a new exception object -/
abbrev eExc (n : Nat) (te : DE) : DE := fun ρ Q E => te ρ (fun _ ρ1 => Q (.fz (exD n)) ρ1) E
theorem pd_exc {x : Str} {e : Expr} {te : DE} {p : Pos} {C : Addr} (n : Nat) (T : ExT X.K X.mg x C) (ea : ExcAll X.K C) (hg : Gl X x) (he : PD X W e te) (hs : starEach [e] X.env = (false, eval e X.env) :: starEach [] X.env := by rfl) (hdb : (x == ("__debug__" : Str)) = false := by decide) :
    PD X W (.Call (.Name x p) [e] [] pos) (eExc n te) := by
  obtain ⟨t, p1, s⟩ := he
  refine ⟨_, pe_exc1 PySem.F.excBase_ValueError T.x T.g T.k hg p1 hs hdb, ?_⟩
  intro B Hf ρ σ H Q Qd Ed S h hQ hE
  refine s B Hf ρ σ H _ _ Ed S h (fun r1 ρ1 H1 v1 q1 e1 a ha => ?_) hE
  obtain ⟨Hf1, S1⟩ := e1.so
  exact hQ _ ρ1 _ _ q1 ⟨_, S1.alloc ha _, Rep.ex upd_same ea⟩

/-! ### a text many times -/
theorem rep_size (xs : Array CodePoint) : ∀ (n : Nat) (acc : Array CodePoint), (List.foldl (fun x1 x2 => x1 ++ x2) acc (List.replicate n xs)).size = acc.size + n * xs.size
  | 0, acc => by simp
  | n + 1, acc => by
    rw [List.replicate_succ, List.foldl_cons, rep_size xs n]
    rw [Array.size_append, Nat.add_mul]; omega
def repS (a : Str) (k : Int) : Str := if k < 1 then Str.empty else if (k == 1 || a.length == 0) = true then a else ⟨(List.replicate k.toNat a.cps).foldl (· ++ ·) #[]⟩
def rMulS : R2 := fun x y H Q => ∃ a k, x = .str a ∧ y = .int k ∧ (0 ≤ k ∧ k ≤ 1000000 ∧ a.length ≤ 1) ∧ Q (.str (repS a k)) H
theorem op_mulS : OpR X (binaryOp .Mult) rMulS := by
  intro pins s σ H x y v u Q I rx ry h
  obtain ⟨a, k, rfl, rfl, ⟨h1, h2, h3⟩, q⟩ := h
  obtain ⟨t, rfl⟩ := rx
  obtain ⟨t', rfl⟩ := ry
  refine PySem.P.mul_str ?_ (fun h0 _ h4 => ?_) (fun _ _ => ?_) ?_
  · have e1 : ¬ k < -(2 ^ 63 : Int) := by omega
    have e2 : ¬ k ≥ 2 ^ 63 := by omega
    rw [decide_eq_false e1, decide_eq_false e2]; rfl
  · have : 1000000 ≤ (2 ^ 63 - 1 : Int) / k := (Int.le_ediv_iff_mul_le (by omega)).mpr (by omega)
    omega
  · have hz : a.length * k.toNat ≤ 1000000 := by
      have : a.length * k.toNat ≤ 1 * k.toNat := Nat.mul_le_mul_right _ h3
      omega
    first
      | exact decide_eq_false (by have := sizeLine_eq; omega)
      | (unfold tooLong; simp; have : (1000000 : Nat) ≤ sizeLine := by decide; omega)
  · unfold repS at q
    split
    · rename_i h0
      rw [if_pos h0] at q
      exact ⟨by decide, .str _, H, I.tok _, ⟨_, rfl⟩, q⟩
    · rename_i h0
      rw [if_neg h0] at q
      split
      · rename_i h5
        rw [if_pos h5] at q
        exact ⟨.str _, H, I, ⟨_, rfl⟩, q⟩
      · rename_i h5
        rw [if_neg h5] at q
        refine ⟨?_, .str _, H, I.tok _, ⟨_, rfl⟩, q⟩
        show (List.foldl (fun x1 x2 => x1 ++ x2) #[] (List.replicate k.toNat a.cps)).size ≤ sizeLine
        rw [rep_size]
        have hz : k.toNat * a.cps.size ≤ k.toNat * 1 := Nat.mul_le_mul_left _ h3
        have : (1000000 : Nat) ≤ sizeLine := by decide
        simp only [Array.size_empty]
        omega
abbrev dMulS : DE2
  | .d (.str a), .d (.int k), Q => (0 ≤ k ∧ k ≤ 1000000 ∧ a.length ≤ 1) ∧ Q (.fz (.str (repS a k)))
  | _, _, _ => False
theorem c_mulS {K : PySem.W.Frag} : Conn K rMulS dMulS := by
  intro B Hf ρ σ H x y a b Q Qd S ra rb q k
  match a, b, q with
  | .d (.str a), .d (.int i), q => exact ⟨a, i, ra.str, rb.int, q.1, k _ _ _ q.2 ⟨Hf, S, .str _⟩⟩
end
end DL
set_option Elab.async false
set_option linter.all false
set_option maxRecDepth 100000
set_option maxHeartbeats 1000000
/-! DLl: count, index of a list. -/
namespace DL
open PySem PySem.Spec PyProof.Rows L2
section
variable {X : Cx} {W : WX} {pos : Pos}
def rCountD (K : PySem.W.Frag) : V → List V → Hp → VK → Prop := fun x xs H Q => ∃ (a : Addr) (y : V) (d : PyData) (ds : List PyData), x = V.ref a ∧ xs = [y] ∧ Dp K H (V.ref a) (.list ds) ∧ Dp K H y d ∧
  SeqAt.shaped (.list ds) = true ∧ SeqAt.shaped d = true ∧ Q (.int ((ds.countP fun z => PyData.eqv z d : Nat) : Int)) H
theorem mt_countD (hu : X.A.units + 65 < cLine) : MtR X "list.count" (rCountD X.K) := by
  intro pins s σ H x xs v us Q I rx rxs h
  obtain ⟨a, y, d, ds, rfl, rfl, hl, hy, sl, sd, q⟩ := h
  cases rx
  cases rxs with
  | cons ry rt =>
    rename_i uy ut
    cases rt
    obtain ⟨bs, r1⟩ := Dp.reads I d y uy hy ry
    have hxs : PyData.canLayAll0 ds = true := SeqAt.canLay_of_shaped sl
    have hroom : X.A.units + 1 + min (PyData.depthAll ds) d.depth < cLine := room_in_shaped sd hu
    cases hl with
    | lst hs ha =>
      obtain ⟨its, rv, ⟨⟨cls, dd, data, sls⟩, n, ho, hc, hdn, hdt⟩, hlen⟩ := I.list hs
      simp only at hc hdt
      subst hc hdt
      obtain ⟨as, h4⟩ := Dp.readsAll I ds _ its ha rv
      have hmap : its.map (SeqAt.readOf s.heap) = ds := SeqAt.readsAll_map ds its as hxs h4
      have hcnt : its.toArray.toList.countP (fun u => PyData.eqv (SeqAt.readOf s.heap u) d) = ds.countP fun z => PyData.eqv z d := by
        rw [← hmap, List.countP_map]; rfl
      refine call_meets PySem.F.slot_list_count ⟨_, ho, rfl⟩ PySem.F.entry_list_count (PySem.F.args_list_count_2 _ _)
        (SeqAt.list_countAt a its.toArray n dd sls uy (fun u => PyData.eqv (SeqAt.readOf s.heap u) d)) ⟨ho, SeqAt.items_eqAt (vs := its.toArray) (show ReadsAll s.heap its.toArray.toList ds as from h4) r1 hxs (SeqAt.canLay_of_shaped sd) hroom, ?_⟩
      rw [hcnt]
      exact ⟨.int _, H, I.tok _, ⟨_, rfl⟩, q⟩
theorem upd_self {H : Hp} {p : Addr} {o : HO} (h : H p = some o) : upd H p o = H := by
  funext b
  by_cases e : b = p
  · subst e; rw [upd_same, h]
  · rw [upd_ne e]
abbrev mCount : OpM := fun ds args P => match args with
  | [d] => SeqAt.shaped (.list ds) = true ∧ SeqAt.shaped d = true ∧ P (.int ((ds.countP fun z => PyData.eqv z d : Nat) : Int)) ds
  | _ => False
theorem cm_count {K : PySem.W.Frag} : ConnM K (rCountD K) mCount := by
  intro Hf H p vs ds xs args Q P hp r z ra op e k
  match args, ra, op with
  | [d], .cons (v := y) h .nil, op =>
    obtain ⟨s1, s2, op⟩ := op
    refine ⟨p, y, d, ds, rfl, rfl, .lst (SqL.of hp) (Reps.dp ds vs (r.same e) (SeqAt.canLay_of_shaped s1)), Rep.dp d y (h.same e) (SeqAt.canLay_of_shaped s2), s1, s2, ?_⟩
    have := k _ _ _ _ op (.int _) r z
    rw [upd_self hp] at this
    exact this
abbrev mIndex : OpM := fun ds args P => match args with
  | [d] => SeqAt.shaped (.list ds) = true ∧ SeqAt.shaped d = true ∧ ∃ (j : Nat) (z : D), ds[j]? = some z ∧ PyData.eqv z d = true ∧ (∀ (m : Nat) (z' : PyData), m < j → ds[m]? = some z' → PyData.eqv z' d = false) ∧ P (.int (j : Nat)) ds
  | _ => False
theorem cm_index {K : PySem.W.Frag} : ConnM K (rIndexD K) mIndex := by
  intro Hf H p vs ds xs args Q P hp r z ra op e k
  match args, ra, op with
  | [d], .cons (v := y) h .nil, op =>
    obtain ⟨s1, s2, j, w, h1, h2, h3, op⟩ := op
    refine ⟨p, y, d, ds, j, w, rfl, rfl, .lst (SqL.of hp) (Reps.dp ds vs (r.same e) (SeqAt.canLay_of_shaped s1)), Rep.dp d y (h.same e) (SeqAt.canLay_of_shaped s2), s1, s2, h1, h2, h3, ?_⟩
    have := k _ _ _ _ op (.int _) r z
    rw [upd_self hp] at this
    exact this
end
end DL
set_option Elab.async false
set_option linter.all false
set_option maxRecDepth 100000
set_option maxHeartbeats 1000000
/-! FLa: the functional layer: a def as a plain function over slots without addresses. -/
namespace FL
open PySem PySem.Spec PyProof.Rows L2 DL

inductive Zl where
  | nil | fz (d : D) | ow (c : Cn) | pw (c : Cn) | sc (ns : List Int) | xa
abbrev emS (a : Addr) : Zl → Sl
  | .nil => .nil
  | .fz d => .fz d
  | .ow c => .ow c
  | .pw c => .pw a c
  | .sc ns => .sc ns
  | .xa => .xa a
def em (ad : Nat → Addr) : Nat → List Zl → List Sl
  | _, [] => []
  | i, z :: r => emS (ad i) z :: em ad (i + 1) r
inductive Rs (α : Type) where
  | ok (a : α) (ρ : List Zl) | ex (n : String) (ρ : List Zl) | no
abbrev Rs.bind {α β : Type} (r : Rs α) (f : α → List Zl → Rs β) : Rs β := match r with
  | .ok a ρ => f a ρ
  | .ex n ρ => .ex n ρ
  | .no => .no
abbrev Rs.wp {α : Type} (ad : Nat → Addr) (cl : String → Addr) (r : Rs α) (Q : α → List Sl → Prop) (E : XD) : Prop := match r with
  | .ok a ρ => Q a (em ad 0 ρ)
  | .ex n ρ => E (cl n) (em ad 0 ρ)
  | .no => False
abbrev XM (α : Type) := List Zl → Rs α
def wpO {α : Type} (cl : String → Addr) (x : XM α) : List Sl → (α → List Sl → Prop) → XD → Prop := fun ρs Q E => ∃ ad ρ, ρs = em ad 0 ρ ∧ (x ρ).wp ad cl Q E
theorem wpI {α : Type} {cl : String → Addr} {x : XM α} {ad : Nat → Addr} {ρ : List Zl} {Q : α → List Sl → Prop} {E : XD} (h : (x ρ).wp ad cl Q E) : wpO cl x (em ad 0 ρ) Q E := ⟨ad, ρ, rfl, h⟩
theorem wp_bind {α β : Type} {cl : String → Addr} {ad : Nat → Addr} {r : Rs α} {f : α → List Zl → Rs β} {Q : β → List Sl → Prop} {E : XD} (h : (r.bind f).wp ad cl Q E) (P : α → List Sl → Prop) (k : ∀ a ρ, (f a ρ).wp ad cl Q E → P a (em ad 0 ρ)) : r.wp ad cl P E := by
  cases r with
  | ok a ρ => exact k a ρ h
  | ex n ρ => exact h
  | no => exact h.elim
abbrev getZ : List Zl → Nat → Zl
  | [], _ => .nil
  | s :: _, 0 => s
  | _ :: r, i + 1 => getZ r i
abbrev setZ : List Zl → Nat → Zl → List Zl
  | [], _, _ => []
  | _ :: r, 0, x => x :: r
  | s :: r, i + 1, x => s :: setZ r i x
theorem getS_em (ad : Nat → Addr) : ∀ (k : Nat) (ρ : List Zl) (i : Nat), getS (em ad k ρ) i = emS (ad (k + i)) (getZ ρ i)
  | _, [], _ => rfl
  | k, z :: r, 0 => rfl
  | k, z :: r, i + 1 => by
    show getS (em ad (k + 1) r) i = _
    rw [getS_em ad (k + 1) r i, show k + 1 + i = k + (i + 1) from by omega]
theorem getS_em0 (ad : Nat → Addr) (ρ : List Zl) (i : Nat) : getS (em ad 0 ρ) i = emS (ad i) (getZ ρ i) := by rw [getS_em, Nat.zero_add]
theorem setS_em (ad : Nat → Addr) : ∀ (k : Nat) (ρ : List Zl) (i : Nat) (z : Zl), setS (em ad k ρ) i (emS (ad (k + i)) z) = em ad k (setZ ρ i z)
  | _, [], _, _ => rfl
  | k, y :: r, 0, z => rfl
  | k, y :: r, i + 1, z => by
    show _ :: setS (em ad (k + 1) r) i _ = _ :: em ad (k + 1) (setZ r i z)
    rw [← setS_em ad (k + 1) r i z, show k + 1 + i = k + (i + 1) from by omega]
theorem setS_em0 (ad : Nat → Addr) (ρ : List Zl) (i : Nat) (z : Zl) : setS (em ad 0 ρ) i (emS (ad i) z) = em ad 0 (setZ ρ i z) := by
  have := setS_em ad 0 ρ i z
  rw [Nat.zero_add] at this
  exact this
theorem setS_fz (ad : Nat → Addr) (ρ : List Zl) (i : Nat) (d : D) : setS (em ad 0 ρ) i (.fz d) = em ad 0 (setZ ρ i (.fz d)) := setS_em0 ad ρ i (.fz d)
theorem setS_ow (ad : Nat → Addr) (ρ : List Zl) (i : Nat) (c : Cn) : setS (em ad 0 ρ) i (.ow c) = em ad 0 (setZ ρ i (.ow c)) := setS_em0 ad ρ i (.ow c)
theorem setS_sc (ad : Nat → Addr) (ρ : List Zl) (i : Nat) (c : List Int) : setS (em ad 0 ρ) i (.sc c) = em ad 0 (setZ ρ i (.sc c)) := setS_em0 ad ρ i (.sc c)
theorem setS_nil (ad : Nat → Addr) (ρ : List Zl) (i : Nat) : setS (em ad 0 ρ) i .nil = em ad 0 (setZ ρ i .nil) := setS_em0 ad ρ i .nil
abbrev zlD : Zl → Option SD
  | .fz d => some (.d d)
  | .ow c => some (.d c.d)
  | .pw c => some (.d c.d)
  | .sc ns => some (.sc ns)
  | .nil => none
  | .xa => none
abbrev peekZ : VR → List Zl → Option SD
  | .fz d, _ => some (.d d)
  | .ow c, _ => some (.d c.d)
  | .sc ns, _ => some (.sc ns)
  | .bw i, ρ => zlD (getZ ρ i)
theorem peek_em {ad : Nat → Addr} {r : VR} {ρ : List Zl} : peek r (em ad 0 ρ) = peekZ r ρ := by
  cases r with
  | bw i =>
    show slD (getS (em ad 0 ρ) i) = zlD (getZ ρ i)
    rw [getS_em0]
    cases getZ ρ i <;> rfl
  | _ => rfl
abbrev frzZ (r : VR) (ρ : List Zl) : Option (D × List Zl) := match r with
  | .fz d => some (d, ρ)
  | .ow c => some (c.d, ρ)
  | .sc _ => none
  | .bw i => match getZ ρ i with
    | .ow c => some (c.d, setZ ρ i (.fz c.d))
    | .fz d => some (d, ρ)
    | _ => none
theorem frz_em {ad : Nat → Addr} {r : VR} {ρ ρ' : List Zl} {d : D} {Q : D → List Sl → Prop} (h : frzZ r ρ = some (d, ρ')) (q : Q d (em ad 0 ρ')) : frz r (em ad 0 ρ) Q := by
  cases r with
  | fz x => cases h; exact q
  | ow c => cases h; exact q
  | sc _ => cases h
  | bw i =>
    unfold frz
    dsimp only
    rw [getS_em0]
    unfold frzZ at h
    dsimp only at h
    cases hz : getZ ρ i with
    | ow c => rw [hz] at h; cases h; dsimp only; rw [setS_fz]; exact q
    | fz x => rw [hz] at h; cases h; exact q
    | _ => rw [hz] at h; cases h

section
variable {X : Cx} {W : WX} {pos : Pos} {cl : String → Addr}
theorem _root_.DL.PD.mono {e : Expr} {t u : DE} (h : PD X W e t) (m : ∀ ρ Q E, u ρ Q E → t ρ Q E) : PD X W e u := let ⟨te, p, s⟩ := h; ⟨te, p, fun B Hf ρ σ H Q Qd Ed S h => s B Hf ρ σ H Q Qd Ed S (m _ _ _ h)⟩
theorem _root_.DL.PTD.mono {e : Expr} {t u : DT} (h : PTD X W e t) (m : ∀ ρ Q E, u ρ Q E → t ρ Q E) : PTD X W e u := let ⟨te, p, s⟩ := h; ⟨te, p, fun B Hf ρ σ H Q Qd Ed S h => s B Hf ρ σ H Q Qd Ed S (m _ _ _ h)⟩
theorem _root_.DL.PWD.mono {e : Expr} {t u : DT} (h : PWD X W e t) (m : ∀ ρ Q E, u ρ Q E → t ρ Q E) : PWD X W e u := let ⟨te, p, s⟩ := h; ⟨te, p, fun B Hf ρ σ H Q Qd Ed S h => s B Hf ρ σ H Q Qd Ed S (m _ _ _ h)⟩
theorem _root_.DL.PAD.mono {e : List Expr} {t u : DA} (h : PAD X W e t) (m : ∀ ρ Q E, u ρ Q E → t ρ Q E) : PAD X W e u := let ⟨te, p, s⟩ := h; ⟨te, p, fun B Hf ρ σ H Q Qd Ed S h => s B Hf ρ σ H Q Qd Ed S (m _ _ _ h)⟩
theorem _root_.DL.PFD.mono {e : List Expr} {t u : DF} (h : PFD X W e t) (m : ∀ ρ Q E, u ρ Q E → t ρ Q E) : PFD X W e u := let ⟨te, p, s⟩ := h; ⟨te, p, fun B Hf ρ σ H Q Qd Ed S h => s B Hf ρ σ H Q Qd Ed S (m _ _ _ h)⟩
theorem _root_.DL.PCD.mono {e : List Expr} {t u : DC} (h : PCD X W e t) (m : ∀ ρ Q E, u ρ Q E → t ρ Q E) : PCD X W e u := let ⟨te, p, s⟩ := h; ⟨te, p, fun B Hf ρ σ H Q Qd Ed S h => s B Hf ρ σ H Q Qd Ed S (m _ _ _ h)⟩
theorem _root_.DL.PKD.mono {e : List Keyword} {t u : DC} (h : PKD X W e t) (m : ∀ ρ Q E, u ρ Q E → t ρ Q E) : PKD X W e u := let ⟨te, p, s⟩ := h; ⟨te, p, fun B Hf ρ σ H Q Qd Ed S h => s B Hf ρ σ H Q Qd Ed S (m _ _ _ h)⟩
theorem _root_.DL.POD.mono {e : Option Expr} {t u : DO} (h : POD X W e t) (m : ∀ ρ Q E, u ρ Q E → t ρ Q E) : POD X W e u := let ⟨te, p, s⟩ := h; ⟨te, p, fun B Hf ρ σ H Q Qd Ed S h => s B Hf ρ σ H Q Qd Ed S (m _ _ _ h)⟩
theorem _root_.DL.PID.mono {tg e : Expr} {t u : DI} (h : PID X W tg e t) (m : ∀ ρ Q E, u ρ Q E → t ρ Q E) : PID X W tg e u := let ⟨te, p, s⟩ := h; ⟨te, p, fun B Hf ρ σ H Q Qd Ed S h => s B Hf ρ σ H Q Qd Ed S (m _ _ _ h)⟩
theorem _root_.DL.PTsD.mono {e : List Expr} {t u : DT} (h : PTsD X W e t) (m : ∀ ρ Q E, u ρ Q E → t ρ Q E) : PTsD X W e u := let ⟨te, p, s⟩ := h; ⟨te, p, fun B Hf ρ σ H Q Qd Ed S h => s B Hf ρ σ H Q Qd Ed S (m _ _ _ h)⟩
theorem _root_.DL.PSD.mono {e : Stmt} {t u : DS} (h : PSD X W e t) (m : ∀ ρ D, u D ρ → t D ρ) : PSD X W e u := let ⟨te, p, s⟩ := h; ⟨te, p, fun B Hf ρ σ H D D' S L h => s B Hf ρ σ H D D' S L (m _ _ h)⟩
theorem _root_.DL.PBD.mono {e : List Stmt} {t u : DS} (h : PBD X W e t) (m : ∀ ρ D, u D ρ → t D ρ) : PBD X W e u := let ⟨te, p, s⟩ := h; ⟨te, p, fun B Hf ρ σ H D D' S L h => s B Hf ρ σ H D D' S L (m _ _ h)⟩
/-- an expression by its function -/
abbrev PX (X : Cx) (cl : String → Addr) (W : WX) (e : Expr) (x : XM VR) : Prop := PD X W e (wpO cl x)
abbrev PXT (X : Cx) (cl : String → Addr) (W : WX) (e : Expr) (x : XM Bool) : Prop := PTD X W e (wpO cl x)
abbrev PXW (X : Cx) (cl : String → Addr) (W : WX) (e : Expr) (x : XM Bool) : Prop := PWD X W e (wpO cl x)
abbrev PXA (X : Cx) (cl : String → Addr) (W : WX) (e : List Expr) (x : XM (List VR)) : Prop := PAD X W e (wpO cl x)
abbrev PXF (X : Cx) (cl : String → Addr) (W : WX) (e : List Expr) (x : XM (List D)) : Prop := PFD X W e (wpO cl x)
abbrev PXC (X : Cx) (cl : String → Addr) (W : WX) (e : List Expr) (x : XM (List Ag)) : Prop := PCD X W e (wpO cl x)
abbrev PXK (X : Cx) (cl : String → Addr) (W : WX) (e : List Keyword) (x : XM (List Ag)) : Prop := PKD X W e (wpO cl x)
abbrev PXO (X : Cx) (cl : String → Addr) (W : WX) (e : Option Expr) (x : XM (Option Int)) : Prop := POD X W e (wpO cl x)
abbrev PXI (X : Cx) (cl : String → Addr) (W : WX) (tg e : Expr) (x : XM (List D)) : Prop := PID X W tg e (wpO cl x)

/-! ### names, constants -/
abbrev xVar (i : Nat) : XM VR := fun ρ => match getZ ρ i with
  | .fz d => .ok (.fz d) ρ
  | .ow _ => .ok (.bw i) ρ
  | .pw _ => .ok (.bw i) ρ
  | .sc ns => .ok (.sc ns) ρ
  | .nil => .no
  | .xa => .no
theorem px_var (i : Nat) {x : Str} (hN : X.N[i]? = some x := by rfl) (hv : Vis X.env.scope x := by first | exact Or.inl rfl | exact Or.inr (Or.inl rfl) | exact Or.inr (Or.inr rfl)) (hd : (x == ("__debug__" : Str)) = false := by decide)
    (hcd : (x == ("__classdict__" : Str)) = false := by decide) : PX X cl W (.Name x pos) (xVar i) := (pd_var i hN hv hd hcd).mono (by
  rintro ρs Q E ⟨ad, ρ, rfl, h⟩
  unfold eVar
  rw [getS_em0]
  unfold xVar at h
  cases hz : getZ ρ i <;> rw [hz] at h <;> first | exact h.elim | exact h)
abbrev xC (d : D) : XM VR := fun ρ => .ok (.fz d) ρ
theorem px_c {e : Expr} {d : D} (h : PD X W e (eC d)) : PX X cl W e (xC d) := h.mono (by rintro ρs Q E ⟨ad, ρ, rfl, h⟩; exact h)

/-! ### two operands -/
abbrev F2 := SD → SD → Option VR
def Ok2 (f : F2) (rd : DE2) : Prop := ∀ a b z, f a b = some z → ∀ Q : VR → Prop, Q z → rd a b Q
abbrev opZ {α : Type} (o : Option α) (ρ : List Zl) : Rs α := match o with
  | some a => .ok a ρ
  | none => .no
abbrev xOp (f : F2) (xa xb : XM VR) : XM VR := fun ρ => (xa ρ).bind fun x ρ1 => (xb ρ1).bind fun y ρ2 => match peekZ (stl x) ρ2, peekZ (stl y) ρ2 with
  | some p, some q => opZ (f p q) ρ2
  | _, _ => .no
theorem opZ_wp {α : Type} {o : Option α} {ρ : List Zl} {ad : Nat → Addr} {Q : α → List Sl → Prop} {E : XD} (h : (opZ o ρ).wp ad cl Q E) : ∃ a, o = some a ∧ Q a (em ad 0 ρ) := by
  cases o with
  | none => exact h.elim
  | some a => exact ⟨a, rfl, h⟩
theorem w_op {f : F2} {rd : DE2} (hf : Ok2 f rd) {xa xb : XM VR} : ∀ ρ Q E, wpO cl (xOp f xa xb) ρ Q E → eOp rd (wpO cl xa) (wpO cl xb) ρ Q E := by
  rintro ρs Q E ⟨ad, ρ, rfl, h⟩
  refine wpI (wp_bind h _ fun x ρ1 h => ?_)
  refine wpI (wp_bind h _ fun y ρ2 h => ?_)
  unfold pk2
  rw [peek_em, peek_em]
  cases h1 : peekZ (stl x) ρ2 with
  | none => rw [h1] at h; exact h.elim
  | some p =>
    cases h2 : peekZ (stl y) ρ2 with
    | none => rw [h1, h2] at h; exact h.elim
    | some q =>
      rw [h1, h2] at h
      obtain ⟨z, e, hq⟩ := opZ_wp h
      exact hf _ _ _ e _ hq
theorem px_bin {op : Operator} {r : R2} {rd : DE2} {f : F2} {a b : Expr} {xa xb : XM VR} (ho : OpR X (binaryOp op) r) (c : Conn X.K r rd) (hf : Ok2 f rd) (ha : PX X cl W a xa) (hb : PX X cl W b xb) : PX X cl W (.BinOp a op b pos) (xOp f xa xb) := (pd_bin ho c ha hb).mono (w_op hf)
theorem px_cmp {op : CmpOp} {r : R2} {rd : DE2} {f : F2} {a b : Expr} {xa xb : XM VR} (ho : OpR X (compareOp op) r) (c : Conn X.K r rd) (hf : Ok2 f rd) (ha : PX X cl W a xa) (hb : PX X cl W b xb) (hm : behindInMarks op b = false) : PX X cl W (.Compare a [op] [b] pos) (xOp f xa xb) := (pd_cmp ho c ha hb hm).mono (w_op hf)
theorem px_ix {r : R2} {rd : DE2} {f : F2} {a b : Expr} {xa xb : XM VR} (ho : IxR X r) (c : Conn X.K r rd) (hf : Ok2 f rd) (ha : PX X cl W a xa) (hb : PX X cl W b xb) (hs : PlainIx b) : PX X cl W (.Subscript a b pos) (xOp f xa xb) := (pd_ix ho c ha hb hs).mono (w_op hf)

/-! ### one operand -/
def Ok1 (f : SD → Option VR) (rd : DE1) : Prop := ∀ a z, f a = some z → ∀ Q : VR → Prop, Q z → rd a Q
abbrev xUn (f : SD → Option VR) (xa : XM VR) : XM VR := fun ρ => (xa ρ).bind fun x ρ1 => match peekZ (stl x) ρ1 with
  | some p => opZ (f p) ρ1
  | none => .no
theorem px_un {op : UnaryOp} {r : V → Hp → VK → Prop} {rd : DE1} {f : SD → Option VR} {a : Expr} {xa : XM VR} (ho : UnR X (unaryOp op) r) (c : Conn1 X.K r rd) (hf : Ok1 f rd) (ha : PX X cl W a xa) : PX X cl W (.UnaryOp op a pos) (xUn f xa) := (pd_un ho c ha).mono (by
  rintro ρs Q E ⟨ad, ρ, rfl, h⟩
  refine wpI (wp_bind h _ fun x ρ1 h => ?_)
  rw [peek_em]
  cases h1 : peekZ (stl x) ρ1 with
  | none => rw [h1] at h; exact h.elim
  | some p =>
    rw [h1] at h
    obtain ⟨z, e, hq⟩ := opZ_wp h
    exact hf _ _ e _ hq)

/-! ### tests -/
abbrev boolZ {α : Type} (r : VR) (ρ : List Zl) (k : Bool → Rs α) : Rs α := match peekZ (stl r) ρ with
  | some (.d (.bool b)) => k b
  | _ => .no
theorem boolZ_wp {α : Type} {r : VR} {ρ : List Zl} {k : Bool → Rs α} {ad : Nat → Addr} {Q : α → List Sl → Prop} {E : XD} {P : Bool → Prop} (h : (boolZ r ρ k).wp ad cl Q E) (hp : ∀ b, (k b).wp ad cl Q E → P b) : match peek (stl r) (em ad 0 ρ) with | some (.d (.bool b)) => P b | _ => False := by
  rw [peek_em]
  unfold boolZ at h
  cases h1 : peekZ (stl r) ρ with
  | none => rw [h1] at h; exact h.elim
  | some p =>
    rw [h1] at h
    cases p with
    | sc _ => exact h.elim
    | d d => cases d with
      | bool b => exact hp b h
      | _ => exact h.elim
abbrev xB (xa : XM VR) : XM Bool := fun ρ => (xa ρ).bind fun r ρ1 => boolZ r ρ1 fun b => .ok b ρ1
theorem w_B {xa : XM VR} : ∀ ρ Q E, wpO cl (xB xa) ρ Q E → dB (wpO cl xa) ρ Q E := by
  rintro ρs Q E ⟨ad, ρ, rfl, h⟩
  refine wpI (wp_bind h _ fun x ρ1 h => ?_)
  exact boolZ_wp (P := fun b => Q b (em ad 0 ρ1)) h fun b h => h
theorem pxt_val {e : Expr} {x : XM VR} (ha : PX X cl W e x) (he : ∀ whole, isTrue e X.env whole = (do let v ← whole; standAt e.pos; holding [v] (truthy v)) := by intro _; rfl) : PXT X cl W e (xB x) := (ptd_val ha he).mono w_B
theorem pxt_cmp {op : CmpOp} {r : R2} {rd : DE2} {f : F2} {a b : Expr} {xa xb : XM VR} (ho : OpR X (compareOp op) r) (c : Conn X.K r rd) (hf : Ok2 f rd) (ha : PX X cl W a xa) (hb : PX X cl W b xb) (hm : behindInMarks op b = false) : PXT X cl W (.Compare a [op] [b] pos) (xB (xOp f xa xb)) := (ptd_cmp ho c ha hb hm).mono (by
  rintro ρs Q E ⟨ad, ρ, rfl, h⟩
  refine w_op hf _ _ _ (wpI (wp_bind h _ fun x ρ1 h => ?_))
  exact boolZ_wp (P := fun b => Q b (em ad 0 ρ1)) h fun b h => h)
abbrev xAnd (a b : XM Bool) : XM Bool := fun ρ => (a ρ).bind fun k ρ1 => if k = true then b ρ1 else .ok false ρ1
abbrev xOr (a b : XM Bool) : XM Bool := fun ρ => (a ρ).bind fun k ρ1 => if k = true then .ok true ρ1 else b ρ1
abbrev xNot (a : XM Bool) : XM Bool := fun ρ => (a ρ).bind fun k ρ1 => .ok (!k) ρ1
theorem pxw_and1 {a : Expr} {x : XM Bool} (ha : PXT X cl W a x) : PXW X cl W (.BoolOp .And [a] pos) x := pwd_and1 ha
theorem pxw_or1 {a : Expr} {x : XM Bool} (ha : PXT X cl W a x) : PXW X cl W (.BoolOp .Or [a] pos) x := pwd_or1 ha
theorem pxw_and {a b : Expr} {rest : List Expr} {x y : XM Bool} (ha : PXT X cl W a x) (hb : PXW X cl W (.BoolOp .And (b :: rest) pos) y) : PXW X cl W (.BoolOp .And (a :: b :: rest) pos) (xAnd x y) := (pwd_and ha hb).mono (by
  rintro ρs Q E ⟨ad, ρ, rfl, h⟩
  refine wpI (wp_bind h _ fun k ρ1 h => ?_)
  cases k with
  | true => exact wpI h
  | false => exact h)
theorem pxw_or {a b : Expr} {rest : List Expr} {x y : XM Bool} (ha : PXT X cl W a x) (hb : PXW X cl W (.BoolOp .Or (b :: rest) pos) y) : PXW X cl W (.BoolOp .Or (a :: b :: rest) pos) (xOr x y) := (pwd_or ha hb).mono (by
  rintro ρs Q E ⟨ad, ρ, rfl, h⟩
  refine wpI (wp_bind h _ fun k ρ1 h => ?_)
  cases k with
  | false => exact wpI h
  | true => exact h)
theorem pxw_pt {e : Expr} {x : XM Bool} (h : PXW X cl W e x) : PXT X cl W e x := PWD.pt h
theorem pxt_not {a : Expr} {x : XM Bool} (ha : PXT X cl W a x) : PXT X cl W (.UnaryOp .Not a pos) (xNot x) := (ptd_not ha).mono (by
  rintro ρs Q E ⟨ad, ρ, rfl, h⟩
  exact wpI (wp_bind h _ fun k ρ1 h => h))
abbrev xAndE (a b : XM VR) : XM VR := fun ρ => (a ρ).bind fun r ρ1 => boolZ r ρ1 fun k => if k = true then b ρ1 else .ok (.fz (.bool false)) ρ1
abbrev xOrE (a b : XM VR) : XM VR := fun ρ => (a ρ).bind fun r ρ1 => boolZ r ρ1 fun k => if k = true then .ok (.fz (.bool true)) ρ1 else b ρ1
abbrev xNotE (a : XM VR) : XM VR := fun ρ => (a ρ).bind fun r ρ1 => boolZ r ρ1 fun k => .ok (.fz (.bool (!k))) ρ1
theorem px_one {op} {a : Expr} {x : XM VR} (h : PX X cl W a x) : PX X cl W (.BoolOp op [a] pos) x := pd_one h
theorem px_and {a b : Expr} {rest : List Expr} {x y : XM VR} (ha : PX X cl W a x) (hb : PX X cl W (.BoolOp .And (b :: rest) pos) y) : PX X cl W (.BoolOp .And (a :: b :: rest) pos) (xAndE x y) := (pd_and ha hb).mono (by
  rintro ρs Q E ⟨ad, ρ, rfl, h⟩
  refine wpI (wp_bind h _ fun r ρ1 h => boolZ_wp (P := fun b => if b = true then wpO cl y (em ad 0 ρ1) Q E else Q (.fz (.bool false)) (em ad 0 ρ1)) h fun k h => ?_)
  cases k with
  | true => exact wpI h
  | false => exact h)
theorem px_or {a b : Expr} {rest : List Expr} {x y : XM VR} (ha : PX X cl W a x) (hb : PX X cl W (.BoolOp .Or (b :: rest) pos) y) : PX X cl W (.BoolOp .Or (a :: b :: rest) pos) (xOrE x y) := (pd_or ha hb).mono (by
  rintro ρs Q E ⟨ad, ρ, rfl, h⟩
  refine wpI (wp_bind h _ fun r ρ1 h => boolZ_wp (P := fun b => if b = true then Q (.fz (.bool true)) (em ad 0 ρ1) else wpO cl y (em ad 0 ρ1) Q E) h fun k h => ?_)
  cases k with
  | false => exact wpI h
  | true => exact h)
theorem px_not {a : Expr} {x : XM VR} (ha : PX X cl W a x) : PX X cl W (.UnaryOp .Not a pos) (xNotE x) := (pd_not ha).mono (by
  rintro ρs Q E ⟨ad, ρ, rfl, h⟩
  exact wpI (wp_bind h _ fun r ρ1 h => boolZ_wp (P := fun b => Q (.fz (.bool (!b))) (em ad 0 ρ1)) h fun k h => h))
abbrev xIf {α : Type} (c : XM Bool) (a b : XM α) : XM α := fun ρ => (c ρ).bind fun k ρ1 => if k = true then a ρ1 else b ρ1
theorem px_ifExp {c a b : Expr} {t : XM Bool} {x y : XM VR} (hc : PXT X cl W c t) (ha : PX X cl W a x) (hb : PX X cl W b y) : PX X cl W (.IfExp c a b pos) (xIf t x y) := (pd_ifExp hc ha hb).mono (by
  rintro ρs Q E ⟨ad, ρ, rfl, h⟩
  refine wpI (wp_bind h _ fun k ρ1 h => ?_)
  cases k with
  | true => exact wpI h
  | false => exact wpI h)
abbrev xChain (f g : F2) (xa xb xc : XM VR) : XM VR := fun ρ => (xa ρ).bind fun x ρ1 => (xb ρ1).bind fun y ρ2 => match peekZ (stl x) ρ2, peekZ (stl y) ρ2 with
  | some p, some q => match f p q with
    | some (.fz (.bool k)) => if k = true then (xc ρ2).bind fun w ρ3 => match peekZ (stl y) ρ3, peekZ (stl w) ρ3 with
      | some p, some q => opZ (g p q) ρ3
      | _, _ => .no
      else .ok (.fz (.bool false)) ρ2
    | _ => .no
  | _, _ => .no
theorem w_chain {f g : F2} {rd rd' : DE2} (hf : Ok2 f rd) (hg : Ok2 g rd') {xa xb xc : XM VR} : ∀ ρ Q E, wpO cl (xChain f g xa xb xc) ρ Q E → eChain rd rd' (wpO cl xa) (wpO cl xb) (wpO cl xc) ρ Q E := by
  rintro ρs Q E ⟨ad, ρ, rfl, h⟩
  refine wpI (wp_bind h _ fun x ρ1 h => ?_)
  refine wpI (wp_bind h _ fun y ρ2 h => ?_)
  unfold pk2
  rw [peek_em, peek_em]
  cases h1 : peekZ (stl x) ρ2 with
  | none => rw [h1] at h; exact h.elim
  | some p =>
    cases h2 : peekZ (stl y) ρ2 with
    | none => rw [h1, h2] at h; exact h.elim
    | some q =>
      rw [h1, h2] at h
      dsimp only at h
      cases e : f p q with
      | none => rw [e] at h; exact h.elim
      | some z =>
        rw [e] at h
        refine hf _ _ _ e _ ?_
        cases z with
        | fz d =>
          cases d with
          | bool k =>
            dsimp only at h ⊢
            cases k with
            | false => exact h
            | true =>
              rw [if_pos rfl] at h ⊢
              refine wpI (wp_bind h _ fun w ρ3 h => ?_)
              rw [peek_em, peek_em]
              cases h3 : peekZ (stl y) ρ3 with
              | none => rw [h3] at h; exact h.elim
              | some p =>
                cases h4 : peekZ (stl w) ρ3 with
                | none => rw [h3, h4] at h; exact h.elim
                | some q =>
                  rw [h3, h4] at h
                  obtain ⟨z, e, hq⟩ := opZ_wp h
                  exact hg _ _ _ e _ hq
          | _ => exact h.elim
        | _ => exact h.elim
theorem px_chain {op op' : CmpOp} {r r' : R2} {rd rd' : DE2} {f g : F2} {a b c : Expr} {ta tb tc : XM VR} (ho : OpR X (compareOp op) r) (cn : Conn X.K r rd) (hf : Ok2 f rd) (ho' : OpR X (compareOp op') r') (cn' : Conn X.K r' rd') (hg : Ok2 g rd') (ha : PX X cl W a ta) (hb : PX X cl W b tb) (hc : PX X cl W c tc)
    (hm : lastMarks [op, op'] [b, c] = false := by with_unfolding_all rfl) : PX X cl W (.Compare a [op, op'] [b, c] pos) (xChain f g ta tb tc) := (pd_chain ho cn ho' cn' ha hb hc hm).mono (w_chain hf hg)
theorem pxt_chain {op op' : CmpOp} {r r' : R2} {rd rd' : DE2} {f g : F2} {a b c : Expr} {ta tb tc : XM VR} (ho : OpR X (compareOp op) r) (cn : Conn X.K r rd) (hf : Ok2 f rd) (ho' : OpR X (compareOp op') r') (cn' : Conn X.K r' rd') (hg : Ok2 g rd') (ha : PX X cl W a ta) (hb : PX X cl W b tb) (hc : PX X cl W c tc)
    (hm : lastMarks [op, op'] [b, c] = false := by with_unfolding_all rfl) : PXT X cl W (.Compare a [op, op'] [b, c] pos) (xB (xChain f g ta tb tc)) := (ptd_chain ho cn ho' cn' ha hb hc hm).mono (by
  rintro ρs Q E ⟨ad, ρ, rfl, h⟩
  refine w_chain hf hg _ _ _ (wpI (wp_bind h _ fun x ρ1 h => ?_))
  exact boolZ_wp (P := fun b => Q b (em ad 0 ρ1)) h fun b h => h)

/-! ### arguments that are read -/
abbrev xaNil : XM (List VR) := fun ρ => .ok [] ρ
abbrev xaCons (x : XM VR) (xs : XM (List VR)) : XM (List VR) := fun ρ => (x ρ).bind fun r ρ1 => (xs ρ1).bind fun rs ρ2 => .ok (stl r :: rs) ρ2
theorem pxa_nil : PXA X cl W [] xaNil := pad_nil.mono (by rintro ρs Q E ⟨ad, ρ, rfl, h⟩; exact h)
theorem pxa_cons {e : Expr} {es : List Expr} {x : XM VR} {xs : XM (List VR)} (he : PX X cl W e x) (ha : PXA X cl W es xs) (hs : starEach (e :: es) X.env = (false, eval e X.env) :: starEach es X.env := by rfl) : PXA X cl W (e :: es) (xaCons x xs) := (pad_cons he ha hs).mono (by
  rintro ρs Q E ⟨ad, ρ, rfl, h⟩
  refine wpI (wp_bind h _ fun r ρ1 h => ?_)
  exact wpI (wp_bind h _ fun rs ρ2 h => h))
abbrev peeksZ : List VR → List Zl → Option (List SD)
  | [], _ => some []
  | r :: rs, ρ => match peekZ r ρ, peeksZ rs ρ with
    | some a, some as => some (a :: as)
    | _, _ => none
theorem peeks_em {ad : Nat → Addr} {ρ : List Zl} : ∀ {rs : List VR}, peeks rs (em ad 0 ρ) = peeksZ rs ρ
  | [] => rfl
  | r :: rs => by
    show (match peek r (em ad 0 ρ), peeks rs (em ad 0 ρ) with | some a, some as => some (a :: as) | _, _ => none) = _
    rw [peek_em, peeks_em (rs := rs)]
def OkN (f : List SD → Option VR) (rd : DEn) : Prop := ∀ a z, f a = some z → ∀ Q : VR → Prop, Q z → rd a Q
abbrev xCB (f : List SD → Option VR) (xa : XM (List VR)) : XM VR := fun ρ => (xa ρ).bind fun rs ρ1 => match peeksZ rs ρ1 with
  | some as => opZ (f as) ρ1
  | none => .no
theorem w_cb {f : List SD → Option VR} {rd : DEn} (hf : OkN f rd) {xa : XM (List VR)} : ∀ ρ Q E, wpO cl (xCB f xa) ρ Q E → eCB rd (wpO cl xa) ρ Q E := by
  rintro ρs Q E ⟨ad, ρ, rfl, h⟩
  refine wpI (wp_bind h _ fun rs ρ1 h => ?_)
  rw [peeks_em]
  cases h1 : peeksZ rs ρ1 with
  | none => rw [h1] at h; exact h.elim
  | some p =>
    rw [h1] at h
    obtain ⟨z, e, hq⟩ := opZ_wp h
    exact hf _ _ e _ hq
theorem px_callB {x : Str} {p : Pos} {e : Expr} {es : List Expr} {id : String} {r : List V → Hp → VK → Prop} {rd : DEn} {f : List SD → Option VR} {ta : XM (List VR)} (hc : CallR X (.builtin id) r) (c : ConnN X.K r rd) (hf : OkN f rd) (hg : Gl X x) (hm : X.mg x = none) (hv : bootBuiltins x = some (.builtin id)) (ha : PXA X cl W (e :: es) ta)
    (hn : x ≠ "__name__" := by decide) (hdb : (x == ("__debug__" : Str)) = false := by decide)
    (he : starEach (e :: es) X.env = (false, eval e X.env) :: starEach es X.env := by rfl) (hpl : (backTo pos (starEach es X.env)).any (·.1) = false := by rfl) : PX X cl W (.Call (.Name x p) (e :: es) [] pos) (xCB f ta) := (pd_callB hc c hg hm hv ha hn hdb he hpl).mono (w_cb hf)
theorem px_callTy {x : Str} {p : Pos} {e : Expr} {es : List Expr} {T : String} {r : List V → Hp → VK → Prop} {rd : DEn} {f : List SD → Option VR} {ta : XM (List VR)} (hc : CallR X (.type T) r) (c : ConnN X.K r rd) (hf : OkN f rd) (hg : Gl X x) (hm : X.mg x = none) (hv : bootBuiltins x = some (.type T)) (ha : PXA X cl W (e :: es) ta)
    (hn : x ≠ "__name__" := by decide) (hdb : (x == ("__debug__" : Str)) = false := by decide)
    (he : starEach (e :: es) X.env = (false, eval e X.env) :: starEach es X.env := by rfl) (hpl : (backTo pos (starEach es X.env)).any (·.1) = false := by rfl) : PX X cl W (.Call (.Name x p) (e :: es) [] pos) (xCB f ta) := (pd_callTy hc c hg hm hv ha hn hdb he hpl).mono (w_cb hf)

/-! ### items that are kept -/
abbrev frzB {α : Type} (r : VR) (ρ : List Zl) (k : D → List Zl → Rs α) : Rs α := match frzZ r ρ with
  | some (d, ρ') => k d ρ'
  | none => .no
theorem frzB_wp {α : Type} {r : VR} {ρ : List Zl} {k : D → List Zl → Rs α} {ad : Nat → Addr} {Q : α → List Sl → Prop} {E : XD} {P : D → List Sl → Prop} (h : (frzB r ρ k).wp ad cl Q E) (hp : ∀ d ρ', (k d ρ').wp ad cl Q E → P d (em ad 0 ρ')) : frz r (em ad 0 ρ) P := by
  unfold frzB at h
  cases e : frzZ r ρ with
  | none => rw [e] at h; exact h.elim
  | some p => rw [e] at h; exact frz_em e (hp _ _ h)
abbrev xfNil : XM (List D) := fun ρ => .ok [] ρ
abbrev xfCons (x : XM VR) (xs : XM (List D)) : XM (List D) := fun ρ => (x ρ).bind fun r ρ1 => frzB r ρ1 fun d ρ2 => (xs ρ2).bind fun ds ρ3 => .ok (d :: ds) ρ3
theorem pxf_nil : PXF X cl W [] xfNil := pfd_nil.mono (by rintro ρs Q E ⟨ad, ρ, rfl, h⟩; exact h)
theorem pxf_cons {e : Expr} {es : List Expr} {x : XM VR} {xs : XM (List D)} (he : PX X cl W e x) (ha : PXF X cl W es xs) (hs : starEach (e :: es) X.env = (false, eval e X.env) :: starEach es X.env := by rfl) : PXF X cl W (e :: es) (xfCons x xs) := (pfd_cons he ha hs).mono (by
  rintro ρs Q E ⟨ad, ρ, rfl, h⟩
  refine wpI (wp_bind h _ fun r ρ1 h => ?_)
  refine frzB_wp h fun d ρ2 h => ?_
  exact wpI (wp_bind h _ fun rs ρ2 h => h))
abbrev xTup (xs : XM (List D)) : XM VR := fun ρ => (xs ρ).bind fun ds ρ1 => .ok (.fz (.tuple ds)) ρ1
abbrev xLst (xs : XM (List D)) : XM VR := fun ρ => (xs ρ).bind fun ds ρ1 => .ok (.ow (.l ds)) ρ1
theorem px_tup {es : List Expr} {x1} {xs : XM (List D)} (ha : PXF X cl W es xs) (hz : es.length ≤ 1000000 := by decide) : PX X cl W (.Tuple es x1 pos) (xTup xs) := (pd_tup ha hz).mono (by
  rintro ρs Q E ⟨ad, ρ, rfl, h⟩
  exact wpI (wp_bind h _ fun r ρ1 h => h))
theorem px_lst {es : List Expr} {xs : XM (List D)} (ha : PXF X cl W es xs) (hz : es.length ≤ 1000000 := by decide) : PX X cl W (.List es pos) (xLst xs) := (pd_lst ha hz).mono (by
  rintro ρs Q E ⟨ad, ρ, rfl, h⟩
  exact wpI (wp_bind h _ fun r ρ1 h => h))
/-! ### slices -/
abbrev xoNone : XM (Option Int) := fun ρ => .ok none ρ
abbrev xoSome (x : XM VR) : XM (Option Int) := fun ρ => (x ρ).bind fun r ρ1 => match peekZ (stl r) ρ1 with
  | some (.d (.int i)) => .ok (some i) ρ1
  | _ => .no
theorem pxo_none : PXO X cl W none xoNone := pod_none.mono (by rintro ρs Q E ⟨ad, ρ, rfl, h⟩; exact h)
theorem pxo_some {e : Expr} {x : XM VR} (he : PX X cl W e x) : PXO X cl W (some e) (xoSome x) := (pod_some he).mono (by
  rintro ρs Q E ⟨ad, ρ, rfl, h⟩
  refine wpI (wp_bind h _ fun r ρ1 h => ?_)
  rw [peek_em]
  cases h1 : peekZ (stl r) ρ1 with
  | none => rw [h1] at h; exact h.elim
  | some p =>
    rw [h1] at h
    cases p with
    | sc _ => exact h.elim
    | d d => cases d with
      | int b => exact h
      | _ => exact h.elim)
abbrev ySl : SD → Option Int → Option Int → Option VR
  | .d (.list ds), lo, hi => some (.ow (.l (cutA ds lo hi)))
  | .d (.tuple ds), lo, hi => some (.fz (.tuple (cutA ds lo hi)))
  | .sc ns, lo, hi => if ns.length ≤ sizeLine then some (.ow (.l ((cutA ns lo hi).map .int))) else none
  | .d (.str x), lo, hi => if x.length ≤ sizeLine then some (.fz (.str (cutS x lo hi))) else none
  | _, _, _ => none
abbrev xSl (x : XM VR) (xl xh : XM (Option Int)) : XM VR := fun ρ => (x ρ).bind fun r ρ1 => (xl ρ1).bind fun l ρ2 => (xh ρ2).bind fun u ρ3 => match peekZ (stl r) ρ3 with
  | some a => opZ (ySl a l u) ρ3
  | none => .no
theorem ySl_ok {a : SD} {l u : Option Int} {z : VR} (h : ySl a l u = some z) {Q : VR → Prop} (q : Q z) : dSl a l u Q := by
  unfold ySl at h
  split at h
  · cases h; exact q
  · cases h; exact q
  · split at h
    · rename_i hc; cases h; exact ⟨hc, q⟩
    · cases h
  · split at h
    · rename_i hc; cases h; exact ⟨hc, q⟩
    · cases h
  · cases h
theorem px_slice {e : Expr} {lo hi : Option Expr} {x : XM VR} {xl xh : XM (Option Int)} {p2 : Pos} (he : PX X cl W e x) (hl : PXO X cl W lo xl) (hh : PXO X cl W hi xh) : PX X cl W (.Subscript e (.Slice lo hi none p2) pos) (xSl x xl xh) := (pd_slice he hl hh).mono (by
  rintro ρs Q E ⟨ad, ρ, rfl, h⟩
  refine wpI (wp_bind h _ fun r ρ1 h => ?_)
  refine wpI (wp_bind h _ fun l ρ2 h => ?_)
  refine wpI (wp_bind h _ fun u ρ3 h => ?_)
  rw [peek_em]
  cases h1 : peekZ (stl r) ρ3 with
  | none => rw [h1] at h; exact h.elim
  | some p =>
    rw [h1] at h
    obtain ⟨z, e, hq⟩ := opZ_wp h
    exact ySl_ok e hq)
end
end FL
set_option Elab.async false
set_option linter.all false
set_option maxRecDepth 100000
set_option maxHeartbeats 1000000
/-! FLb: statements, loops, comprehensions, calls, defs as functions. -/
namespace FL
open PySem PySem.Spec PyProof.Rows L2 DL
section
variable {X : Cx} {W : WX} {pos : Pos} {cl : String → Addr}
inductive So where
  | nx | bk | ct | rt (r : VR)
abbrev XS := XM So
abbrev endK (D : DEnds) : So → List Sl → Prop
  | .nx => D.nx
  | .bk => D.bk
  | .ct => D.ct
  | .rt r => D.rt r
def wpS (cl : String → Addr) (x : XS) : DS := fun D ρs => wpO cl x ρs (endK D) D.ex
abbrev PXS (X : Cx) (cl : String → Addr) (W : WX) (st : Stmt) (x : XS) : Prop := PSD X W st (wpS cl x)
abbrev PXB (X : Cx) (cl : String → Addr) (W : WX) (st : List Stmt) (x : XS) : Prop := PBD X W st (wpS cl x)

/-! ### targets -/
abbrev XG := D → List Zl → Option (List Zl)
abbrev XGs := List D → List Zl → Option (List Zl)
def wpG (g : XG) : DG := fun d ρs Q => ∃ ad ρ ρ', ρs = em ad 0 ρ ∧ g d ρ = some ρ' ∧ Q (em ad 0 ρ')
def wpGs (g : XGs) : DGs := fun d ρs Q => ∃ ad ρ ρ', ρs = em ad 0 ρ ∧ g d ρ = some ρ' ∧ Q (em ad 0 ρ')
theorem _root_.DL.PGD.mono {e : Expr} {t u : DG} {ix : List Nat} (h : PGD X e t ix) (m : ∀ d ρ Q, u d ρ Q → t d ρ Q) : PGD X e u ix := let ⟨te, p, s⟩ := h; ⟨te, p, fun B Hf ρ σ H v d Q Qd S r h => s B Hf ρ σ H v d Q Qd S r (m _ _ _ h)⟩
theorem _root_.DL.PGsD.mono {e : List Expr} {t u : DGs} {ix : List Nat} (h : PGsD X e t ix) (m : ∀ d ρ Q, u d ρ Q → t d ρ Q) : PGsD X e u ix := let ⟨te, p, s⟩ := h; ⟨te, p, fun B Hf ρ σ H v d Q Qd S r h => s B Hf ρ σ H v d Q Qd S r (m _ _ _ h)⟩
abbrev yN (i : Nat) : XG := fun d ρ => some (setZ ρ i (.fz d))
abbrev ysNil : XGs := fun ds ρ => match ds with | [] => some ρ | _ :: _ => none
abbrev ysCons (g : XG) (gs : XGs) : XGs := fun ds ρ => match ds with | [] => none | d :: r => match g d ρ with | some ρ' => gs r ρ' | none => none
abbrev yT (gs : XGs) : XG := fun d ρ => match d with | .tuple ds => gs ds ρ | _ => none
theorem pxg_name {i : Nat} {x : Str} (hN : X.N.Nodup) (hi : X.N[i]? = some x) (hx : Loc X.env.scope x) (hf : X.fn x = true ∨ X.env.scope.names.lookup x = some .local := by first | exact .inl rfl | exact .inr rfl | assumption) : PGD X (.Name x pos) (wpG (yN i)) [i] := (pgd_name hN hi hx hf).mono (by
  rintro d ρs Q ⟨ad, ρ, ρ', rfl, e, h⟩
  cases e
  show Q (setS (em ad 0 ρ) i (.fz d))
  rw [setS_fz]; exact h)
theorem pxgs_nil : PGsD X [] (wpGs ysNil) [] := pgsd_nil.mono (by
  rintro d ρs Q ⟨ad, ρ, ρ', rfl, e, h⟩
  cases d with
  | nil => cases e; exact h
  | cons _ _ => cases e)
theorem ys_len : ∀ {gs : XGs} {n : Nat}, (∀ ds ρ ρ', gs ds ρ = some ρ' → ds.length = n) → ∀ ds ρ Q, wpGs gs ds ρ Q → ds.length = n := by
  rintro gs n h ds ρs Q ⟨ad, ρ, ρ', rfl, e, _⟩
  exact h _ _ _ e
theorem ysn_len : ∀ ds ρ ρ', ysNil ds ρ = some ρ' → ds.length = 0 := by
  intro ds ρ ρ' h
  cases ds with
  | nil => rfl
  | cons _ _ => cases h
theorem ysc_len {g : XG} {gs : XGs} {n : Nat} (ih : ∀ ds ρ ρ', gs ds ρ = some ρ' → ds.length = n) : ∀ ds ρ ρ', ysCons g gs ds ρ = some ρ' → ds.length = n + 1 := by
  intro ds ρ ρ' h
  cases ds with
  | nil => cases h
  | cons d r =>
    change (match g d ρ with | some ρ' => gs r ρ' | none => none) = some ρ' at h
    cases e : g d ρ with
    | none => rw [e] at h; cases h
    | some ρ1 => rw [e] at h; exact congrArg (· + 1) (ih _ _ _ h)
end
section
variable {X : Cx} {W : WX} {pos : Pos} {cl : String → Addr}
theorem wc_gs {g : XG} {gs : XGs} : ∀ d ρ Q, wpGs (ysCons g gs) d ρ Q → gsCons (wpG g) (wpGs gs) d ρ Q := by
  rintro d ρs Q ⟨ad, ρ, ρ', rfl, e, h⟩
  cases d with
  | nil => cases e
  | cons d r =>
    change (match g d ρ with | some ρ' => gs r ρ' | none => none) = some ρ' at e
    cases e1 : g d ρ with
    | none => rw [e1] at e; cases e
    | some ρ1 => rw [e1] at e; exact ⟨ad, ρ, ρ1, rfl, e1, ad, ρ1, ρ', rfl, e, h⟩
theorem wc_t {gs : XGs} : ∀ d ρ Q, wpG (yT gs) d ρ Q → gT (wpGs gs) d ρ Q := by
  rintro d ρs Q ⟨ad, ρ, ρ', rfl, e, h⟩
  cases d with
  | tuple ds => exact ⟨ad, ρ, ρ', rfl, e, h⟩
  | _ => cases e

/-! ### statements -/
abbrev zNext : XS := fun ρ => .ok .nx ρ
abbrev zSeq (a b : XS) : XS := fun ρ => match a ρ with
  | .ok .nx ρ1 => b ρ1
  | r => r
abbrev zBreak : XS := fun ρ => .ok .bk ρ
abbrev zCont : XS := fun ρ => .ok .ct ρ
abbrev zRet (x : XM VR) : XS := fun ρ => (x ρ).bind fun r ρ1 => .ok (.rt r) ρ1
abbrev zRetN : XS := fun ρ => .ok (.rt (.fz .none)) ρ
abbrev zDrop (x : XM VR) : XS := fun ρ => (x ρ).bind fun _ ρ1 => .ok .nx ρ1
abbrev zIf (c : XM Bool) (a b : XS) : XS := fun ρ => (c ρ).bind fun k ρ1 => if k = true then a ρ1 else b ρ1
abbrev asgZ (i : Nat) (r : VR) (ρ : List Zl) : Rs So := match r with
  | .fz d => .ok .nx (setZ ρ i (.fz d))
  | .ow c => .ok .nx (setZ ρ i (.ow c))
  | .sc ns => .ok .nx (setZ ρ i (.sc ns))
  | .bw j => frzB (.bw j) ρ fun d ρ' => .ok .nx (setZ ρ' i (.fz d))
abbrev zSet (i : Nat) (x : XM VR) : XS := fun ρ => (x ρ).bind fun r ρ1 => asgZ i r ρ1
abbrev zAsg (x : XM VR) (g : XG) : XS := fun ρ => (x ρ).bind fun r ρ1 => frzB r ρ1 fun d ρ2 => match g d ρ2 with
  | some ρ3 => .ok .nx ρ3
  | none => .no
abbrev zPar (is : List Nat) (xs : XM (List D)) : XS := fun ρ => (xs ρ).bind fun ds ρ1 => match is, ds with
  | [i, j], [a, b] => .ok .nx (setZ (setZ ρ1 i (.fz a)) j (.fz b))
  | [i, j, k], [a, b, c] => .ok .nx (setZ (setZ (setZ ρ1 i (.fz a)) j (.fz b)) k (.fz c))
  | _, _ => .no
abbrev zRaise (n : String) : XS := fun ρ => .ex n ρ
theorem pxb_nil : PXB X cl W [] zNext := pbd_nil.mono (by rintro ρs D ⟨ad, ρ, rfl, h⟩; exact h)
theorem pxb_cons {st : Stmt} {rest : List Stmt} {a b : XS} (h1 : PXS X cl W st a) (h2 : PXB X cl W rest b) : PXB X cl W (st :: rest) (zSeq a b) := (pbd_cons h1 h2).mono (by
  rintro ρs D ⟨ad, ρ, rfl, h⟩
  refine ⟨ad, ρ, rfl, ?_⟩
  unfold zSeq at h
  cases e : a ρ with
  | ok o ρ1 =>
    rw [e] at h
    cases o with
    | nx => exact ⟨ad, ρ1, rfl, h⟩
    | _ => exact h
  | ex n ρ1 => rw [e] at h; exact h
  | no => rw [e] at h; exact h)
theorem pxb_one {st : Stmt} {a : XS} (h1 : PXS X cl W st a) : PXB X cl W [st] a := pbd_one h1
theorem pxs_pass : PXS X cl W (.Pass pos) zNext := psd_pass.mono (by rintro ρs D ⟨ad, ρ, rfl, h⟩; exact h)
theorem pxs_break : PXS X cl W (.Break pos) zBreak := psd_break.mono (by rintro ρs D ⟨ad, ρ, rfl, h⟩; exact h)
theorem pxs_continue : PXS X cl W (.Continue pos) zCont := psd_continue.mono (by rintro ρs D ⟨ad, ρ, rfl, h⟩; exact h)
theorem pxs_ret {e : Expr} {x : XM VR} (he : PX X cl W e x) : PXS X cl W (.Return (some e) pos) (zRet x) := (psd_ret he).mono (by
  rintro ρs D ⟨ad, ρ, rfl, h⟩
  exact wpI (wp_bind h _ fun r ρ1 h => h))
theorem pxs_retN : PXS X cl W (.Return none pos) zRetN := psd_retN.mono (by rintro ρs D ⟨ad, ρ, rfl, h⟩; exact h)
theorem pxs_expr {e : Expr} {x : XM VR} (he : PX X cl W e x) (hs : swapsWith e none pos.line X.env = pure false := by rfl) : PXS X cl W (.Expr e pos) (zDrop x) := (psd_expr he hs).mono (by
  rintro ρs D ⟨ad, ρ, rfl, h⟩
  exact wpI (wp_bind h _ fun r ρ1 h => h))
theorem pxs_if {c : Expr} {a b : List Stmt} {t : XM Bool} {x y : XS} (hc : PXT X cl W c t) (ha : PXB X cl W a x) (hb : PXB X cl W b y) : PXS X cl W (.If c a b pos) (zIf t x y) := (psd_if hc ha hb).mono (by
  rintro ρs D ⟨ad, ρ, rfl, h⟩
  refine wpI (wp_bind h _ fun k ρ1 h => ?_)
  cases k with
  | true => exact ⟨ad, ρ1, rfl, h⟩
  | false => exact ⟨ad, ρ1, rfl, h⟩)
theorem asg_wp {i : Nat} {r : VR} {ρ : List Zl} {ad : Nat → Addr} {D : DEnds} (h : (asgZ i r ρ).wp ad cl (endK D) D.ex) : asg i r (em ad 0 ρ) D.nx := by
  cases r with
  | fz d => show D.nx (setS _ _ _); rw [setS_fz]; exact h
  | ow d => show D.nx (setS _ _ _); rw [setS_ow]; exact h
  | sc d => show D.nx (setS _ _ _); rw [setS_sc]; exact h
  | bw j => exact frzB_wp (P := fun d ρ' => D.nx (setS ρ' i (.fz d))) h fun d ρ' h => by rw [setS_fz]; exact h
theorem pxs_set (i : Nat) {x : Str} {e : Expr} {xe : XM VR} {pos' : Pos} (hN : X.N.Nodup) (he : PX X cl W e xe) (hi : X.N[i]? = some x := by rfl) (hx : Loc X.env.scope x := by first | exact Or.inl rfl | exact Or.inr rfl)
    (hs : swapsWith e (some (.Name x pos')) pos.line X.env = pure false := by rfl) (hf : X.fn x = true ∨ X.env.scope.names.lookup x = some .local := by first | exact .inl rfl | exact .inr rfl | assumption) :
    PXS X cl W (.Assign [.Name x pos'] e pos) (zSet i xe) := (psd_set i hN he hi hx hs hf).mono (by
  rintro ρs D ⟨ad, ρ, rfl, h⟩
  exact wpI (wp_bind h _ fun r ρ1 h => asg_wp h))
theorem pxs_asg {tg e : Expr} {xe : XM VR} {g : XG} {ix : List Nat} (he : PX X cl W e xe) (hg : PGD X tg (wpG g) ix) (hs : swapsWithSole [tg] e pos.line X.env = pure false := by rfl) (hw : swappedStores [tg] e X.env = pure none := by rfl)
    (h1 : (assignEach [tg] X.env).map (·.2) = [assign tg X.env] := by rfl) : PXS X cl W (.Assign [tg] e pos) (zAsg xe g) := (psd_asg he hg hs hw h1).mono (by
  rintro ρs D ⟨ad, ρ, rfl, h⟩
  refine wpI (wp_bind h _ fun r ρ1 h => ?_)
  refine frzB_wp h fun d ρ2 h => ?_
  cases e : g d ρ2 with
  | none => rw [e] at h; exact h.elim
  | some ρ3 => rw [e] at h; exact ⟨ad, ρ2, ρ3, rfl, e, h⟩)
theorem w_par {is : List Nat} {xs : XM (List D)} : ∀ ρ D, wpS cl (zPar is xs) D ρ → sPar is (wpO cl xs) D ρ := by
  rintro ρs D ⟨ad, ρ, rfl, h⟩
  refine wpI (wp_bind h _ fun ds ρ1 h => ?_)
  match is, ds, h with
  | [i, j], [a, b], h => dsimp only; rw [setS_fz, setS_fz]; exact h
  | [i, j, k], [a, b, c], h => dsimp only; rw [setS_fz, setS_fz, setS_fz]; exact h

/-! ### for, while -/
def forF (g : XG) (body : XS) : List D → XS
  | [], ρ => .ok .nx ρ
  | d :: r, ρ => match g d ρ with
    | some ρ1 => match body ρ1 with
      | .ok .nx ρ2 => forF g body r ρ2
      | .ok .ct ρ2 => forF g body r ρ2
      | .ok .bk ρ2 => .ok .nx ρ2
      | r => r
    | none => .no
abbrev zFor (src : XM (List D)) (g : XG) (body : XS) : XS := fun ρ => (src ρ).bind fun items ρ1 => forF g body items ρ1
theorem drop_at {α : Type} : ∀ {l : List α} {i : Nat} {d : α}, l[i]? = some d → l.drop i = d :: l.drop (i + 1)
  | [], _, _, h => by simp at h
  | a :: l, 0, d, h => by simp at h; subst h; rfl
  | a :: l, i + 1, d, h => by
    show l.drop i = d :: l.drop (i + 1)
    exact drop_at (by simpa using h)
theorem w_for {src : XM (List D)} {g : XG} {body : XS} : ∀ ρ D, wpS cl (zFor src g body) D ρ → sFor (wpO cl src) (wpG g) (wpS cl body) D ρ := by
  rintro ρs D ⟨ad, ρ, rfl, h⟩
  refine wpI (wp_bind h _ fun items ρ1 h => ?_)
  refine ⟨fun i ρs => ∃ ρz, ρs = em ad 0 ρz ∧ (forF g body (items.drop i) ρz).wp ad cl (endK D) D.ex, ⟨ρ1, rfl, h⟩, ?_, ?_⟩
  · rintro i d ρ2 hd ⟨ρz, rfl, h⟩
    rw [drop_at hd] at h
    unfold forF at h
    cases e : g d ρz with
    | none => rw [e] at h; exact h.elim
    | some ρ3 =>
      rw [e] at h
      refine ⟨ad, ρz, ρ3, rfl, e, ad, ρ3, rfl, ?_⟩
      dsimp only at h
      cases e2 : body ρ3 with
      | no => rw [e2] at h; exact h
      | ex n ρ4 => rw [e2] at h; exact h
      | ok o ρ4 =>
        rw [e2] at h
        cases o with
        | nx => exact ⟨ρ4, rfl, h⟩
        | ct => exact ⟨ρ4, rfl, h⟩
        | bk => exact h
        | rt r => exact h
  · rintro ρ2 ⟨ρz, rfl, h⟩
    rw [List.drop_length] at h
    exact h
theorem pxs_for {tg iter : Expr} {body : List Stmt} {src : XM (List D)} {g : XG} {ix : List Nat} {x : XS} (hp : PassesOwn (model X.prog X.w) X.A X.env X.xe) (hc : X.calm = true) (hi : PXI X cl W tg iter src) (hg : PGD X tg (wpG g) ix) (hb : PXB X cl W body x)
    (hs : ∀ x, foldedSetIterable iter X.env x = pure x := by intro _; rfl) : PXS X cl W (.For tg iter body [] pos) (zFor src g x) := (psd_for hp hc hi hg hb hs).mono w_for
def loopW (c : XM Bool) (body : XS) : Nat → XS
  | 0 => fun _ => .no
  | n + 1 => fun ρ => match c ρ with
    | .ok true ρ1 => match body ρ1 with
      | .ok .nx ρ2 => loopW c body n ρ2
      | .ok .ct ρ2 => loopW c body n ρ2
      | .ok .bk ρ2 => .ok .nx ρ2
      | r => r
    | .ok false ρ1 => .ok .nx ρ1
    | .ex n ρ1 => .ex n ρ1
    | .no => .no
theorem loopW_mono {c : XM Bool} {body : XS} : ∀ {n m : Nat} {ρ : List Zl}, n ≤ m → loopW c body n ρ ≠ .no → loopW c body m ρ = loopW c body n ρ
  | 0, _, _, _, h => absurd rfl h
  | n + 1, 0, _, l, _ => by omega
  | n + 1, m + 1, ρ, l, h => by
    unfold loopW at h ⊢
    cases e : c ρ with
    | no => rfl
    | ex _ _ => rfl
    | ok k ρ1 =>
      rw [e] at h
      cases k with
      | false => rfl
      | true =>
        dsimp only at h ⊢
        cases e2 : body ρ1 with
        | no => rfl
        | ex _ _ => rfl
        | ok o ρ2 =>
          rw [e2] at h
          cases o with
          | nx => exact loopW_mono (by omega) h
          | ct => exact loopW_mono (by omega) h
          | _ => rfl
open Classical in
noncomputable def zWhile (c : XM Bool) (body : XS) : XS := fun ρ => if h : ∃ n, loopW c body n ρ ≠ .no then loopW c body h.choose ρ else .no
theorem zWhile_eq {c : XM Bool} {body : XS} {ρ : List Zl} {n : Nat} {r : Rs So} (h : loopW c body n ρ = r) (hn : r ≠ .no) : zWhile c body ρ = r := by
  subst h
  have hx : ∃ n, loopW c body n ρ ≠ .no := ⟨n, hn⟩
  unfold zWhile
  rw [dif_pos hx]
  have h2 := hx.choose_spec
  rcases Nat.le_total n hx.choose with l | l
  · exact loopW_mono l hn
  · exact (loopW_mono l h2).symm
theorem zWhile_of {c : XM Bool} {body : XS} {ρ : List Zl} (h : zWhile c body ρ ≠ .no) : ∃ n, loopW c body n ρ = zWhile c body ρ := by
  unfold zWhile at h ⊢
  split at h
  · rename_i hx; exact ⟨hx.choose, by rw [dif_pos hx]⟩
  · exact absurd rfl h
theorem least_ex {P : Nat → Prop} (h : ∃ n, P n) : ∃ m, P m ∧ ∀ k, P k → m ≤ k := by
  obtain ⟨n, hn⟩ := h
  induction n using Nat.strongRecOn with
  | _ n ih =>
    by_cases hx : ∃ k, k < n ∧ P k
    · obtain ⟨k, hk, hp⟩ := hx
      exact ih k hk hp
    · exact ⟨n, hn, fun k hk => Nat.le_of_not_lt fun l => hx ⟨k, l, hk⟩⟩
open Classical in
noncomputable def leastN (P : Nat → Prop) : Nat := if h : ∃ n, P n then (least_ex h).choose else 0
theorem leastN_spec {P : Nat → Prop} (h : ∃ n, P n) : P (leastN P) := by
  unfold leastN
  rw [dif_pos h]
  exact (least_ex h).choose_spec.1
theorem leastN_le {P : Nat → Prop} {k : Nat} (h : P k) : leastN P ≤ k := by
  unfold leastN
  rw [dif_pos ⟨k, h⟩]
  exact (least_ex ⟨k, h⟩).choose_spec.2 k h
theorem w_while {c : XM Bool} {body : XS} : ∀ ρ D, wpS cl (zWhile c body) D ρ → sWhile (wpO cl c) (wpS cl body) D ρ := by
  rintro ρs D ⟨ad, ρ, rfl, h⟩
  have hn : zWhile c body ρ ≠ .no := fun e => by rw [e] at h; exact h
  obtain ⟨n, en⟩ := zWhile_of hn
  rw [← en] at h
  let P : Nat → List Sl → Prop := fun n ρs => ∃ ρz, ρs = em ad 0 ρz ∧ (loopW c body n ρz).wp ad cl (endK D) D.ex
  refine ⟨fun ρs => ∃ n, P n ρs, fun ρs => leastN fun n => P n ρs, ⟨n, ρ, rfl, h⟩, ?_⟩
  intro ρs1 hx
  have hs := leastN_spec hx
  dsimp only
  generalize (leastN fun n => P n ρs1) = m at hs
  obtain ⟨ρz, rfl, h⟩ := hs
  cases m with
  | zero => exact h.elim
  | succ m =>
    unfold loopW at h
    refine ⟨ad, ρz, rfl, ?_⟩
    cases e : c ρz with
    | no => rw [e] at h; exact h
    | ex _ _ => rw [e] at h; exact h
    | ok k ρ1 =>
      rw [e] at h
      cases k with
      | false => exact h
      | true =>
        dsimp only at h
        refine ⟨ad, ρ1, rfl, ?_⟩
        have key : ∀ ρ2, (loopW c body m ρ2).wp ad cl (endK D) D.ex → (∃ n, P n (em ad 0 ρ2)) ∧ (leastN fun n => P n (em ad 0 ρ2)) < m + 1 := by
          intro ρ2 h2
          have hx2 : ∃ n, P n (em ad 0 ρ2) := ⟨m, ρ2, rfl, h2⟩
          exact ⟨hx2, Nat.lt_succ_of_le (leastN_le (P := fun n => P n (em ad 0 ρ2)) ⟨ρ2, rfl, h2⟩)⟩
        cases e2 : body ρ1 with
        | no => rw [e2] at h; exact h
        | ex _ _ => rw [e2] at h; exact h
        | ok o ρ2 =>
          rw [e2] at h
          cases o with
          | nx => exact key ρ2 h
          | ct => exact key ρ2 h
          | bk => exact h
          | rt r => exact h
theorem pxs_while {c : Expr} {body : List Stmt} {t : XM Bool} {x : XS} (hp : PassesOwn (model X.prog X.w) X.A X.env X.xe) (hc : PXT X cl W c t) (hb : PXB X cl W body x) : PXS X cl W (.While c body [] pos) (zWhile t x) := (psd_while hp hc hb).mono w_while

/-! ### comprehensions -/
abbrev nilsZ : List Zl → List Nat → List Zl
  | ρ, [] => ρ
  | ρ, v :: vs => setZ (nilsZ ρ vs) v .nil
theorem nils_em {ad : Nat → Addr} {ρ : List Zl} : ∀ vs, nils (em ad 0 ρ) vs = em ad 0 (nilsZ ρ vs)
  | [] => rfl
  | v :: vs => by
    show setS (nils (em ad 0 ρ) vs) v .nil = _
    rw [nils_em vs, setS_nil]
def lcF (g : XG) (tt : XM Bool) (te : XM VR) (vs : List Nat) : List D → XM (List D)
  | [], ρ => .ok [] ρ
  | d :: r, ρ => match g d (nilsZ ρ vs) with
    | none => .no
    | some ρ3 => match tt ρ3 with
      | .ok true ρ4 => match te ρ4 with
        | .ok rv ρ5 => match frzZ rv ρ5 with
          | some (y, ρ6) => match lcF g tt te vs r (nilsZ ρ6 vs) with
            | .ok ys ρ7 => .ok (y :: ys) ρ7
            | _ => .no
          | none => .no
        | _ => .no
      | .ok false ρ4 => lcF g tt te vs r (nilsZ ρ4 vs)
      | _ => .no
abbrev xLc (src : XM (List D)) (g : XG) (tt : XM Bool) (te : XM VR) (vs : List Nat) : XM VR := fun ρ => (src ρ).bind fun items ρ1 => match lcF g tt te vs items (nilsZ ρ1 vs) with
  | .ok ys ρ2 => .ok (.ow (.l ys)) ρ2
  | _ => .no
abbrev xYes : XM Bool := fun ρ => .ok true ρ
theorem w_lc {src : XM (List D)} {g : XG} {tt : XM Bool} {te : XM VR} {vs : List Nat} : ∀ ρ Q E, wpO cl (xLc src g tt te vs) ρ Q E → eLc (wpO cl src) (wpG g) (wpO cl tt) (wpO cl te) vs ρ Q E := by
  rintro ρs Q E ⟨ad, ρ, rfl, h⟩
  refine wpI (wp_bind h _ fun items ρ1 h => ?_)
  rw [nils_em]
  cases e0 : lcF g tt te vs items (nilsZ ρ1 vs) with
  | no => rw [e0] at h; exact h.elim
  | ex _ _ => rw [e0] at h; exact h.elim
  | ok ys ρf =>
    rw [e0] at h
    refine ⟨fun i acc ρs => ∃ ρz ys ρf, ρs = em ad 0 ρz ∧ lcF g tt te vs (items.drop i) ρz = .ok ys ρf ∧ Q (.ow (.l (acc ++ ys))) (em ad 0 ρf), ⟨_, ys, ρf, rfl, e0, h⟩, ?_, ?_⟩
    · rintro i d acc ρ2 hd ⟨ρz, ys, ρf, rfl, e, q⟩
      rw [drop_at hd] at e
      unfold lcF at e
      rw [nils_em]
      cases e1 : g d (nilsZ ρz vs) with
      | none => rw [e1] at e; cases e
      | some ρ3 =>
        rw [e1] at e
        refine ⟨ad, _, ρ3, rfl, e1, ad, ρ3, rfl, ?_⟩
        dsimp only at e
        cases e2 : tt ρ3 with
        | no => rw [e2] at e; cases e
        | ex _ _ => rw [e2] at e; cases e
        | ok k ρ4 =>
          rw [e2] at e
          cases k with
          | false =>
            show ∃ _, _
            rw [nils_em]
            exact ⟨_, ys, ρf, rfl, e, q⟩
          | true =>
            dsimp only at e
            refine (show wpO cl te (em ad 0 ρ4) _ _ from ⟨ad, ρ4, rfl, ?_⟩)
            cases e3 : te ρ4 with
            | no => rw [e3] at e; cases e
            | ex _ _ => rw [e3] at e; cases e
            | ok rv ρ5 =>
              rw [e3] at e
              dsimp only at e ⊢
              cases e4 : frzZ rv ρ5 with
              | none => rw [e4] at e; cases e
              | some p =>
                obtain ⟨y, ρ6⟩ := p
                rw [e4] at e
                refine frz_em (Q := fun y ρ' => ∃ ρz ys ρf, nils ρ' vs = em ad 0 ρz ∧ lcF g tt te vs (List.drop (i + 1) items) ρz = Rs.ok ys ρf ∧ Q (VR.ow (Cn.l (acc ++ [y] ++ ys))) (em ad 0 ρf)) e4 ?_
                rw [nils_em]
                dsimp only at e
                cases e5 : lcF g tt te vs (items.drop (i + 1)) (nilsZ ρ6 vs) with
                | no => rw [e5] at e; cases e
                | ex _ _ => rw [e5] at e; cases e
                | ok zs ρ7 =>
                  rw [e5] at e
                  cases e
                  exact ⟨_, zs, _, rfl, e5, by rw [List.append_assoc]; exact q⟩
    · rintro acc ρ2 ⟨ρz, ys, ρf, rfl, e, q⟩
      rw [List.drop_length] at e
      cases e
      rw [List.append_nil] at q
      exact q
theorem pxts_nil : PTsD X W [] (wpO cl xYes) := ptsd_nil.mono (by rintro ρs Q E ⟨ad, ρ, rfl, h⟩; exact h)
theorem pxts_one {c : Expr} {t : XM Bool} (h : PXT X cl W c t) : PTsD X W [c] (wpO cl t) := ptsd_one h

/-! ### what is walked -/
abbrev xiSeq (x : XM VR) : XM (List D) := fun ρ => (x ρ).bind fun r ρ1 => match r with
  | .sc ns => if ns.length ≤ sizeLine then .ok (ns.map .int) ρ1 else .no
  | r => frzB r ρ1 fun d ρ2 => match d with
    | .list ds => .ok ds ρ2
    | .tuple ds => .ok ds ρ2
    | _ => .no
theorem pxi_seq {tg iter : Expr} {x : XM VR} (he : PX X cl W iter x) : PXI X cl W tg iter (xiSeq x) := (pid_seq he).mono (by
  rintro ρs Q E ⟨ad, ρ, rfl, h⟩
  refine wpI (wp_bind h _ fun r ρ1 h => ?_)
  have other : ∀ r, (frzB r ρ1 fun d ρ2 => match d with | .list ds => .ok ds ρ2 | .tuple ds => .ok ds ρ2 | _ => (.no : Rs (List D))).wp ad cl Q E → frz r (em ad 0 ρ1) fun d ρ2 => match d with | .list ds => Q ds ρ2 | .tuple ds => Q ds ρ2 | _ => False := fun r h =>
    frzB_wp h fun d ρ2 h => by
      cases d with
      | list ds => exact h
      | tuple ds => exact h
      | _ => exact h.elim
  cases r with
  | sc ns =>
    dsimp only at h
    split at h
    · rename_i hc; exact ⟨h, hc⟩
    · exact h.elim
  | fz d => exact other _ h
  | ow d => exact other _ h
  | bw d => exact other _ h)
abbrev rgZ : List SD → Option (List D)
  | [.d (.int j)] => if -(2305843009213693952 : Int) ≤ j ∧ j ≤ 16777216 then some (rgD 0 1 j.toNat) else none
  | [.d (.int i), .d (.int j)] => if -(2305843009213693952 : Int) ≤ i ∧ i ≤ 2305843009213693952 ∧ j - i ≤ 16777216 ∧ -(2305843009213693952 : Int) ≤ j ∧ j ≤ 2305843009213693952 then some (rgD i 1 (j - i).toNat) else none
  | [.d (.int i), .d (.int j), .d (.int c)] => if c = -1 ∧ (-(2305843009213693952 : Int) ≤ i ∧ i ≤ 2305843009213693952 ∧ i - j ≤ 16777216 ∧ -(2305843009213693952 : Int) ≤ j ∧ j ≤ 2305843009213693952) then some (rgD i (-1) (i - j).toNat) else none
  | _ => none
abbrev xiRg (xa : XM (List VR)) : XM (List D) := fun ρ => (xa ρ).bind fun rs ρ1 => match peeksZ rs ρ1 with
  | some as => opZ (rgZ as) ρ1
  | none => .no
theorem rgZ_ok {as : List SD} {ds : List D} (h : rgZ as = some ds) {R : List D → Prop} (q : R ds) : rgK as R := by
  unfold rgZ at h
  split at h
  · split at h
    · rename_i hc; cases h; exact ⟨hc, q⟩
    · cases h
  · split at h
    · rename_i hc; cases h; exact ⟨hc, q⟩
    · cases h
  · split at h
    · rename_i hc; cases h; exact ⟨hc.1, hc.2, q⟩
    · cases h
  · cases h
theorem w_rg {xa : XM (List VR)} : ∀ ρ Q E, wpO cl (xiRg xa) ρ Q E → iRg (wpO cl xa) ρ Q E := by
  rintro ρs Q E ⟨ad, ρ, rfl, h⟩
  refine wpI (wp_bind h _ fun rs ρ1 h => ?_)
  rw [peeks_em]
  cases h1 : peeksZ rs ρ1 with
  | none => rw [h1] at h; exact h.elim
  | some p =>
    rw [h1] at h
    obtain ⟨z, e, hq⟩ := opZ_wp h
    exact rgZ_ok (R := fun ds => Q ds (em ad 0 ρ1)) e hq
abbrev xiEnum (x : XM VR) : XM (List D) := fun ρ => (x ρ).bind fun r ρ1 => frzB r ρ1 fun d ρ2 => match d with
  | .list ds => .ok (enumD ds) ρ2
  | .tuple ds => .ok (enumD ds) ρ2
  | _ => .no
theorem w_enum {x : XM VR} : ∀ ρ Q E, wpO cl (xiEnum x) ρ Q E → iEnum (wpO cl x) ρ Q E := by
  rintro ρs Q E ⟨ad, ρ, rfl, h⟩
  refine wpI (wp_bind h _ fun r ρ1 h => ?_)
  refine frzB_wp h fun d ρ2 h => ?_
  cases d with
  | list ds => exact h
  | tuple ds => exact h
  | _ => exact h.elim
abbrev xiZip (xs : XM (List D)) : XM (List D) := fun ρ => (xs ρ).bind fun ds ρ1 => match ds with
  | [.list ds, .list es] => .ok (zipD ds es) ρ1
  | [.tuple ds, .tuple es] => .ok (zipD ds es) ρ1
  | _ => .no
theorem w_zip {xs : XM (List D)} : ∀ ρ Q E, wpO cl (xiZip xs) ρ Q E → iZip (wpO cl xs) ρ Q E := by
  rintro ρs Q E ⟨ad, ρ, rfl, h⟩
  refine wpI (wp_bind h _ fun ds ρ1 h => ?_)
  split at h
  · exact h
  · exact h
  · exact h.elim

/-! ### stores, methods -/
abbrev conZ : Zl → Option (List D)
  | .ow (.l ds) => some ds
  | .pw (.l ds) => some ds
  | _ => none
abbrev wrZ (s : Zl) (es : List D) : Zl := match s with
  | .pw _ => .pw (.l es)
  | _ => .ow (.l es)
theorem con_em {a : Addr} {z : Zl} : conL (emS a z) = conZ z := by cases z <;> rfl
theorem wr_em {a : Addr} {z : Zl} {es : List D} (h : (conZ z).isSome = true) : wrL (emS a z) es = emS a (wrZ z es) := by
  cases z with
  | ow c => rfl
  | pw c => rfl
  | _ => cases h
abbrev zSt (i : Nat) (x xi : XM VR) : XS := fun ρ => (x ρ).bind fun r ρ1 => frzB r ρ1 fun d ρ2 => if (conZ (getZ ρ2 i)).isSome = true then (xi ρ2).bind fun r2 ρ3 => match peekZ (stl r2) ρ3, conZ (getZ ρ3 i) with
  | some (.d (.int k)), some ds => match ixN ds.length k with
    | some j => .ok .nx (setZ ρ3 i (wrZ (getZ ρ3 i) (ds.set j d)))
    | none => .no
  | _, _ => .no
  else .no
theorem w_st {i : Nat} {x xi : XM VR} : ∀ ρ D, wpS cl (zSt i x xi) D ρ → sSt i (wpO cl x) (wpO cl xi) D ρ := by
  rintro ρs D ⟨ad, ρ, rfl, h⟩
  refine wpI (wp_bind h _ fun r ρ1 h => ?_)
  refine frzB_wp h fun d ρ2 h => ?_
  rw [getS_em0, con_em]
  split at h
  · rename_i hc
    refine ⟨hc, wpI (wp_bind h _ fun r2 ρ3 h => ?_)⟩
    rw [peek_em, getS_em0, con_em]
    split at h
    · rename_i k ds h1 h2
      (try rw [h1, h2])
      (try dsimp only)
      split at h
      · rename_i j hj
        refine ⟨j, hj, ?_⟩
        rw [wr_em (by rw [h2]; rfl), setS_em0]
        exact h
      · exact h.elim
    · exact h.elim
  · exact h.elim
abbrev FM := List D → List D → Option (D × List D)
def OkM (f : FM) (op : OpM) : Prop := ∀ ds args res es, f ds args = some (res, es) → ∀ P : D → List D → Prop, P res es → op ds args P
abbrev xMt (i : Nat) (f : FM) (xa : XM (List D)) : XM VR := fun ρ => if (conZ (getZ ρ i)).isSome = true then (xa ρ).bind fun args ρ1 => match conZ (getZ ρ1 i) with
  | some ds => match f ds args with
    | some (res, es) => .ok (.fz res) (setZ ρ1 i (wrZ (getZ ρ1 i) es))
    | none => .no
  | none => .no
  else .no
theorem w_mt {i : Nat} {f : FM} {op : OpM} (hf : OkM f op) {xa : XM (List D)} : ∀ ρ Q E, wpO cl (xMt i f xa) ρ Q E → eMt i op (wpO cl xa) ρ Q E := by
  rintro ρs Q E ⟨ad, ρ, rfl, h⟩
  show (conL (getS (em ad 0 ρ) i)).isSome = true ∧ _
  rw [getS_em0, con_em]
  unfold xMt at h
  split at h
  · rename_i hc
    refine ⟨hc, wpI (wp_bind h _ fun args ρ1 h => ?_)⟩
    rw [getS_em0, con_em]
    split at h
    · rename_i ds h2
      (try rw [h2])
      (try dsimp only)
      split at h
      · rename_i res es hj
        refine hf _ _ _ _ hj _ ?_
        rw [wr_em (by rw [h2]; rfl), setS_em0]
        exact h
      · exact h.elim
    · exact h.elim
  · exact h.elim

/-! ### try without a name -/
abbrev zTry (m : String → Option Bool) (body : XS) (su : String → XS) : XS := fun ρ => match body ρ with
  | .ex n ρ1 => match m n with
    | some true => match su n ρ1 with
      | .ex _ _ => .no
      | r => r
    | some false => .ex n ρ1
    | none => .no
  | r => r
theorem w_try {m : String → Option Bool} {m' : Addr → Option Bool} (hm : ∀ n b, m n = some b → m' (cl n) = some b) {body : XS} {su : String → XS} {su' : Addr → Addr → DS} (hsu : ∀ n a ρ D, m n = some true → wpS cl (su n) D ρ → su' a (cl n) D ρ) : ∀ ρ D, wpS cl (zTry m body su) D ρ → sTry none m' (wpS cl body) su' D ρ := by
  rintro ρs D ⟨ad, ρ, rfl, h⟩
  refine ⟨ad, ρ, rfl, ?_⟩
  unfold zTry at h
  cases e : body ρ with
  | no => rw [e] at h; exact h
  | ok o ρ1 =>
    rw [e] at h
    cases o <;> exact h
  | ex n ρ1 =>
    rw [e] at h
    show tryX none m' su' D (cl n) (em ad 0 ρ1)
    unfold tryX
    dsimp only at h
    cases e2 : m n with
    | none => rw [e2] at h; exact h.elim
    | some b =>
      rw [e2] at h
      rw [hm _ _ e2]
      cases b with
      | false => exact h
      | true =>
        intro a
        dsimp only at h ⊢
        refine hsu n a _ _ e2 ⟨ad, ρ1, rfl, ?_⟩
        cases e3 : su n ρ1 with
        | no => rw [e3] at h; exact h
        | ex _ _ => rw [e3] at h; exact h.elim
        | ok o ρ2 =>
          rw [e3] at h
          cases o <;> exact h
end
end FL
set_option Elab.async false
set_option linter.all false
set_option maxRecDepth 100000
set_option maxHeartbeats 1000000
/-! FLc: calls and defs as functions; the operators. -/
namespace FL
open PySem PySem.Spec PyProof.Rows L2 DL
section
variable {X : Cx} {W : WX} {pos : Pos} {cl : String → Addr}
/-- a def's function: the arguments in, the result and the arguments behind it out -/
abbrev XF := List Zl → Rs RR
inductive BkZ where
  | no | ow (i : Nat) | pw (i : Nat)
abbrev resZ : List Ag → List Zl → Option (List Zl × List Zl × List BkZ)
  | [], ρ => some ([], ρ, [])
  | .fz d :: r, ρ => match resZ r ρ with | some (as, ρ', bs) => some (.fz d :: as, ρ', .no :: bs) | none => none
  | .sc ns :: r, ρ => match resZ r ρ with | some (as, ρ', bs) => some (.sc ns :: as, ρ', .no :: bs) | none => none
  | .ow c :: r, ρ => match resZ r ρ with | some (as, ρ', bs) => some (.ow c :: as, ρ', .no :: bs) | none => none
  | .bw i :: r, ρ => match getZ ρ i with
    | .ow c => match resZ r (setZ ρ i .nil) with | some (as, ρ', bs) => some (.ow c :: as, ρ', .ow i :: bs) | none => none
    | .pw c => match resZ r (setZ ρ i .nil) with | some (as, ρ', bs) => some (.ow c :: as, ρ', .pw i :: bs) | none => none
    | _ => none
abbrev toPwZ : Zl → Zl
  | .ow c => .pw c
  | s => s
abbrev backZ : List BkZ → List Zl → List Zl → List Zl
  | .ow i :: r, s :: ss, ρ => backZ r ss (setZ ρ i s)
  | .pw i :: r, s :: ss, ρ => backZ r ss (setZ ρ i (toPwZ s))
  | .no :: r, _ :: ss, ρ => backZ r ss ρ
  | _, _, ρ => ρ
def plainZ : Zl → Bool
  | .nil => true
  | .pw _ => false
  | .xa => false
  | _ => true
def plainA : List Zl → Bool
  | [] => true
  | z :: r => plainZ z && plainA r
abbrev sl0 : Zl → Sl := emS 0
abbrev bkE (ad : Nat → Addr) : BkZ → Bk
  | .no => .no
  | .ow i => .ow i
  | .pw i => .pw i (ad i)
theorem sl0_inj {a b : Zl} (h : sl0 a = sl0 b) : a = b := by
  cases a <;> cases b <;> first | rfl | (injection h; subst_vars; rfl) | cases h
theorem sl0s_inj : ∀ {a b : List Zl}, a.map sl0 = b.map sl0 → a = b
  | [], [], _ => rfl
  | [], _ :: _, h => by simp at h
  | _ :: _, [], h => by simp at h
  | a :: l, b :: m, h => by
    rw [List.map_cons, List.map_cons, List.cons.injEq] at h
    rw [sl0_inj h.1, sl0s_inj h.2]
theorem plain_emS {a : Addr} {z : Zl} (h : plainZ z = true) : emS a z = sl0 z := by
  cases z <;> first | rfl | cases h
theorem res_em {ad : Nat → Addr} : ∀ {ags : List Ag} {ρ : List Zl} {az ρ2 : List Zl} {bz : List BkZ} {k : List Sl → List Sl → List Bk → Prop}, resZ ags ρ = some (az, ρ2, bz) → k (az.map sl0) (em ad 0 ρ2) (bz.map (bkE ad)) → resA ags (em ad 0 ρ) k
  | [], ρ, az, ρ2, bz, k, h, q => by cases h; exact q
  | .fz d :: r, ρ, az, ρ2, bz, k, h, q => by
    change (match resZ r ρ with | some (as, ρ', bs) => some (Zl.fz d :: as, ρ', BkZ.no :: bs) | none => none) = _ at h
    cases e : resZ r ρ with
    | none => rw [e] at h; cases h
    | some p => obtain ⟨as, ρ', bs⟩ := p; rw [e] at h; cases h; exact res_em (k := fun as ρ' bs => k (.fz d :: as) ρ' (.no :: bs)) e q
  | .sc d :: r, ρ, az, ρ2, bz, k, h, q => by
    change (match resZ r ρ with | some (as, ρ', bs) => some (Zl.sc d :: as, ρ', BkZ.no :: bs) | none => none) = _ at h
    cases e : resZ r ρ with
    | none => rw [e] at h; cases h
    | some p => obtain ⟨as, ρ', bs⟩ := p; rw [e] at h; cases h; exact res_em (k := fun as ρ' bs => k (.sc d :: as) ρ' (.no :: bs)) e q
  | .ow d :: r, ρ, az, ρ2, bz, k, h, q => by
    change (match resZ r ρ with | some (as, ρ', bs) => some (Zl.ow d :: as, ρ', BkZ.no :: bs) | none => none) = _ at h
    cases e : resZ r ρ with
    | none => rw [e] at h; cases h
    | some p => obtain ⟨as, ρ', bs⟩ := p; rw [e] at h; cases h; exact res_em (k := fun as ρ' bs => k (.ow d :: as) ρ' (.no :: bs)) e q
  | .bw i :: r, ρ, az, ρ2, bz, k, h, q => by
    unfold resA
    rw [getS_em0]
    unfold resZ at h
    cases hz : getZ ρ i with
    | ow c =>
      rw [hz] at h
      dsimp only at h ⊢
      rw [setS_nil]
      cases e : resZ r (setZ ρ i .nil) with
      | none => rw [e] at h; cases h
      | some p => obtain ⟨as, ρ', bs⟩ := p; rw [e] at h; cases h; exact res_em (k := fun as ρ' bs => k (.ow c :: as) ρ' (.ow i :: bs)) e q
    | pw c =>
      rw [hz] at h
      dsimp only at h ⊢
      rw [setS_nil]
      cases e : resZ r (setZ ρ i .nil) with
      | none => rw [e] at h; cases h
      | some p => obtain ⟨as, ρ', bs⟩ := p; rw [e] at h; cases h; exact res_em (k := fun as ρ' bs => k (.ow c :: as) ρ' (.pw i (ad i) :: bs)) e q
    | _ => rw [hz] at h; cases h
theorem toPw_em {a : Addr} {z : Zl} (h : plainZ z = true) : toPw a (sl0 z) = emS a (toPwZ z) := by cases z <;> first | rfl | cases h
theorem back_em {ad : Nat → Addr} : ∀ {bz : List BkZ} {az ρ : List Zl}, plainA az = true → backA (bz.map (bkE ad)) (az.map sl0) (em ad 0 ρ) = em ad 0 (backZ bz az ρ)
  | [], az, ρ, _ => by cases az <;> rfl
  | .no :: bz, [], ρ, _ => rfl
  | .ow i :: bz, [], ρ, _ => rfl
  | .pw i :: bz, [], ρ, _ => rfl
  | .no :: bz, z :: az, ρ, h => by
    unfold plainA at h
    rw [Bool.and_eq_true] at h
    exact back_em (bz := bz) h.2
  | .ow i :: bz, z :: az, ρ, h => by
    unfold plainA at h
    rw [Bool.and_eq_true] at h
    show backA (bz.map (bkE ad)) (az.map sl0) (setS (em ad 0 ρ) i (sl0 z)) = _
    rw [← plain_emS (a := ad i) h.1, setS_em0]
    exact back_em (bz := bz) h.2
  | .pw i :: bz, z :: az, ρ, h => by
    unfold plainA at h
    rw [Bool.and_eq_true] at h
    show backA (bz.map (bkE ad)) (az.map sl0) (setS (em ad 0 ρ) i (toPw (ad i) (sl0 z))) = _
    rw [toPw_em h.1, setS_em0]
    exact back_em (bz := bz) h.2
/-- a def's promise by its function -/
def spF (cl : String → Addr) (F : XF) : Spc :=
  ⟨fun as => ∃ az, as = az.map sl0 ∧ F az ≠ .no, fun as r as' => ∃ az az', as = az.map sl0 ∧ as' = az'.map sl0 ∧ plainA az' = true ∧ F az = .ok r az',
   fun as C as' => ∃ az n az', as = az.map sl0 ∧ as' = az'.map sl0 ∧ plainA az' = true ∧ F az = .ex n az' ∧ C = cl n⟩
abbrev xCall (F : XF) (xc : XM (List Ag)) : XM VR := fun ρ => (xc ρ).bind fun ags ρ1 => match resZ ags ρ1 with
  | some (az, ρ2, bz) => match F az with
    | .ok r az' => .ok r.vr (backZ bz az' ρ2)
    | .ex n az' => .ex n (backZ bz az' ρ2)
    | .no => .no
  | none => .no
theorem w_call {F : XF} {xc : XM (List Ag)} : ∀ ρ Q E, wpO cl (xCall F xc) ρ Q E → eCall (spF cl F).fs (wpO cl xc) ρ Q E := by
  rintro ρs Q E ⟨ad, ρ, rfl, h⟩
  refine wpI (wp_bind h _ fun ags ρ1 h => ?_)
  cases e : resZ ags ρ1 with
  | none => rw [e] at h; exact h.elim
  | some p =>
    obtain ⟨az, ρ2, bz⟩ := p
    rw [e] at h
    dsimp only at h
    refine res_em e ⟨⟨az, rfl, fun e2 => by rw [e2] at h; exact h⟩, ?_, ?_⟩
    · rintro r as' ⟨az1, az', e1, rfl, pl, e2⟩
      obtain rfl := sl0s_inj e1
      rw [e2] at h
      rw [back_em pl]
      exact h
    · rintro C as' ⟨az1, n, az', e1, rfl, pl, e2, rfl⟩
      obtain rfl := sl0s_inj e1
      rw [e2] at h
      rw [back_em pl]
      exact h
abbrev xcNil : XM (List Ag) := fun ρ => .ok [] ρ
abbrev xcFz (x : XM VR) (xs : XM (List Ag)) : XM (List Ag) := fun ρ => (x ρ).bind fun r ρ1 => match r with
  | .sc ns => (xs ρ1).bind fun ags ρ2 => .ok (.sc ns :: ags) ρ2
  | r => frzB r ρ1 fun d ρ2 => (xs ρ2).bind fun ags ρ3 => .ok (.fz d :: ags) ρ3
abbrev xcBw (x : XM VR) (xs : XM (List Ag)) : XM (List Ag) := fun ρ => (x ρ).bind fun r ρ1 => match r with
  | .bw i => (xs ρ1).bind fun ags ρ2 => .ok (.bw i :: ags) ρ2
  | _ => .no
abbrev xcOw (x : XM VR) : XM (List Ag) := fun ρ => (x ρ).bind fun r ρ1 => match r with
  | .ow c => .ok [.ow c] ρ1
  | _ => .no
theorem pxc_nil : PXC X cl W [] xcNil := pcd_nil.mono (by rintro ρs Q E ⟨ad, ρ, rfl, h⟩; exact h)
theorem w_cfz {x : XM VR} {xs : XM (List Ag)} : ∀ ρ Q E, wpO cl (xcFz x xs) ρ Q E → cFz (wpO cl x) (wpO cl xs) ρ Q E := by
  rintro ρs Q E ⟨ad, ρ, rfl, h⟩
  refine wpI (wp_bind h _ fun r ρ1 h => ?_)
  have other : ∀ r, (frzB r ρ1 fun d ρ2 => (xs ρ2).bind fun ags ρ3 => .ok (Ag.fz d :: ags) ρ3).wp ad cl Q E → frz r (em ad 0 ρ1) fun d ρ2 => wpO cl xs ρ2 (fun ags ρ3 => Q (.fz d :: ags) ρ3) E := fun r h =>
    frzB_wp h fun d ρ2 h => wpI (wp_bind h _ fun ags ρ3 h => h)
  cases r with
  | sc ns => exact wpI (wp_bind h _ fun ags ρ3 h => h)
  | fz d => exact other _ h
  | ow d => exact other _ h
  | bw d => exact other _ h
theorem pxc_fz {e : Expr} {es : List Expr} {x : XM VR} {xs : XM (List Ag)} (he : PX X cl W e x) (ha : PXC X cl W es xs) (hs : starEach (e :: es) X.env = (false, eval e X.env) :: starEach es X.env := by rfl) : PXC X cl W (e :: es) (xcFz x xs) := (pcd_fz he ha hs).mono w_cfz
theorem pxc_bw {e : Expr} {es : List Expr} {x : XM VR} {xs : XM (List Ag)} (he : PX X cl W e x) (ha : PXC X cl W es xs) (hs : starEach (e :: es) X.env = (false, eval e X.env) :: starEach es X.env := by rfl) : PXC X cl W (e :: es) (xcBw x xs) := (pcd_bw he ha hs).mono (by
  rintro ρs Q E ⟨ad, ρ, rfl, h⟩
  refine wpI (wp_bind h _ fun r ρ1 h => ?_)
  cases r with
  | bw i => exact wpI (wp_bind h _ fun ags ρ3 h => h)
  | _ => exact h.elim)
theorem pxc_ow {e : Expr} {x : XM VR} (he : PX X cl W e x) (hs : starEach [e] X.env = (false, eval e X.env) :: starEach [] X.env := by rfl) : PXC X cl W [e] (xcOw x) := (pcd_ow he hs).mono (by
  rintro ρs Q E ⟨ad, ρ, rfl, h⟩
  refine wpI (wp_bind h _ fun r ρ1 h => ?_)
  cases r with
  | ow i => exact h
  | _ => exact h.elim)
theorem pxk_nil : PXK X cl W [] xcNil := pkd_nil.mono (by rintro ρs Q E ⟨ad, ρ, rfl, h⟩; exact h)
theorem pxk_cons {nm : Option Str} {kpos : Pos} {e : Expr} {kws : List Keyword} {x : XM VR} {xs : XM (List Ag)} (he : PX X cl W e x) (ha : PXK X cl W kws xs) : PXK X cl W (⟨nm, e, kpos⟩ :: kws) (xcFz x xs) := (pkd_cons he ha).mono w_cfz
abbrev xcPerm (pm : List Nat) (xc : XM (List Ag)) : XM (List Ag) := fun ρ => (xc ρ).bind fun ags ρ1 => if noOw ags = true then .ok (permR pm ags) ρ1 else .no
theorem w_perm {pm : List Nat} {xc : XM (List Ag)} : ∀ ρ Q E, wpO cl (xcPerm pm xc) ρ Q E → cPerm pm (wpO cl xc) ρ Q E := by
  rintro ρs Q E ⟨ad, ρ, rfl, h⟩
  refine wpI (wp_bind h _ fun ags ρ1 h => ?_)
  split at h
  · rename_i hc; exact ⟨hc, h⟩
  · exact h.elim
theorem px_callC {x : Str} {p : Pos} {e : Expr} {es : List Expr} {k j : Nat} {ps : List Str} {st : Stmt} {F : XF} {tc : XM (List Ag)} (tk : Takes X W) (Fc : FnC X.prog X.w X.K X.mg X.base k x ps st (spF cl F)) (hr : Room j X.A) (hj : k ≤ j) (bp : BindP st x ps) (hg : Gl X x)
    (ha : PXC X cl W (e :: es) tc) (hl : (e :: es).length = ps.length := by rfl) (hdb : (x == ("__debug__" : Str)) = false := by decide) (he : starEach (e :: es) X.env = (false, eval e X.env) :: starEach es X.env := by rfl) (hpl : (backTo pos (starEach es X.env)).any (·.1) = false := by rfl) :
    PX X cl W (.Call (.Name x p) (e :: es) [] pos) (xCall F tc) := (pd_callC tk Fc hr hj bp hg ha hl hdb he hpl).mono w_call
theorem px_callKw {x : Str} {p : Pos} {kws : List Keyword} {k j : Nat} {ps ks : List Str} {st : Stmt} {F : XF} {tc : XM (List Ag)} (pm : List Nat) (tk : Takes X W) (Fc : FnC X.prog X.w X.K X.mg X.base k x ps st (spF cl F)) (hr : Room j X.A) (hj : k ≤ j) (bp : BindK st x ps ks pm) (hg : Gl X x)
    (ha : PXK X cl W kws tc) (hn : ∀ (l : List V), l.length = ks.length → (permL pm l).length = ps.length) (hkl : kws.length = ks.length := by rfl) (hdb : (x == ("__debug__" : Str)) = false := by decide) (hall : (backToKw pos (keywordEach kws X.env)).all (·.1.isSome) = true := by rfl) (hks : (backToKw pos (keywordEach kws X.env)).filterMap (·.1) = ks := by rfl)
    (hpl : ((backTo pos (starEach [] X.env)).any (·.1) || (backToKw pos (keywordEach kws X.env)).any (·.1.isNone)) = false := by rfl) :
    PX X cl W (.Call (.Name x p) [] kws pos) (xCall F (xcPerm pm tc)) := (pd_callKw pm tk Fc hr hj bp hg ha hn hkl hdb hall hks hpl).mono (by
  intro ρ Q E h
  obtain ⟨ad, ρz, rfl, h⟩ := h
  have h := w_call _ _ _ (wpI h)
  obtain ⟨ad2, ρz2, e, h⟩ := h
  rw [e]
  exact w_perm _ _ _ (wpI h))

/-! ### a def by its body -/
abbrev startZ : List Zl → List Zl
  | [] => []
  | .ow c :: as => .pw c :: startZ as
  | s :: as => s :: startZ as
abbrev outsZ : List Zl → List Zl → Option (List Zl)
  | [], _ => some []
  | .ow _ :: as, .pw c :: ρ => match outsZ as ρ with | some l => some (.ow c :: l) | none => none
  | .fz d :: as, _ :: ρ => match outsZ as ρ with | some l => some (.fz d :: l) | none => none
  | .sc ns :: as, _ :: ρ => match outsZ as ρ with | some l => some (.sc ns :: l) | none => none
  | _, _ => none
abbrev finZ (as : List Zl) (r : RR) (ρ : List Zl) : Rs RR := match outsZ as ρ with
  | some l => .ok r l
  | none => .no
abbrev endZ (as : List Zl) (r : VR) (ρ : List Zl) : Rs RR := match r with
  | .fz d => finZ as (.fz d) ρ
  | .ow c => finZ as (.ow c) ρ
  | .sc _ => .no
  | .bw i => match getZ ρ i with
    | .ow c => finZ as (.ow c) (setZ ρ i .nil)
    | .fz d => finZ as (.fz d) ρ
    | _ => .no
abbrev runD (x : XS) (m : Nat) : XF := fun as => match x (startZ as ++ List.replicate m .nil) with
  | .ok .nx ρ => finZ as (.fz .none) ρ
  | .ok (.rt r) ρ => endZ as r ρ
  | .ok _ _ => .no
  | .ex n ρ => match outsZ as ρ with | some l => .ex n l | none => .no
  | .no => .no
theorem em_append {ad : Nat → Addr} : ∀ (k : Nat) (a b : List Zl), em ad k (a ++ b) = em ad k a ++ em ad (k + a.length) b
  | _, [], b => by simp [em]
  | k, z :: a, b => by
    show _ :: em ad (k + 1) (a ++ b) = _
    rw [em_append (k + 1) a b, List.length_cons, show k + 1 + a.length = k + (a.length + 1) from by omega]; rfl
theorem em_nils {ad : Nat → Addr} : ∀ (k m : Nat), em ad k (List.replicate m .nil) = List.replicate m .nil
  | _, 0 => rfl
  | k, m + 1 => by
    rw [List.replicate_succ, List.replicate_succ]
    show _ :: em ad (k + 1) _ = _
    rw [em_nils (k + 1) m]
theorem start_em {ad : Nat → Addr} : ∀ (i : Nat) (az : List Zl), plainA az = true → startS (az.map sl0) ad i = em ad i (startZ az)
  | _, [], _ => rfl
  | i, z :: az, h => by
    unfold plainA at h
    rw [Bool.and_eq_true] at h
    have ih := start_em (ad := ad) (i + 1) az h.2
    cases z with
    | ow c => show _ :: startS (az.map sl0) ad (i + 1) = _; rw [ih]; rfl
    | pw c => cases h.1
    | xa => cases h.1
    | nil => show _ :: startS (az.map sl0) ad (i + 1) = _; rw [ih]; rfl
    | fz d => show _ :: startS (az.map sl0) ad (i + 1) = _; rw [ih]; rfl
    | sc d => show _ :: startS (az.map sl0) ad (i + 1) = _; rw [ih]; rfl
theorem outs_em {ad : Nat → Addr} : ∀ {i : Nat} {az ρ l : List Zl} {k : List Sl → Prop}, outsZ az ρ = some l → (plainA l = true → k (l.map sl0)) → outs (az.map sl0) ad i (em ad i ρ) k
  | _, [], _, _, _, h, q => by cases h; exact q rfl
  | i, .ow c0 :: as, .pw c :: ρ, l, k, h, q => by
    change (match outsZ as ρ with | some l => some (Zl.ow c :: l) | none => none) = _ at h
    cases e : outsZ as ρ with
    | none => rw [e] at h; cases h
    | some l' => rw [e] at h; cases h; exact ⟨rfl, outs_em (k := fun l => k (.ow c :: l)) e fun pl => q pl⟩
  | i, .fz d :: as, z :: ρ, l, k, h, q => by
    change (match outsZ as ρ with | some l => some (Zl.fz d :: l) | none => none) = _ at h
    cases e : outsZ as ρ with
    | none => rw [e] at h; cases h
    | some l' =>
      rw [e] at h; cases h
      have := outs_em (ad := ad) (i := i + 1) (k := fun l => k (.fz d :: l)) e fun pl => q pl
      cases z <;> exact this
  | i, .sc d :: as, z :: ρ, l, k, h, q => by
    change (match outsZ as ρ with | some l => some (Zl.sc d :: l) | none => none) = _ at h
    cases e : outsZ as ρ with
    | none => rw [e] at h; cases h
    | some l' =>
      rw [e] at h; cases h
      have := outs_em (ad := ad) (i := i + 1) (k := fun l => k (.sc d :: l)) e fun pl => q pl
      cases z <;> exact this
  | _, .ow _ :: _, [], _, _, h, _ => by cases h
  | _, .fz _ :: _, [], _, _, h, _ => by cases h
  | _, .sc _ :: _, [], _, _, h, _ => by cases h
  | _, .nil :: _, [], _, _, h, _ => by cases h
  | _, .pw _ :: _, [], _, _, h, _ => by cases h
  | _, .xa :: _, [], _, _, h, _ => by cases h
  | _, .xa :: _, _ :: _, _, _, h, _ => by cases h
  | _, .ow _ :: _, .xa :: _, _, _, h, _ => by cases h
  | _, .nil :: _, _ :: _, _, _, h, _ => by cases h
  | _, .pw _ :: _, _ :: _, _, _, h, _ => by cases h
  | _, .ow _ :: _, .nil :: _, _, _, h, _ => by cases h
  | _, .ow _ :: _, .fz _ :: _, _, _, h, _ => by cases h
  | _, .ow _ :: _, .ow _ :: _, _, _, h, _ => by cases h
  | _, .ow _ :: _, .sc _ :: _, _, _, h, _ => by cases h
theorem fin_em {as : List Zl} {r : RR} {ρ : List Zl} (h : finZ as r ρ ≠ .no) : ∃ l, outsZ as ρ = some l ∧ finZ as r ρ = .ok r l := by
  unfold finZ at h ⊢
  cases e : outsZ as ρ with
  | none => rw [e] at h; exact absurd rfl h
  | some l => exact ⟨l, rfl, rfl⟩
theorem plain_of_outs : ∀ {az ρ l : List Zl}, outsZ az ρ = some l → plainA az = true
  | [], _, _, _ => rfl
  | .ow c :: as, .pw c' :: ρ, l, h => by
    change (match outsZ as ρ with | some l => some (Zl.ow c' :: l) | none => none) = _ at h
    cases e : outsZ as ρ with
    | none => rw [e] at h; cases h
    | some l' => exact (show (true && plainA as) = true by rw [plain_of_outs e]; rfl)
  | .fz c :: as, z :: ρ, l, h => by
    change (match outsZ as ρ with | some l => some (Zl.fz c :: l) | none => none) = _ at h
    cases e : outsZ as ρ with
    | none => rw [e] at h; cases h
    | some l' => exact (show (true && plainA as) = true by rw [plain_of_outs e]; rfl)
  | .sc c :: as, z :: ρ, l, h => by
    change (match outsZ as ρ with | some l => some (Zl.sc c :: l) | none => none) = _ at h
    cases e : outsZ as ρ with
    | none => rw [e] at h; cases h
    | some l' => exact (show (true && plainA as) = true by rw [plain_of_outs e]; rfl)
  | .ow _ :: _, [], _, h => by cases h
  | .fz _ :: _, [], _, h => by cases h
  | .sc _ :: _, [], _, h => by cases h
  | .nil :: _, [], _, h => by cases h
  | .pw _ :: _, [], _, h => by cases h
  | .xa :: _, [], _, h => by cases h
  | .xa :: _, _ :: _, _, h => by cases h
  | .ow _ :: _, .xa :: _, _, h => by cases h
  | .nil :: _, _ :: _, _, h => by cases h
  | .pw _ :: _, _ :: _, _, h => by cases h
  | .ow _ :: _, .nil :: _, _, h => by cases h
  | .ow _ :: _, .fz _ :: _, _, h => by cases h
  | .ow _ :: _, .ow _ :: _, _, h => by cases h
  | .ow _ :: _, .sc _ :: _, _, h => by cases h
/-- THE RULE: a def's body keeps the promise of its function -/
theorem okD {x : XS} {m : Nat} {F : XF} (hF : F = runD x m) (as : List Sl) (ad : Nat → Addr) (hp : (spF cl F).pre as) : wpS cl x (endsOf (spF cl F) as ad) (startS as ad 0 ++ List.replicate m .nil) := by
  obtain ⟨az, rfl, hn⟩ := hp
  have hr : ∀ (r : RR) (ρ : List Zl) (l : List Zl), F az = .ok r l → outsZ az ρ = some l → endR (az.map sl0) ad ((spF cl F).post (az.map sl0)) r.vr (em ad 0 ρ) := by
    intro r ρ l e1 e2
    cases r with
    | fz d => exact outs_em (k := fun l => (spF cl F).post (az.map sl0) (.fz d) l) e2 fun pl => ⟨az, l, rfl, rfl, pl, e1⟩
    | ow d => exact outs_em (k := fun l => (spF cl F).post (az.map sl0) (.ow d) l) e2 fun pl => ⟨az, l, rfl, rfl, pl, e1⟩
  have e0 : F az = runD x m az := by rw [hF]
  have pl : plainA az = true := by
    rw [e0] at hn
    unfold runD at hn
    cases e : x (startZ az ++ List.replicate m .nil) with
    | no => rw [e] at hn; exact absurd rfl hn
    | ex n ρ =>
      rw [e] at hn
      dsimp only at hn
      cases e2 : outsZ az ρ with
      | none => rw [e2] at hn; exact absurd rfl hn
      | some l => exact plain_of_outs e2
    | ok o ρ =>
      rw [e] at hn
      cases o with
      | nx => obtain ⟨l, h, _⟩ := fin_em hn; exact plain_of_outs h
      | bk => exact absurd rfl hn
      | ct => exact absurd rfl hn
      | rt r =>
        cases r with
        | fz d => obtain ⟨l, h, _⟩ := fin_em hn; exact plain_of_outs h
        | ow d => obtain ⟨l, h, _⟩ := fin_em hn; exact plain_of_outs h
        | sc _ => exact absurd rfl hn
        | bw i =>
          change (match getZ ρ i with | .ow c => finZ az (.ow c) (setZ ρ i .nil) | .fz d => finZ az (.fz d) ρ | _ => .no) ≠ _ at hn
          cases hz : getZ ρ i with
          | ow c => rw [hz] at hn; obtain ⟨l, h, _⟩ := fin_em hn; exact plain_of_outs h
          | fz c => rw [hz] at hn; obtain ⟨l, h, _⟩ := fin_em hn; exact plain_of_outs h
          | _ => rw [hz] at hn; exact absurd rfl hn
  have es : startS (az.map sl0) ad 0 ++ List.replicate m Sl.nil = em ad 0 (startZ az ++ List.replicate m .nil) := by
    rw [em_append, em_nils, start_em 0 az pl]
  rw [es]
  refine ⟨ad, _, rfl, ?_⟩
  unfold runD at e0
  rw [e0] at hn
  cases e : x (startZ az ++ List.replicate m .nil) with
  | no => rw [e] at hn; exact absurd rfl hn
  | ex n ρ =>
    rw [e] at hn e0
    dsimp only at hn e0
    cases e2 : outsZ az ρ with
    | none => rw [e2] at hn; exact absurd rfl hn
    | some l =>
      rw [e2] at e0
      exact outs_em (k := fun l => (spF cl F).exc (az.map sl0) (cl n) l) e2 fun pl => ⟨az, n, l, rfl, rfl, pl, e0, rfl⟩
  | ok o ρ =>
    rw [e] at hn e0
    cases o with
    | nx =>
      obtain ⟨l, h, h2⟩ := fin_em hn
      dsimp only at e0
      rw [h2] at e0
      exact hr _ _ _ e0 h
    | bk => exact absurd rfl hn
    | ct => exact absurd rfl hn
    | rt r =>
      cases r with
      | fz d =>
        obtain ⟨l, h, h2⟩ := fin_em hn
        change F az = finZ az (.fz d) ρ at e0
        rw [h2] at e0
        exact hr _ _ _ e0 h
      | ow d =>
        obtain ⟨l, h, h2⟩ := fin_em hn
        change F az = finZ az (.ow d) ρ at e0
        rw [h2] at e0
        exact hr _ _ _ e0 h
      | sc _ => exact absurd rfl hn
      | bw i =>
        change (match getZ ρ i with | .ow c => finZ az (.ow c) (setZ ρ i .nil) | .fz d => finZ az (.fz d) ρ | _ => .no) ≠ _ at hn
        change F az = (match getZ ρ i with | .ow c => finZ az (.ow c) (setZ ρ i .nil) | .fz d => finZ az (.fz d) ρ | _ => .no) at e0
        show endR (az.map sl0) ad ((spF cl F).post (az.map sl0)) (.bw i) (em ad 0 ρ)
        unfold endR
        dsimp only
        rw [getS_em0]
        cases hz : getZ ρ i with
        | ow c =>
          rw [hz] at hn e0
          obtain ⟨l, h, h2⟩ := fin_em hn
          dsimp only at e0 ⊢
          rw [h2] at e0
          rw [setS_nil]
          exact hr (.ow c) _ _ e0 h
        | fz c =>
          rw [hz] at hn e0
          obtain ⟨l, h, h2⟩ := fin_em hn
          dsimp only at e0 ⊢
          rw [h2] at e0
          exact hr (.fz c) _ _ e0 h
        | _ => rw [hz] at hn; exact absurd rfl hn
end
end FL
set_option Elab.async false
set_option linter.all false
set_option maxRecDepth 100000
set_option maxHeartbeats 1000000
/-! FLd: the operators as functions. -/
namespace FL
open PySem PySem.Spec PyProof.Rows L2 DL
/-- below what nothing is too great -/
def wide (i : Int) : Prop := -(10 ^ 250) < i ∧ i < 10 ^ 250
instance (i : Int) : Decidable (wide i) := inferInstanceAs (Decidable (-(10 ^ 250) < i ∧ i < 10 ^ 250))
theorem wide_abs {i : Int} (h : wide i) : i.natAbs < 2 ^ 1000 := by
  have h1 := h.1
  have h2 := h.2
  have e : (10 : Int) ^ 300 ≤ ((2 ^ 1000 : Nat) : Int) := by decide
  omega
abbrev yI (g : Int → Int → D) : F2
  | .d (.int i), .d (.int j) => some (.fz (g i j))
  | _, _ => none
theorem y_I {g : Int → Int → D} : Ok2 (yI g) (dI0 g) := by
  intro a b z h Q q
  unfold yI at h
  split at h
  · cases h; exact q
  · cases h
abbrev yIc (C : Int → Int → Prop) [∀ i j, Decidable (C i j)] (g : Int → Int → D) : F2
  | .d (.int i), .d (.int j) => if C i j then some (.fz (g i j)) else none
  | _, _ => none
theorem y_Ic {C C' : Int → Int → Prop} [∀ i j, Decidable (C i j)] {g : Int → Int → D} (hc : ∀ i j, C i j → C' i j) : Ok2 (yIc C g) (dI C' g) := by
  intro a b z h Q q
  unfold yIc at h
  split at h
  · split at h
    · rename_i c; cases h; exact ⟨hc _ _ c, q⟩
    · cases h
  · cases h
abbrev ySub : F2 := yI fun i j => .int (i - j)
abbrev yLt : F2 := yI fun i j => .bool (decide (i < j))
abbrev yLe : F2 := yI fun i j => .bool (decide (i ≤ j))
abbrev yGt : F2 := yI fun i j => .bool (decide (j < i))
abbrev yGe : F2 := yI fun i j => .bool (decide (j ≤ i))
abbrev yMul : F2 := yIc (fun i j => wide i ∧ wide j) fun i j => .int (i * j)
abbrev yDiv : F2 := yIc (fun _ j => 0 < j ∧ j < 10 ^ 250) fun i j => .int (i / j)
abbrev yMod : F2 := yIc (fun _ j => 0 < j) fun i j => .int (i % j)
abbrev yPow : F2 := yIc (fun i j => wide i ∧ 0 ≤ j ∧ j ≤ 1000) fun i j => .int (i ^ j.toNat)
theorem y_mul : Ok2 yMul dMul := y_Ic fun i j h => wide_mul (wide_abs h.1) (wide_abs h.2) (by decide) (by decide) (by decide)
theorem y_div : Ok2 yDiv dDiv := y_Ic fun i j h => wide_div h.1 (wide_abs ⟨by have := h.1; omega, h.2⟩) (by decide) (by decide)
theorem y_mod : Ok2 yMod dMod := y_Ic fun i j h => h
theorem y_pow : Ok2 yPow dPow := y_Ic fun i j h => by
  refine ⟨h.2.1, ?_⟩
  have b : Builtin.Int.intBits i ≤ 1000 := PyProof.Rows.intBits_le (wide_abs h.1)
  have : (Builtin.Int.intBits i : Int) * j ≤ 1000 * 1000 := Int.mul_le_mul (by omega) h.2.2 h.2.1 (by omega)
  exact Int.le_trans this (by decide)
theorem y_sub : Ok2 ySub dSub := y_I
theorem y_lt : Ok2 yLt dLt := y_I
theorem y_le : Ok2 yLe dLe := y_I
theorem y_gt : Ok2 yGt dGt := y_I
theorem y_ge : Ok2 yGe dGe := y_I
abbrev yNeg : SD → Option VR
  | .d (.int i) => some (.fz (.int (-i)))
  | _ => none
theorem y_neg : Ok1 yNeg dNeg := by
  intro a z h Q q
  unfold yNeg at h
  split at h
  · cases h; exact q
  · cases h
abbrev yAdd : F2
  | .d (.int i), .d (.int j) => some (.fz (.int (i + j)))
  | .d (.tuple xs), .d (.tuple ys) => if xs.length + ys.length ≤ sizeLine then some (.fz (.tuple (xs ++ ys))) else none
  | .d (.list xs), .d (.list ys) => if xs.length + ys.length ≤ sizeLine then some (.ow (.l (xs ++ ys))) else none
  | .d (.str x), .d (.str y) => if x.length + y.length ≤ sizeLine then some (.fz (.str (x ++ y))) else none
  | _, _ => none
theorem y_add : Ok2 yAdd dAdd := by
  intro a b z h Q q
  unfold yAdd at h
  split at h
  · cases h; exact q
  · split at h
    · rename_i hc; cases h; exact ⟨hc, q⟩
    · cases h
  · split at h
    · rename_i hc; cases h; exact ⟨hc, q⟩
    · cases h
  · split at h
    · rename_i hc; cases h; exact ⟨hc, q⟩
    · cases h
  · cases h
abbrev yIsN (n : Bool) : F2
  | .d d, .d .none => some (.fz (.bool (n.xor (isNoneD d))))
  | _, _ => none
theorem y_isN {n : Bool} : Ok2 (yIsN n) (dIsN n) := by
  intro a b z h Q q
  unfold yIsN at h
  split at h
  · cases h; exact q
  · cases h
abbrev yIsB (n : Bool) : F2
  | .d (.bool a), .d (.bool b) => some (.fz (.bool (n.xor (a == b))))
  | _, _ => none
theorem y_isB {n : Bool} : Ok2 (yIsB n) (dIsB n) := by
  intro a b z h Q q
  unfold yIsB at h
  split at h
  · cases h; exact q
  · cases h
abbrev yEq (n : Bool) : F2
  | .d a, .d b => if SeqAt.shaped a = true ∧ SeqAt.shaped b = true then some (.fz (.bool (n.xor (PyData.eqv a b)))) else none
  | _, _ => none
theorem y_eq {n : Bool} : Ok2 (yEq n) (dEq n) := by
  intro a b z h Q q
  unfold yEq at h
  split at h
  · split at h
    · rename_i hc; cases h; exact ⟨hc.1, hc.2, q⟩
    · cases h
  · cases h
abbrev yInn (n : Bool) : F2
  | .d a, .d (.tuple ds) => if SeqAt.shaped a = true ∧ SeqAt.shaped (.tuple ds) = true then some (.fz (.bool (n.xor (ds.any fun y => PyData.eqv y a)))) else none
  | .d a, .d (.list ds) => if SeqAt.shaped a = true ∧ SeqAt.shaped (.list ds) = true then some (.fz (.bool (n.xor (ds.any fun y => PyData.eqv y a)))) else none
  | _, _ => none
theorem y_inn {n : Bool} : Ok2 (yInn n) (dInn n) := by
  intro a b z h Q q
  unfold yInn at h
  split at h
  · split at h
    · rename_i hc; cases h; exact ⟨hc.1, hc.2, q⟩
    · cases h
  · split at h
    · rename_i hc; cases h; exact ⟨hc.1, hc.2, q⟩
    · cases h
  · cases h
abbrev yIx : F2
  | .d (.list ds), .d (.int i) => match atI ds i with | some d => some (.fz d) | none => none
  | .d (.tuple ds), .d (.int i) => match atI ds i with | some d => some (.fz d) | none => none
  | .sc ns, .d (.int i) => match atI ns i with | some d => some (.fz (.int d)) | none => none
  | .d (.str x), .d (.int i) => if x.length ≤ sizeLine then match atI x.cps.toList i with | some c => some (.fz (.str ⟨#[c]⟩)) | none => none else none
  | _, _ => none
theorem y_ix : Ok2 yIx dIx := by
  intro a b z h Q q
  unfold yIx at h
  split at h
  · split at h
    · rename_i e; cases h; exact ⟨_, e, q⟩
    · cases h
  · split at h
    · rename_i e; cases h; exact ⟨_, e, q⟩
    · cases h
  · split at h
    · rename_i e; cases h; exact ⟨_, e, q⟩
    · cases h
  · split at h
    · rename_i hc
      split at h
      · rename_i e; cases h; exact ⟨hc, _, e, q⟩
      · cases h
    · cases h
  · cases h
abbrev yLen : List SD → Option VR
  | [.d (.list ds)] => some (.fz (.int ds.length))
  | [.d (.tuple ds)] => some (.fz (.int ds.length))
  | [.sc ns] => some (.fz (.int ns.length))
  | [.d (.str x)] => if x.length ≤ sizeLine then some (.fz (.int x.length)) else none
  | _ => none
theorem y_len : OkN yLen dLen := by
  intro a z h Q q
  unfold yLen at h
  split at h
  · cases h; exact q
  · cases h; exact q
  · cases h; exact q
  · split at h
    · rename_i hc; cases h; exact ⟨hc, q⟩
    · cases h
  · cases h
abbrev yInt : List SD → Option VR
  | [.d (.int i)] => some (.fz (.int i))
  | [.d (.bool b)] => some (.fz (.int (if b then 1 else 0)))
  | _ => none
theorem y_int : OkN yInt dInt := by
  intro a z h Q q
  unfold yInt at h
  split at h
  · cases h; exact q
  · cases h; exact q
  · cases h
abbrev yAbs : List SD → Option VR
  | [.d (.int i)] => some (.fz (.int (if i < 0 then -i else i)))
  | _ => none
theorem y_abs : OkN yAbs dAbs := by
  intro a z h Q q
  unfold yAbs at h
  split at h
  · cases h; exact q
  · cases h
def maxL : List Int → Option Int
  | [] => none
  | a :: r => match maxL r with | none => some a | some b => some (max a b)
def minL : List Int → Option Int
  | [] => none
  | a :: r => match minL r with | none => some a | some b => some (min a b)
theorem maxL_spec : ∀ {ns : List Int} {m : Int}, maxL ns = some m → m ∈ ns ∧ ∀ y ∈ ns, y ≤ m
  | [], _, h => by cases h
  | a :: r, m, h => by
    unfold maxL at h
    cases e : maxL r with
    | none =>
      rw [e] at h; cases h
      refine ⟨by simp, fun y hy => ?_⟩
      rcases List.mem_cons.mp hy with rfl | hy
      · exact Int.le_refl _
      · cases r with
        | nil => cases hy
        | cons b r => unfold maxL at e; split at e <;> cases e
    | some b =>
      rw [e] at h; cases h
      obtain ⟨h1, h2⟩ := maxL_spec e
      refine ⟨?_, fun y hy => ?_⟩
      · rcases Int.le_total a b with l | l
        · rw [Int.max_eq_right l]; exact List.mem_cons_of_mem _ h1
        · rw [Int.max_eq_left l]; simp
      · rcases List.mem_cons.mp hy with rfl | hy
        · exact Int.le_max_left _ _
        · exact Int.le_trans (h2 y hy) (Int.le_max_right _ _)
theorem minL_spec : ∀ {ns : List Int} {m : Int}, minL ns = some m → m ∈ ns ∧ ∀ y ∈ ns, m ≤ y
  | [], _, h => by cases h
  | a :: r, m, h => by
    unfold minL at h
    cases e : minL r with
    | none =>
      rw [e] at h; cases h
      refine ⟨by simp, fun y hy => ?_⟩
      rcases List.mem_cons.mp hy with rfl | hy
      · exact Int.le_refl _
      · cases r with
        | nil => cases hy
        | cons b r => unfold minL at e; split at e <;> cases e
    | some b =>
      rw [e] at h; cases h
      obtain ⟨h1, h2⟩ := minL_spec e
      refine ⟨?_, fun y hy => ?_⟩
      · rcases Int.le_total a b with l | l
        · rw [Int.min_eq_left l]; simp
        · rw [Int.min_eq_right l]; exact List.mem_cons_of_mem _ h1
      · rcases List.mem_cons.mp hy with rfl | hy
        · exact Int.min_le_left _ _
        · exact Int.le_trans (Int.min_le_right _ _) (h2 y hy)
abbrev yMax : List SD → Option VR
  | [.d (.int i), .d (.int j)] => some (.fz (.int (max i j)))
  | [.d (.list ds)] => match intsOf ds with | some ns => (match maxL ns with | some m => some (.fz (.int m)) | none => none) | none => none
  | _ => none
abbrev yMin : List SD → Option VR
  | [.d (.int i), .d (.int j)] => some (.fz (.int (min i j)))
  | [.d (.list ds)] => match intsOf ds with | some ns => (match minL ns with | some m => some (.fz (.int m)) | none => none) | none => none
  | _ => none
theorem y_max : OkN yMax dMax := by
  intro a z h Q q
  unfold yMax at h
  split at h
  · cases h; exact q
  · split at h
    · rename_i ns e
      split at h
      · rename_i m e2
        cases h
        obtain ⟨h1, h2⟩ := maxL_spec e2
        refine ⟨ns, intsOf_eq e, fun e => (by subst e; cases h1), fun m' h3 h4 => ?_⟩
        have := Int.le_antisymm (h2 _ h3) (h4 _ h1)
        subst this; exact q
      · cases h
    · cases h
  · cases h
theorem y_min : OkN yMin dMin := by
  intro a z h Q q
  unfold yMin at h
  split at h
  · cases h; exact q
  · split at h
    · rename_i ns e
      split at h
      · rename_i m e2
        cases h
        obtain ⟨h1, h2⟩ := minL_spec e2
        refine ⟨ns, intsOf_eq e, fun e => (by subst e; cases h1), fun m' h3 h4 => ?_⟩
        have := Int.le_antisymm (h4 _ h1) (h2 _ h3)
        subst this; exact q
      · cases h
    · cases h
  · cases h
abbrev ySum : List SD → Option VR
  | [.d (.list ds)] => match intsOf ds with | some ns => some (.fz (.int ns.sum)) | none => none
  | _ => none
theorem y_sum : OkN ySum dSum := by
  intro a z h Q q
  unfold ySum at h
  split at h
  · split at h
    · rename_i ns e; cases h; exact ⟨ns, intsOf_eq e, q⟩
    · cases h
  · cases h
def boolsOf : List D → Option (List Bool)
  | [] => some []
  | .bool i :: r => (boolsOf r).map (i :: ·)
  | _ => none
theorem boolsOf_eq : ∀ {ds : List D} {ns : List Bool}, boolsOf ds = some ns → ds = ns.map .bool
  | [], ns, h => by cases h; rfl
  | .bool i :: r, ns, h => by
    unfold boolsOf at h
    cases e : boolsOf r with
    | none => rw [e] at h; cases h
    | some l => rw [e] at h; cases h; rw [boolsOf_eq e]; rfl
  | .none :: _, _, h => by cases h
  | .int _ :: _, _, h => by cases h
  | .str _ :: _, _, h => by cases h
  | .list _ :: _, _, h => by cases h
  | .tuple _ :: _, _, h => by cases h
  | .dict _ :: _, _, h => by cases h
abbrev yAll : List SD → Option VR
  | [.d (.list ds)] => match boolsOf ds with | some ns => some (.fz (.bool (ns.all id))) | none => none
  | _ => none
abbrev yAny : List SD → Option VR
  | [.d (.list ds)] => match boolsOf ds with | some ns => some (.fz (.bool (ns.any id))) | none => none
  | _ => none
theorem y_all : OkN yAll dAll := by
  intro a z h Q q
  unfold yAll at h
  split at h
  · split at h
    · rename_i ns e; cases h; exact ⟨ns, boolsOf_eq e, q⟩
    · cases h
  · cases h
theorem y_any : OkN yAny dAny := by
  intro a z h Q q
  unfold yAny at h
  split at h
  · split at h
    · rename_i ns e; cases h; exact ⟨ns, boolsOf_eq e, q⟩
    · cases h
  · cases h
abbrev yDivmod : List SD → Option VR
  | [.d (.int i), .d (.int j)] => if 0 < j ∧ wide i then some (.fz (.tuple [.int (i / j), .int (i % j)])) else none
  | _ => none
theorem y_divmod : OkN yDivmod dDivmod := by
  intro a z h Q q
  unfold yDivmod at h
  split at h
  · split at h
    · rename_i hc; cases h
      exact ⟨divp_small hc.1 (Nat.lt_trans (wide_abs hc.2) (Nat.pow_lt_pow_right (by decide) (by decide))), q⟩
    · cases h
  · cases h
abbrev yList : List SD → Option VR
  | [.d (.list ds)] => some (.ow (.l ds))
  | [.d (.tuple ds)] => some (.ow (.l ds))
  | _ => none
abbrev yTuple : List SD → Option VR
  | [.d (.list ds)] => some (.fz (.tuple ds))
  | [.d (.tuple ds)] => some (.fz (.tuple ds))
  | _ => none
theorem y_list : OkN yList dList := by
  intro a z h Q q
  unfold yList at h
  split at h
  · cases h; exact q
  · cases h; exact q
  · cases h
theorem y_tuple : OkN yTuple dTuple := by
  intro a z h Q q
  unfold yTuple at h
  split at h
  · cases h; exact q
  · cases h; exact q
  · cases h
abbrev yMulS : F2
  | .d (.str a), .d (.int k) => if 0 ≤ k ∧ k ≤ 1000000 ∧ a.length ≤ 1 then some (.fz (.str (repS a k))) else none
  | _, _ => none
theorem y_mulS : Ok2 yMulS dMulS := by
  intro a b z h Q q
  unfold yMulS at h
  split at h
  · split at h
    · rename_i hc; cases h; exact ⟨hc, q⟩
    · cases h
  · cases h
/-! methods -/
abbrev fAppend : FM := fun ds args => match args with
  | [d] => if ds.length < sizeLine then some (.none, ds ++ [d]) else none
  | _ => none
theorem f_append : OkM fAppend mAppend := by
  intro ds args res es h P p
  unfold fAppend at h
  split at h
  · split at h
    · rename_i hc; cases h; exact ⟨hc, p⟩
    · cases h
  · cases h
abbrev fPop : FM := fun ds args => match args with
  | [] => match ds[ds.length - 1]? with | some d => some (d, ds.dropLast) | none => none
  | _ => none
theorem f_pop : OkM fPop mPop := by
  intro ds args res es h P p
  unfold fPop at h
  split at h
  · split at h
    · rename_i hc; cases h; exact ⟨_, hc, p⟩
    · cases h
  · cases h
abbrev fPopAt : FM := fun ds args => match args with
  | [.int i] => if -(2 ^ 63) ≤ i ∧ i < 2 ^ 63 then match seqIndex? i ds.length with | some j => (match ds[j]? with | some d => some (d, ds.eraseIdx j) | none => none) | none => none else none
  | _ => none
theorem f_popAt : OkM fPopAt mPopAt := by
  intro ds args res es h P p
  unfold fPopAt at h
  split at h
  · split at h
    · rename_i hc
      split at h
      · rename_i j hj
        split at h
        · rename_i d hd; cases h; exact ⟨hc.1, hc.2, j, _, hj, hd, p⟩
        · cases h
      · cases h
    · cases h
  · cases h
abbrev fInsert : FM := fun ds args => match args with
  | [.int i, d] => if ds.length < sizeLine ∧ 0 ≤ i ∧ i < 2 ^ 63 then some (.none, ds.take i.toNat ++ [d] ++ ds.drop i.toNat) else none
  | _ => none
theorem f_insert : OkM fInsert mInsert := by
  intro ds args res es h P p
  unfold fInsert at h
  split at h
  · split at h
    · rename_i hc; cases h; exact ⟨hc.1, hc.2.1, hc.2.2, p⟩
    · cases h
  · cases h
abbrev fExtend : FM := fun ds args => match args with
  | [.list es] => if ds.length + es.length ≤ sizeLine then some (.none, ds ++ es) else none
  | _ => none
theorem f_extend : OkM fExtend mExtend := by
  intro ds args res es h P p
  unfold fExtend at h
  split at h
  · split at h
    · rename_i hc; cases h; exact ⟨hc, p⟩
    · cases h
  · cases h
abbrev fReverse : FM := fun ds args => match args with
  | [] => some (.none, ds.reverse)
  | _ => none
theorem f_reverse : OkM fReverse mReverse := by
  intro ds args res es h P p
  unfold fReverse at h
  split at h
  · cases h; exact p
  · cases h
end FL
set_option Elab.async false
set_option linter.all false
set_option maxRecDepth 100000
set_option maxHeartbeats 1000000
/-! FLe: isinstance, exceptions as data; constants; stores, methods, par, for's heads. -/
namespace FL
open PySem PySem.Spec PyProof.Rows L2 DL
section
variable {X : Cx} {W : WX} {pos : Pos} {cl : String → Addr}
abbrev xIs (f : D → Bool) (x : XM VR) : XM VR := fun ρ => (x ρ).bind fun r ρ1 => match peekZ (stl r) ρ1 with
  | some (.d d) => .ok (.fz (.bool (f d))) ρ1
  | _ => .no
theorem w_is {f : D → Bool} {x : XM VR} : ∀ ρ Q E, wpO cl (xIs f x) ρ Q E → eIsY f (wpO cl x) ρ Q E := by
  rintro ρs Q E ⟨ad, ρ, rfl, h⟩
  refine wpI (wp_bind h _ fun r ρ1 h => ?_)
  rw [peek_em]
  cases h1 : peekZ (stl r) ρ1 with
  | none => rw [h1] at h; exact h.elim
  | some p =>
    rw [h1] at h
    cases p with
    | sc _ => exact h.elim
    | d d => exact h
abbrev xIs2 (f : D → Bool) (x : XM VR) : XM VR := fun ρ => (x ρ).bind fun r ρ1 => match peekZ (stl r) ρ1 with
  | some (.d (.dict _)) => .no
  | some (.d d) => .ok (.fz (.bool (f d))) ρ1
  | _ => .no
theorem w_is2 {f : D → Bool} {x : XM VR} : ∀ ρ Q E, wpO cl (xIs2 f x) ρ Q E → eIs f (wpO cl x) ρ Q E := by
  rintro ρs Q E ⟨ad, ρ, rfl, h⟩
  refine wpI (wp_bind h _ fun r ρ1 h => ?_)
  rw [peek_em]
  cases h1 : peekZ (stl r) ρ1 with
  | none => rw [h1] at h; exact h.elim
  | some p =>
    rw [h1] at h
    cases p with
    | sc _ => exact h.elim
    | d d => cases d <;> exact h
abbrev xExc (n : Nat) (x : XM VR) : XM VR := fun ρ => (x ρ).bind fun _ ρ1 => .ok (.fz (exD n)) ρ1
theorem w_exc {n : Nat} {x : XM VR} : ∀ ρ Q E, wpO cl (xExc n x) ρ Q E → eExc n (wpO cl x) ρ Q E := by
  rintro ρs Q E ⟨ad, ρ, rfl, h⟩
  exact wpI (wp_bind h _ fun r ρ1 h => h)
theorem w_tup {gs : XGs} {e : Expr} {ix : List Nat} (h : PGD X e (gT (wpGs gs)) ix) : PGD X e (wpG (yT gs)) ix := h.mono wc_t
theorem pxs_raise {n : String} {x m : Str} {j : Nat} {p p2 pos2 : Pos} (tk : Takes X W) (hc : X.calm = true) (T : ExT X.K X.mg x (cl n)) (hg : Gl X x) (hdb : (x == ("__debug__" : Str)) = false := by decide) : PXS X cl W (.Raise (some (.Call (.Name x p) [.Constant (.str m) j p2] [] pos)) none pos2) (zRaise n) := (psd_raise tk hc T hg hdb).mono (by
  rintro ρs D ⟨ad, ρ, rfl, h⟩; exact h)
/-- THE RULE for a def of the text, by its function -/
theorem okF {P : Program} {w : World} {K : PySem.W.Frag} {mg : Str → Option Value} {base : Heap} {x : Str} {st : Stmt} {N ps : List Str} {k : Nat} {F : XF} {xb : XS} {m : Nat} (Hs : Has K mg x st) (S : FnScope N ps (defScope st)) (hm : N.length - ps.length = m) (hF : F = runD xb m)
    (hbody : ∀ (cdv : Value) (f : Addr) (A : Around) (outer : List Env) (s : Shared) (H : Hp) (E : XK), Room k (A.deeper (envOfC x (defScope st) s.heap.objs.size f cdv)) → PXB (cxOf (L2.CX P w) P w K mg base N x (defScope st) f cdv A outer s H E) cl (fun cls d _ H => E cls d H) (defBody st) xb) :
    FnC P w K mg base (k + 1) x ps st (spF cl F) :=
  defC Hs S (spF cl F) fun cdv f A outer s H E hr => ⟨_, hbody cdv f A outer s H E hr, fun as ad hp _ => by
    rw [hm]
    exact okD hF as ad hp⟩
theorem law_fin {cl : String → Addr} {F : XF} {ns : List Int} {l : List Zl} (h : F [.sc ns] = .ok (.fz (.bool true)) l) : (spF cl F).pre [.sc ns] ∧ (∀ r as', (spF cl F).post [.sc ns] r as' → r = .fz (.bool true)) ∧ ∀ C as', ¬ (spF cl F).exc [.sc ns] C as' := by
  have key : ∀ {az : List Zl}, [Sl.sc ns] = az.map sl0 → az = [.sc ns] := fun {az} e => sl0s_inj (a := az) (b := [.sc ns]) e.symm
  refine ⟨⟨[.sc ns], rfl, by rw [h]; exact fun z => nomatch z⟩, ?_, ?_⟩
  · rintro r as' ⟨az, az', e, _, _, e2⟩
    rw [key e, h] at e2
    cases e2; rfl
  · rintro C as' ⟨az, n, az', e, _, _, e2, _⟩
    rw [key e, h] at e2
    cases e2
end
end FL
namespace FL
open PySem PySem.Spec PyProof.Rows L2 DL
section
variable {X : Cx} {W : WX} {pos : Pos} {cl : String → Addr}
abbrev fCount : FM := fun ds args => match args with
  | [d] => if SeqAt.shaped (.list ds) = true ∧ SeqAt.shaped d = true then some (.int ((ds.countP fun z => PyData.eqv z d : Nat) : Int), ds) else none
  | _ => none
theorem f_count : OkM fCount mCount := by
  intro ds args res es h P p
  unfold fCount at h
  split at h
  · split at h
    · rename_i hc; cases h; exact ⟨hc.1, hc.2, p⟩
    · cases h
  · cases h
def idxD (d : D) : List D → Nat → Option Nat
  | [], _ => none
  | z :: r, k => if PyData.eqv z d = true then some k else idxD d r (k + 1)
theorem idxD_spec {d : D} : ∀ {ds : List D} {k j : Nat}, idxD d ds k = some j → k ≤ j ∧ (∃ z, ds[j - k]? = some z ∧ PyData.eqv z d = true) ∧ ∀ (m : Nat) (z' : D), m < j - k → ds[m]? = some z' → PyData.eqv z' d = false
  | [], _, _, h => by cases h
  | z :: r, k, j, h => by
    unfold idxD at h
    split at h
    · rename_i hc
      cases h
      refine ⟨Nat.le_refl _, ⟨z, by simp, hc⟩, fun m z' hm => by omega⟩
    · rename_i hc
      obtain ⟨h1, ⟨w, h2, h3⟩, h4⟩ := idxD_spec h
      refine ⟨by omega, ⟨w, ?_, h3⟩, fun m z' hm hz => ?_⟩
      · rw [show j - k = (j - (k + 1)) + 1 from by omega]; exact h2
      · cases m with
        | zero => cases hz; simpa using hc
        | succ m => exact h4 m z' (by omega) (by simpa using hz)
abbrev fIndex : FM := fun ds args => match args with
  | [d] => if SeqAt.shaped (.list ds) = true ∧ SeqAt.shaped d = true then match idxD d ds 0 with | some j => some (.int (j : Nat), ds) | none => none else none
  | _ => none
theorem f_index : OkM fIndex mIndex := by
  intro ds args res es h P p
  unfold fIndex at h
  split at h
  · split at h
    · rename_i hc
      split at h
      · rename_i j hj
        cases h
        obtain ⟨h1, ⟨w, h2, h3⟩, h4⟩ := idxD_spec hj
        exact ⟨hc.1, hc.2, j, w, h2, h3, h4, p⟩
      · cases h
    · cases h
  · cases h
theorem w_set_of {i : Nat} {x : XM VR} {t : DE} (h : ∀ ρ Q E, wpO cl x ρ Q E → t ρ Q E) : ∀ ρ D, wpS cl (zSet i x) D ρ → sSet i t D ρ := by
  rintro ρs D ⟨ad, ρ, rfl, hh⟩
  exact h _ _ _ (wpI (wp_bind hh _ fun r ρ1 hh => asg_wp hh))
theorem w_mt0 {i : Nat} {f : FM} {op : OpM} (hf : OkM f op) : ∀ ρ Q E, wpO cl (xMt i f xfNil) ρ Q E → eMt i op fNil ρ Q E := by
  intro ρ Q E h
  have h := w_mt (cl := cl) hf _ _ _ h
  refine ⟨h.1, ?_⟩
  obtain ⟨ad, ρz, e, h⟩ := h.2
  rw [e]
  exact h
theorem pd_globS {x : Str} {i : Str} (hg : Gl X x) (h : ∃ t, X.mg x = some (.str i t)) (hd : (x == ("__debug__" : Str)) = false := by decide) : PD X W (.Name x pos) (eC (.str i)) := by
  obtain ⟨t, h⟩ := h
  exact pd_glob (v := .str i) hg h ⟨t, rfl⟩ (fun _ => .str i) hd
end
theorem law_endF {l : PySem.W.OpenLaw} {q : Program} {loose : List Str} {XP : (Str → Option Value) → Heap → Prop} {YP : World → Heap → Prop} {d : DefRec} {K : Params → PySem.W.Frag} {st : Stmt} {k : Nat} {x : Str} {F : XF} (hn : l.most = some 63) (hdf : d.params.defaults = []) (hr : Room k callerA)
    (hY : ∀ (w : World) (h : Heap), YP w h → (K w.params).In h) (bp : BindP st d.name [x])
    (H : ∀ (w : World) (mg : Str → Option Value) (h : Heap), (K w.params).In h → h.Ns mainGlobals mg → ∀ base : Heap, (K w.params).In base → base.Ns mainGlobals mg → ∃ cl, FnC l.prog w (K w.params) mg base k d.name [x] st (spF cl F))
    (hp : ∀ ns : List Int, ns.length ≤ 63 → (∀ z ∈ ns, Builtin.Int.intBits z ≤ 1048576) → ∃ l, F [.sc ns] = .ok (.fz (.bool true)) l) :
    PySem.W.WalkO q loose XP YP l.row.toRowW d [] (fun f vs => PySem.call f vs) := by
  let sp : Spc := ⟨fun as => ∃ ns : List Int, as = [.sc ns] ∧ ns.length ≤ 63 ∧ ∀ z ∈ ns, Builtin.Int.intBits z ≤ 1048576, fun as r as' => r = .fz (.bool true), fun _ _ _ => False⟩
  refine law_end (sp := sp) hn hdf hr hY bp (fun w mg h KX G base Kb Gb => ?_) (fun ns h1 h2 => ⟨⟨ns, rfl, h1, h2⟩, fun r as' q => q, fun _ _ q => q⟩)
  obtain ⟨cl, f, fd, F1, gm, F2⟩ := H w mg h KX G base Kb Gb
  refine ⟨f, fd, F1, gm, F2.imp ?_⟩
  rintro vs H Q E ⟨hl, fr, Hf, as, S, hpre, hpost, _⟩
  obtain ⟨ns, rfl, h1, h2⟩ := hpre
  obtain ⟨l, e⟩ := hp ns h1 h2
  obtain ⟨p1, p2, p3⟩ := law_fin (cl := cl) e
  exact ⟨hl, fr, Hf, _, S, p1, fun r as' q => hpost r as' (p2 r as' q), fun C as' q => absurd q (p3 C as')⟩
end FL
set_option Elab.async false
set_option linter.all false
set_option maxRecDepth 100000
set_option maxHeartbeats 1000000
/-! DLm: an owned list at a name is walked, and stays owned. -/
namespace DL
open PySem PySem.Spec PyProof.Rows L2
section
variable {X : Cx} {W : WX} {pos : Pos}
theorem SO.lendL {K : PySem.W.Frag} {B : Bs} {Hf H : Hp} {ρ : List Sl} {σ : L2.St} {i : Nat} {ds : List D} {v : V} (S : SO K B Hf ρ σ H) (hc : conL (getS ρ i) = some ds) (hv : σ[i]? = some (some v)) :
    ∃ p vs, v = .ref p ∧ H p = some (.lst vs) ∧ Reps K Hf vs ds ∧ ds.length ≤ sizeLine ∧ (∀ a c, getS ρ i = .pw a c → a = p) ∧ SO K ⟨upd B.fr p (.lst vs), Hf⟩ Hf (setS ρ i (.xa p)) σ H ∧
    ∀ k Hf' ρ' σ' H', SO K ⟨upd B.fr p (.lst vs), Hf⟩ Hf' ρ' σ' H' → getS ρ' k = .xa p → SO K B Hf' (setS ρ' k (getS ρ i)) σ' H' := by
  generalize hs : getS ρ i = s at hc
  have hn : s ≠ .nil := fun z => by rw [z] at hc; cases hc
  have hi := getS_eq hs hn
  have lt := S.lt hi
  obtain ⟨w, e1, S1⟩ := S.takeSl hi
  rw [hv] at e1; cases e1
  obtain ⟨fp, ⟨v', σ', f1, f2, e2, e3, h1, h2⟩, n1, n2⟩ := S1.sl
  cases e2; subst e3
  have key : ∃ p, v = .ref p ∧ OwnR K Hf H (.l ds) p f1 ∧ (∀ a c, s = .pw a c → a = p) ∧ ∀ (Hf' H' : Hp) (f : List Addr), OwnR K Hf' H' (.l ds) p f → SlO K Hf' H' s (some (.ref p)) f := by
    cases s with
    | ow c =>
      cases c with
      | l ds' =>
        cases hc
        obtain ⟨p, e, q⟩ := h1
        cases e
        exact ⟨p, rfl, q, (fun a c e => nomatch e), fun Hf' H' f q' => ⟨p, rfl, q'⟩⟩
    | pw a c =>
      cases c with
      | l ds' =>
        cases hc
        obtain ⟨e, q⟩ := h1
        cases e
        exact ⟨a, rfl, q, (fun a c e => by cases e; rfl), fun Hf' H' f q' => ⟨rfl, q'⟩⟩
    | _ => cases hc
  obtain ⟨p, rfl, ⟨rfl, z, vs, q1, q2⟩, hpw, back⟩ := key
  have hp := n2 p (by simp)
  have nd := List.nodup_cons.mp n1
  have ne : ∀ b ∈ f2, b ≠ p := fun b hb e => nd.1 (e ▸ hb)
  refine ⟨p, vs, rfl, q1, q2, z, hpw, ?_, ?_⟩
  · have S2 : SO K ⟨upd B.fr p (.lst vs), Hf⟩ Hf (.xa p :: ρ.set i .nil) (some (.ref p) :: σ) H := by
      refine ⟨Same.refl _, S.sub, fun b o e => ?_, f2, ⟨_, _, [], f2, rfl, rfl, ⟨rfl, rfl⟩, h2⟩, nd.2, fun b hb => ⟨(n2 b (by simp [hb])).1, ?_⟩⟩
      · by_cases hb : b = p
        · subst hb
          have e : (upd B.fr b (.lst vs)) b = some o := e
          rw [upd_same] at e; cases e
          exact ⟨q1, hp.1⟩
        · have e : (upd B.fr p (.lst vs)) b = some o := e
          rw [upd_ne hb] at e
          exact S.fr b o e
      · show (upd B.fr p (.lst vs)) b = none
        rw [upd_ne (ne b hb)]; exact (n2 b (by simp [hb])).2
    have S3 := S2.putSl (i := i) (by rw [List.getElem?_set_self lt])
    rw [List.set_set, set_self_of hv] at S3
    rw [setS_eq]
    exact S3
  · intro k Hf' ρ' σ' H' S' hx
    have hk := getS_eq hx (fun z => nomatch z)
    have lk := S'.lt hk
    obtain ⟨w, e4, S4⟩ := S'.takeSl hk
    obtain ⟨fq, ⟨v', σ2, g1, g2, e5, e6, r1, r2⟩, m1, m2⟩ := S4.sl
    cases e5; subst e6
    obtain ⟨rfl, ew⟩ := r1
    subst ew
    have cp := S'.fr p (.lst vs) upd_same
    have ne2 : ∀ b ∈ g2, b ≠ p := fun b hb e => by
      have := (m2 b (by simpa using hb)).2
      rw [e] at this
      have q : (upd B.fr p (.lst vs)) p = none := this
      rw [upd_same] at q; cases q
    have S5 : SO K B Hf' (s :: ρ'.set k .nil) (some (.ref p) :: σ') H' := by
      refine ⟨S.up.trans S'.up, S'.sub, fun b o e => S'.fr b o ?_, [p] ++ g2, ⟨_, _, [p], g2, rfl, rfl, back Hf' H' [p] ⟨rfl, z, vs, cp.1, q2.same S'.up⟩, r2⟩, List.nodup_cons.mpr ⟨fun h => ne2 p h rfl, by simpa using m1⟩, fun b hb => ?_⟩
      · show (upd B.fr p (.lst vs)) b = some o
        rw [upd_ne (fun z => by rw [z, hp.2] at e; cases e)]; exact e
      · rcases List.mem_cons.mp hb with rfl | hb
        · exact ⟨cp.2, hp.2⟩
        · refine ⟨(m2 b (by simpa using hb)).1, ?_⟩
          have q : (upd B.fr p (.lst vs)) b = none := (m2 b (by simpa using hb)).2
          rw [upd_ne (ne2 b hb)] at q; exact q
    have S6 := S5.putSl (i := k) (by rw [List.getElem?_set_self lk])
    rw [List.set_set, set_self_of e4] at S6
    rw [setS_eq]
    exact S6
/-- behind the walk the list is owned again -/
abbrev rsB (i : Nat) (s0 : Sl) (p : Addr) (Q : List Sl → Prop) : List Sl → Prop := fun ρ => getS ρ i = .xa p ∧ Q (setS ρ i s0)
def sForB (i : Nat) (g : DG) (body : DS) : DS := fun D ρ => ∃ ds, conL (getS ρ i) = some ds ∧ ∀ p, (∀ a c, getS ρ i = .pw a c → a = p) → ∃ Inv : Nat → List Sl → Prop, Inv 0 (setS ρ i (.xa p)) ∧
  (∀ k d ρ2, ds[k]? = some d → Inv k ρ2 → g d ρ2 fun ρ3 => body { nx := Inv (k + 1), ct := Inv (k + 1), bk := rsB i (getS ρ i) p D.nx, rt := fun r => rsB i (getS ρ i) p (D.rt r), ex := fun C => rsB i (getS ρ i) p (D.ex C) } ρ3) ∧ (∀ ρ2, Inv ds.length ρ2 → rsB i (getS ρ i) p D.nx ρ2)
theorem EV.back {K : PySem.W.Frag} {B B' : Bs} {H : Hp} {ρ : List Sl} {σ : L2.St} {r : VR} {v : V} {i : Nat} {s0 : Sl} {p : Addr} (bk : ∀ k Hf' ρ' σ' H', SO K B' Hf' ρ' σ' H' → getS ρ' k = .xa p → SO K B Hf' (setS ρ' k s0) σ' H') (e : EV K B' ρ σ H r v) (hx : getS ρ i = .xa p) : EV K B (setS ρ i s0) σ H r v := by
  cases r with
  | fz d => obtain ⟨Hf, S, q⟩ := e; exact ⟨Hf, bk i _ _ _ _ S hx, q⟩
  | ow c => obtain ⟨Hf, S⟩ := e; exact ⟨Hf, bk (i + 1) _ _ _ _ S hx⟩
  | bw j => obtain ⟨⟨Hf, S⟩, q⟩ := e; exact ⟨⟨Hf, bk i _ _ _ _ S hx⟩, q⟩
  | sc ns => obtain ⟨Hf, a, S, q⟩ := e; exact ⟨Hf, a, bk i _ _ _ _ S hx, q⟩
theorem psd_forB (i : Nat) {tg : Expr} {x : Str} {px : Pos} {body : List Stmt} {g : DG} {ix : List Nat} {t : DS} (hp : PassesOwn (model X.prog X.w) X.A X.env X.xe) (hc : X.calm = true) (hg : PGD X tg g ix) (hb : PBD X W body t)
    (hN : X.N[i]? = some x := by rfl) (hv : Vis X.env.scope x := by first | exact Or.inl rfl | exact Or.inr (Or.inl rfl) | exact Or.inr (Or.inr rfl)) (hd : (x == ("__debug__" : Str)) = false := by decide)
    (hcd : (x == ("__classdict__" : Str)) = false := by decide) (hs : ∀ y, foldedSetIterable (.Name x px) X.env y = pure y := by intro _; rfl) : PSD X W (.For tg (.Name x px) body [] pos) (sForB i g t) := by
  obtain ⟨g1, p2, s2⟩ := hg
  obtain ⟨tb, p3, s3⟩ := hb
  refine ⟨_, ps_for hp hc (pi_seqW (pv i hN hv hd hcd)) p2 p3 hs, ?_⟩
  intro B Hf ρ σ H D D' S L h
  obtain ⟨ds, hcon, h⟩ := h
  obtain ⟨pp, hpp⟩ := conL_var S (by rw [hcon]; rfl)
  obtain ⟨p, vs, ev, q1, q2, z, hpw, S1, bk⟩ := S.lendL hcon hpp
  cases ev
  obtain ⟨Inv, i0, turn, fin⟩ := h pp hpw
  refine ⟨.ref pp, hpp, pp, rfl, .inl ⟨⟨vs, SqL.of q1⟩, ?_⟩⟩
  have wk : Walk (Itl X.K pp) ds.length (fun H => SqL X.K H pp vs) (YAt vs) := by rw [← q2.length]; exact walk_list
  refine for_it wk (fun k σ' H' => ∃ ρ' Hf', SO X.K ⟨upd B.fr pp (.lst vs), Hf⟩ Hf' ρ' σ' H' ∧ Inv k ρ') ⟨_, Hf, S1, i0⟩ ?_ ?_ ?_
  · rintro k σ' H' hk ⟨ρ', Hf', S', _⟩
    exact SqL.of (S'.fr pp (.lst vs) upd_same).1
  · rintro k v σ' H2 H3 hk ⟨ρ', Hf', S', iv⟩ ⟨rfl, y⟩
    obtain ⟨d, hd, rd⟩ := q2.get y
    refine s2 _ Hf' ρ' σ' H3 v d _ _ S' (rd.same S'.up) (turn k d ρ' hd iv) fun ρ3 σ3 q3 S3 _ => ?_
    exact s3 _ Hf' ρ3 σ3 H3 { nx := Inv (k + 1), ct := Inv (k + 1), bk := rsB i (getS ρ i) pp D.nx, rt := fun r => rsB i (getS ρ i) pp (D.rt r), ex := fun C => rsB i (getS ρ i) pp (D.ex C) } _ S3
      ⟨fun ρ σ H Hf q S => ⟨ρ, Hf, S, q⟩, fun r ρ σ H v q e => L.rt _ _ _ _ _ q.2 (e.back bk q.1), fun ρ σ H Hf q S => L.nx _ _ _ _ q.2 (bk i _ _ _ _ S q.1), fun ρ σ H Hf q S => ⟨ρ, Hf, S, q⟩, fun C ρ σ H Hf q S => L.ex C _ σ H Hf q.2 (bk i _ _ _ _ S q.1)⟩ q3
  · rintro σ' H' ⟨ρ', Hf', S', iv⟩
    have q := fin ρ' iv
    exact L.nx _ _ _ _ q.2 (bk i _ _ _ _ S' q.1)

/-! ### comprehensions over it -/
theorem lc_core {K : PySem.W.Frag} {g : TG} {tt : TT} {te : TE} {gd : DG} {td : DT} {ed : DE} {ix vs : List Nat} (s2 : SemG K g gd ix) (s3 : SemT K W0 tt td) (s4 : Sem1 K W0 te ed) (hv : ∀ i ∈ ix, i ∈ vs)
    {B : Bs} {Hf1 H1 : Hp} {ρ1 : List Sl} {σ : L2.St} {items : List D} {J : It} {Y : Nat → Hp → V → Hp → Prop} {G : Hp → Prop} (S1 : SO K B Hf1 ρ1 σ H1) (z : items.length ≤ sizeLine) (wk : Walk J items.length G Y)
    (hG : ∀ H, Same Hf1 H → (∀ a o, B.fr a = some o → H a = some o) → G H)
    (hY : ∀ i H v H', i < items.length → Same Hf1 H → Y i H v H' → ∃ d, items[i]? = some d ∧ ((H' = H ∧ Rep K Hf1 v d) ∨ ∃ T vs ds, v = .ref T ∧ H T = none ∧ H' = upd H T (.tup vs) ∧ d = .tuple ds ∧ Reps K Hf1 vs ds ∧ ds.length ≤ sizeLine))
    {Q : VK} (Inv : Nat → List D → List Sl → Prop) (i0 : Inv 0 [] (nils ρ1 vs))
    (turn : ∀ i d acc ρ2, items[i]? = some d → Inv i acc ρ2 → gd d (nils ρ2 vs) fun ρ3 => td ρ3 (fun b ρ4 => if b = true then ed ρ4 (fun r ρ5 => frz r ρ5 fun y ρ6 => Inv (i + 1) (acc ++ [y]) (nils ρ6 vs)) noX else Inv (i + 1) acc (nils ρ4 vs)) noX)
    (hQ : ∀ acc ρ' H' v, Inv items.length acc ρ' → EV K B ρ' σ H' (.ow (.l acc)) v → Q v H') :
    ∀ DD, H1 DD = none → ∃ W : Nat → Nat → Hp → Prop, (∃ m, W 0 m (upd H1 DD (.lst []))) ∧ ∀ i m H, W i m H →
      (J.stop i H ∧ Q (.ref DD) H) ∨ (J.go i H ∧ ∃ Nx : Hp → Prop, (∀ H', Nx H' → ∃ m', m' < m ∧ W (i + 1) m' H') ∧ ∀ x H', J.yld i H x H' → g x (wipe σ vs) H' fun σ2 H2 => wipe σ2 vs = wipe σ vs ∧ tt σ2 H2 fun b H3 =>
        if b = true then te σ2 H3 fun y H4 => ∃ acc, H4 DD = some (.lst acc) ∧ acc.length < sizeLine ∧ Nx (upd H4 DD (.lst (acc ++ [y]))) else Nx H3) := by
  intro DD hD
  -- the new list DD is owned, foreign to the turns
  have nfD : Hf1 DD = none := S1.sub.free hD
  let Bt (acc : List V) : Bs := ⟨upd B.fr DD (.lst acc), Hf1⟩
  have frD : B.fr DD = none := by
    cases e : B.fr DD with
    | none => rfl
    | some o => have := (S1.fr DD o e).1; rw [hD] at this; cases this
  have grow : ∀ {acc acc' : List V} {Hf' H' : Hp} {ρ' : List Sl} {σ' : L2.St}, SO K (Bt acc) Hf' ρ' σ' H' → SO K (Bt acc') Hf' ρ' σ' (upd H' DD (.lst acc')) := by
    intro acc acc' Hf' H' ρ' σ' S'
    obtain ⟨fp, a1, a2, a3⟩ := S'.sl
    have nD : Hf' DD = none := (S'.fr DD (.lst acc) upd_same).2
    have ne : ∀ b ∈ fp, b ≠ DD := fun b hb e => by
      have := (a3 b hb).2
      rw [e] at this
      have q : (upd B.fr DD (.lst acc)) DD = none := this
      rw [upd_same] at q; cases q
    refine ⟨S'.up, fun b o e => ?_, fun b o e => ?_, fp, a1.mono (Same.refl _) fun b hb => upd_ne (ne b hb), a2, fun b hb => ⟨(a3 b hb).1, ?_⟩⟩
    · by_cases hb : b = DD
      · rw [hb, nD] at e; cases e
      · rw [upd_ne hb]; exact S'.sub _ _ e
    · by_cases hb : b = DD
      · subst hb
        have e : (upd B.fr b (.lst acc')) b = some o := e
        rw [upd_same] at e
        rw [upd_same]; exact ⟨e, nD⟩
      · have e : (upd B.fr DD (.lst acc')) b = some o := e
        rw [upd_ne hb] at e
        rw [upd_ne hb]
        refine S'.fr b o ?_
        show (upd B.fr DD (.lst acc)) b = some o
        rw [upd_ne hb]; exact e
    · have := (a3 b hb).2
      show (upd B.fr DD (.lst acc')) b = none
      rw [upd_ne (ne b hb)]
      have q : (upd B.fr DD (.lst acc)) b = none := this
      rw [upd_ne (ne b hb)] at q; exact q
  have start : SO K (Bt []) Hf1 ρ1 σ (upd H1 DD (.lst [])) := by
    obtain ⟨fp, a1, a2, a3⟩ := S1.sl
    have ne : ∀ b ∈ fp, b ≠ DD := fun b hb e => a1.dom b hb (by rw [e]; exact hD)
    refine ⟨Same.refl _, S1.sub.trans (same_upd hD), fun b o e => ?_, fp, a1.mono (Same.refl _) fun b hb => upd_ne (ne b hb), a2, fun b hb => ⟨(a3 b hb).1, ?_⟩⟩
    · by_cases hb : b = DD
      · subst hb
        have e : (upd B.fr b (.lst [])) b = some o := e
        rw [upd_same] at e
        rw [upd_same]; exact ⟨e, nfD⟩
      · have e : (upd B.fr DD (.lst [])) b = some o := e
        rw [upd_ne hb] at e
        rw [upd_ne hb]
        exact S1.fr b o e
    · show (upd B.fr DD (.lst [])) b = none
      rw [upd_ne (ne b hb)]; exact (a3 b hb).2
  refine lc_it wk (fun i H' => ∃ acc ds ρ' Hf', SO K (Bt acc) Hf' ρ' σ H' ∧ Reps K Hf' acc ds ∧ ds.length ≤ i ∧ Inv i ds ρ') ⟨[], [], nils ρ1 vs, Hf1, start.nilsD vs, .nil, Nat.le_refl _, i0⟩ ?_ ?_ ?_
  · rintro i H' hi ⟨acc, ds, ρ', Hf', S', _⟩
    exact hG H' (S'.up.trans S'.sub) fun a o e => by
      refine (S'.fr a o ?_).1
      show (upd B.fr DD (.lst acc)) a = some o
      rw [upd_ne (fun z => by rw [z, frD] at e; cases e)]; exact e
  · rintro i v H2 H3 hi ⟨acc, ds, ρ', Hf', S', r, hl, iv⟩ y
    obtain ⟨d, hd, hh⟩ := hY i H2 v H3 hi (S'.up.trans S'.sub) y
    have S'' : SO K (Bs.up (Bt acc) Hf1) Hf' ρ' σ H2 := S'
    obtain ⟨Hf2, S2, rd, m2⟩ := iter_item S'' hh
    have S2 : SO K (Bt acc) Hf2 ρ' σ H3 := S2
    have S3 := (S2.nils vs).raise
    have back : ∀ {acc' : List V} {ρ4 : List Sl} {σ3 : L2.St} {Hf4 H4 : Hp}, SO K ((Bt acc').up Hf2) Hf4 ρ4 σ3 H4 → wipe σ3 vs = wipe σ vs → SO K (Bt acc') Hf4 (DL.nils ρ4 vs) σ H4 := by
      intro acc' ρ4 σ3 Hf4 H4 S4 w
      have q := (S4.base (B := Bt acc') S2.up).nils vs
      rw [w] at q
      have q2 := q.unwipes
      rw [nils_nils] at q2
      exact q2
    refine s2 ((Bt acc).up Hf2) Hf2 _ _ H3 v d _ _ S3 rd (turn i d ds ρ' hd iv) fun ρ3 σ3 q3 S4 w => ?_
    have w : wipe σ3 vs = wipe σ vs := (w vs hv).trans (wipe_wipe σ vs)
    refine ⟨w, ?_⟩
    refine s3 ((Bt acc).up Hf2) Hf2 ρ3 σ3 H3 _ _ noX S4 q3 (fun b ρ4 H4 Hf4 q4 S5 => ?_) xl_no
    cases b with
    | false => exact ⟨acc, ds, _, Hf4, back S5 w, r.same (m2.trans S5.up), by omega, q4⟩
    | true =>
      refine s4 (((Bt acc).up Hf2).up Hf4) Hf4 ρ4 σ3 H4 _ _ noX S5.raise q4 (fun rr ρ5 H5 y q5 ev => ?_) xl_no
      obtain ⟨Hf6, d', ρ6, S6, r6, q6⟩ := ev.frz q5
      have m6 : Same Hf4 Hf6 := S6.up
      have S7 : SO K ((Bt acc).up Hf2) Hf6 ρ6 σ3 H5 := S6.base S5.up
      have S8 := back S7 w
      have la := r.length
      refine ⟨acc, (S8.fr DD (.lst acc) upd_same).1, by omega, acc ++ [y], ds ++ [d'], _, Hf6, grow S8, (r.same ((m2.trans S5.up).trans m6)).append (.cons r6 .nil), ?_, q6⟩
      rw [List.length_append, List.length_singleton]
      omega
  · rintro H' ⟨acc, ds, ρ', Hf', S', r, hl, iv⟩
    have cD := S'.fr DD (.lst acc) upd_same
    refine hQ _ ρ' H' _ iv ⟨Hf', ?_⟩
    obtain ⟨fp, a1, a2, a3⟩ := S'.sl
    have ne : ∀ b ∈ fp, b ≠ DD := fun b hb e => by
      have := (a3 b hb).2
      rw [e] at this
      have q : (upd B.fr DD (.lst acc)) DD = none := this
      rw [upd_same] at q; cases q
    refine ⟨S1.up.trans S'.up, S'.sub, fun b o e => S'.fr b o ?_, DD :: fp, ⟨_, _, [DD], fp, rfl, rfl, ⟨DD, rfl, rfl, by omega, acc, cD.1, r⟩, a1⟩, List.nodup_cons.mpr ⟨fun h => ne DD h rfl, a2⟩, fun b hb => ?_⟩
    · show (upd B.fr DD (.lst acc)) b = some o
      rw [upd_ne (fun z => by rw [z, frD] at e; cases e)]; exact e
    · rcases List.mem_cons.mp hb with rfl | hb
      · exact ⟨cD.2, frD⟩
      · refine ⟨(a3 b hb).1, ?_⟩
        have q : (upd B.fr DD (.lst acc)) b = none := (a3 b hb).2
        rw [upd_ne (ne b hb)] at q; exact q

def eLcB (i : Nat) (g : DG) (tt : DT) (te : DE) (vs : List Nat) : DE := fun ρ Q _ => ∃ ds, conL (getS ρ i) = some ds ∧ ∀ p, (∀ a c, getS ρ i = .pw a c → a = p) → ∃ Inv : Nat → List D → List Sl → Prop, Inv 0 [] (nils (setS ρ i (.xa p)) vs) ∧
  (∀ k d acc ρ2, ds[k]? = some d → Inv k acc ρ2 → g d (nils ρ2 vs) fun ρ3 => tt ρ3 (fun b ρ4 => if b = true then te ρ4 (fun r ρ5 => frz r ρ5 fun y ρ6 => Inv (k + 1) (acc ++ [y]) (nils ρ6 vs)) noX else Inv (k + 1) acc (nils ρ4 vs)) noX) ∧
  (∀ acc ρ2, Inv ds.length acc ρ2 → rsB i (getS ρ i) p (Q (.ow (.l acc))) ρ2)
theorem sem_lcB {i : Nat} {g : TG} {tt : TT} {te : TE} {gd : DG} {td : DT} {ed : DE} {ix vs : List Nat} (s2 : SemG X.K g gd ix) (s3 : SemT X.K W0 tt td) (s4 : Sem1 X.K W0 te ed) (hv : ∀ i ∈ ix, i ∈ vs) :
    Sem1 X.K W (tLc (iSeqW X.K (tVar i)) g tt te vs) (eLcB i gd td ed vs) := by
  intro B Hf ρ σ H Q Qd Ed S h hQ hE
  obtain ⟨ds, hcon, h⟩ := h
  obtain ⟨pp, hpp⟩ := conL_var S (by rw [hcon]; rfl)
  obtain ⟨p, us, ev, q1, q2, z, hpw, S1, bk⟩ := S.lendL hcon hpp
  cases ev
  obtain ⟨Inv, i0, turn, fin⟩ := h pp hpw
  refine ⟨.ref pp, hpp, pp, rfl, .inl ⟨⟨us, SqL.of q1⟩, ?_⟩⟩
  have wk : Walk (Itl X.K pp) ds.length (fun H => SqL X.K H pp us) (YAt us) := by rw [← q2.length]; exact walk_list
  refine lc_core s2 s3 s4 hv S1 z wk (fun H _ hf => SqL.of (hf pp (.lst us) upd_same)) (fun k H v H' hk e y => ?_) Inv i0 turn fun acc ρ' H' v iv e => ?_
  · obtain ⟨rfl, y⟩ := y
    obtain ⟨d, hd, rd⟩ := q2.get y
    exact ⟨d, hd, .inl ⟨rfl, rd⟩⟩
  · have q := fin acc ρ' iv
    exact hQ _ _ _ _ q.2 (e.back bk q.1)
theorem pd_lcB (i : Nat) {tg : Expr} {x : Str} {px : Pos} {elt : Expr} {ifs : List Expr} {scope : Scope} {own : List (Str × Nat)} {gd : DG} {td : DT} {ed : DE} {ix : List Nat} (hc : X.calm = true) (hN : X.N.Nodup) (ok : BlkOk X.N X.env.scope scope own)
    (hg : ∀ c : BlkI, PGD (blkX X scope c) tg gd ix) (ht : ∀ c : BlkI, PTsD (blkX X scope c) W0 ifs td) (he : ∀ c : BlkI, PD (blkX X scope c) W0 elt ed) (hv : ∀ i ∈ ix, i ∈ own.map (·.2) := by decide)
    (hNi : X.N[i]? = some x := by rfl) (hvi : Vis X.env.scope x := by first | exact Or.inl rfl | exact Or.inr (Or.inl rfl) | exact Or.inr (Or.inr rfl)) (hd : (x == ("__debug__" : Str)) = false := by decide) (hcd : (x == ("__classdict__" : Str)) = false := by decide)
    (hs : ∀ y, foldedSetIterable (.Name x px) X.env y = pure y := by intro _; rfl) : PD X W (.ListComp elt [⟨tg, .Name x px, ifs, 0⟩] scope pos) (eLcB i gd td ed (own.map (·.2))) := by
  obtain ⟨g, p2, s2⟩ := pg_all (K := X.K) (X := blkX X scope) (fun _ => rfl) hg
  obtain ⟨tt, p3, s3⟩ := pts_all (K := X.K) (X := blkX X scope) (fun _ => rfl) ht
  obtain ⟨te, p4, s4⟩ := pe_all (K := X.K) (X := blkX X scope) (fun _ => rfl) he
  exact ⟨_, pe_lc hc hN (pi_seqW (pv i hNi hvi hd hcd)) ok (fun s H C cl fp => p2 (s, H, C, cl, fp)) (fun s H C cl fp => p3 (s, H, C, cl, fp)) (fun s H C cl fp => p4 (s, H, C, cl, fp)) hs, sem_lcB s2 s3 s4 hv⟩
theorem psd_setLcB (j i : Nat) {tg : Expr} {x y : Str} {px py spos : Pos} {elt : Expr} {ifs : List Expr} {scope : Scope} {own : List (Str × Nat)} {gd : DG} {td : DT} {ed : DE} {ix : List Nat} (hc : X.calm = true) (hN : X.N.Nodup) (ok : BlkOk X.N X.env.scope scope own)
    (hg : ∀ c : BlkI, PGD (blkX X scope c) tg gd ix) (ht : ∀ c : BlkI, PTsD (blkX X scope c) W0 ifs td) (he : ∀ c : BlkI, PD (blkX X scope c) W0 elt ed)
    (hsw : swapsWith (.ListComp elt [⟨tg, .Name x px, ifs, 0⟩] scope pos) (some (.Name y py)) spos.line X.env = pure true) (hy : X.N[j]? = some y := by rfl) (hyl : X.env.scope.names.lookup y = some .local := by rfl) (hv : ∀ i ∈ ix, i ∈ own.map (·.2) := by decide)
    (hNi : X.N[i]? = some x := by rfl) (hvi : Vis X.env.scope x := by first | exact Or.inl rfl | exact Or.inr (Or.inl rfl) | exact Or.inr (Or.inr rfl)) (hd : (x == ("__debug__" : Str)) = false := by decide) (hcd : (x == ("__classdict__" : Str)) = false := by decide)
    (hs : ∀ y, foldedSetIterable (.Name x px) X.env y = pure y := by intro _; rfl) : PSD X W (.Assign [.Name y py] (.ListComp elt [⟨tg, .Name x px, ifs, 0⟩] scope pos) spos) (sSet j (eLcB i gd td ed (own.map (·.2)))) := by
  obtain ⟨g, p2, s2⟩ := pg_all (K := X.K) (X := blkX X scope) (fun _ => rfl) hg
  obtain ⟨tt, p3, s3⟩ := pts_all (K := X.K) (X := blkX X scope) (fun _ => rfl) ht
  obtain ⟨te, p4, s4⟩ := pe_all (K := X.K) (X := blkX X scope) (fun _ => rfl) he
  exact ⟨_, ps_setLc hc hN hy hyl hsw (pi_seqW (pv i hNi hvi hd hcd)) ok (fun s H C cl fp => p2 (s, H, C, cl, fp)) (fun s H C cl fp => p3 (s, H, C, cl, fp)) (fun s H C cl fp => p4 (s, H, C, cl, fp)) hs, sem_set (sem_lcB s2 s3 s4 hv)⟩
end
end DL
set_option Elab.async false
set_option linter.all false
set_option maxRecDepth 100000
set_option maxHeartbeats 1000000
/-! FLf: an owned list at a name is walked, and stays owned. -/
namespace FL
open PySem PySem.Spec PyProof.Rows L2 DL
section
variable {X : Cx} {W : WX} {pos : Pos} {cl : String → Addr}
theorem _root_.DL.PSD.or {st : Stmt} {t u : DS} (h : PSD X W st t) (k : PSD X W st u) : PSD X W st (fun D ρ => t D ρ ∨ u D ρ) := by
  obtain ⟨ts, p, s⟩ := h
  obtain ⟨us, q, r⟩ := k
  refine ⟨fun D σ H => ts D σ H ∨ us D σ H, ⟨fun pins s σ H D I h => h.elim (p.run pins s σ H D I) (q.run pins s σ H D I)⟩, ?_⟩
  intro B Hf ρ σ H D D' S L h
  exact h.imp (s B Hf ρ σ H D D' S L) (r B Hf ρ σ H D D' S L)
theorem _root_.DL.PD.or {e : Expr} {t u : DE} (h : PD X W e t) (k : PD X W e u) : PD X W e (fun ρ Q E => t ρ Q E ∨ u ρ Q E) := by
  obtain ⟨ts, p, s⟩ := h
  obtain ⟨us, q, r⟩ := k
  refine ⟨fun σ H Q => ts σ H Q ∨ us σ H Q, ⟨fun pins s σ H Q I h => h.elim (p.run pins s σ H Q I) (q.run pins s σ H Q I)⟩, ?_⟩
  intro B Hf ρ σ H Q Qd Ed S h hQ hE
  exact h.imp (fun h => s B Hf ρ σ H Q Qd Ed S h hQ hE) (fun h => r B Hf ρ σ H Q Qd Ed S h hQ hE)
theorem em_off {ad ad' : Nat → Addr} : ∀ (k : Nat) (ρ : List Zl) (i : Nat) (s : Sl), (∀ j, j ≠ k + i → ad' j = ad j) → setS (em ad' k ρ) i s = setS (em ad k ρ) i s
  | _, [], _, _, _ => rfl
  | k, z :: r, 0, s, h => by
    show s :: em ad' (k + 1) r = s :: em ad (k + 1) r
    congr 1
    have : ∀ (m : Nat) (r : List Zl), k < m → em ad' m r = em ad m r := by
      intro m r
      induction r generalizing m with
      | nil => intro _; rfl
      | cons z r ih =>
        intro hm
        show emS (ad' m) z :: em ad' (m + 1) r = emS (ad m) z :: em ad (m + 1) r
        rw [h m (by omega), ih (m + 1) (by omega)]
    exact this (k + 1) r (by omega)
  | k, z :: r, i + 1, s, h => by
    show emS (ad' k) z :: setS (em ad' (k + 1) r) i s = emS (ad k) z :: setS (em ad (k + 1) r) i s
    rw [h k (by omega), em_off (k + 1) r i s fun j hj => h j (by omega)]
def adU (ad : Nat → Addr) (i : Nat) (p : Addr) : Nat → Addr := fun j => if j = i then p else ad j
theorem em_xa {ad : Nat → Addr} {ρ : List Zl} {i : Nat} {p : Addr} : setS (em ad 0 ρ) i (.xa p) = em (adU ad i p) 0 (setZ ρ i .xa) := by
  rw [← em_off (ad := ad) (ad' := adU ad i p) 0 ρ i (.xa p) fun j hj => by unfold adU; rw [if_neg (by omega)]]
  rw [← setS_em0]
  show setS _ i (.xa p) = setS _ i (.xa (adU ad i p i))
  unfold adU
  rw [if_pos rfl]
theorem em_bk {ad : Nat → Addr} {ρ : List Zl} {i : Nat} {p : Addr} {s : Zl} : setS (em (adU ad i p) 0 ρ) i (emS (ad i) s) = em ad 0 (setZ ρ i s) := by
  rw [em_off (ad := ad) (ad' := adU ad i p) 0 ρ i _ fun j hj => by unfold adU; rw [if_neg (by omega)], setS_em0]
abbrev bkZ {α : Type} (i : Nat) (s0 : Zl) (r : Rs α) : Rs α := match r with
  | .ok o ρ' => (match getZ ρ' i with | .xa => .ok o (setZ ρ' i s0) | _ => .no)
  | .ex n ρ' => (match getZ ρ' i with | .xa => .ex n (setZ ρ' i s0) | _ => .no)
  | .no => .no
theorem bkZ_ok {α : Type} {i : Nat} {s0 : Zl} {o : α} {ρ' : List Zl} {ad : Nat → Addr} {p : Addr} {Q : α → List Sl → Prop} {E : XD} (h : (bkZ i s0 (.ok o ρ')).wp ad cl Q E) : rsB i (emS (ad i) s0) p (Q o) (em (adU ad i p) 0 ρ') := by
  show getS (em (adU ad i p) 0 ρ') i = .xa p ∧ Q o (setS (em (adU ad i p) 0 ρ') i (emS (ad i) s0))
  rw [em_bk, getS_em0]
  change Rs.wp ad cl (match getZ ρ' i with | .xa => Rs.ok o (setZ ρ' i s0) | _ => .no) Q E at h
  cases hz : getZ ρ' i with
  | xa =>
    rw [hz] at h
    refine ⟨?_, h⟩
    show Sl.xa (adU ad i p i) = _
    unfold adU; rw [if_pos rfl]
  | _ => rw [hz] at h; exact h.elim
theorem bkZ_ex {α : Type} {i : Nat} {s0 : Zl} {n : String} {ρ' : List Zl} {ad : Nat → Addr} {p : Addr} {Q : α → List Sl → Prop} {E : XD} (h : (bkZ (α := α) i s0 (.ex n ρ')).wp ad cl Q E) : rsB i (emS (ad i) s0) p (E (cl n)) (em (adU ad i p) 0 ρ') := by
  show getS (em (adU ad i p) 0 ρ') i = .xa p ∧ E (cl n) (setS (em (adU ad i p) 0 ρ') i (emS (ad i) s0))
  rw [em_bk, getS_em0]
  change Rs.wp ad cl (match getZ ρ' i with | .xa => Rs.ex n (setZ ρ' i s0) | _ => .no) Q E at h
  cases hz : getZ ρ' i with
  | xa =>
    rw [hz] at h
    refine ⟨?_, h⟩
    show Sl.xa (adU ad i p i) = _
    unfold adU; rw [if_pos rfl]
  | _ => rw [hz] at h; exact h.elim
/-- for over a name: an owned list stays owned -/
abbrev zForN (i : Nat) (g : XG) (body : XS) : XS := fun ρ => match conZ (getZ ρ i) with
  | some ds => bkZ i (getZ ρ i) (forF g body ds (setZ ρ i .xa))
  | none => zFor (xiSeq (xVar i)) g body ρ
theorem w_forN {i : Nat} {g : XG} {body : XS} : ∀ ρ D, wpS cl (zForN i g body) D ρ → sFor (wpO cl (xiSeq (xVar i))) (wpG g) (wpS cl body) D ρ ∨ sForB i (wpG g) (wpS cl body) D ρ := by
  rintro ρs Dn ⟨ad, ρ, rfl, h⟩
  unfold zForN at h
  cases hc : conZ (getZ ρ i) with
  | none => rw [hc] at h; exact .inl (w_for _ _ ⟨ad, ρ, rfl, h⟩)
  | some ds =>
    rw [hc] at h
    refine .inr ⟨ds, by rw [getS_em0, con_em]; exact hc, fun p hp => ?_⟩
    rw [getS_em0, em_xa]
    refine ⟨fun k ρs => ∃ ρz, ρs = em (adU ad i p) 0 ρz ∧ (bkZ i (getZ ρ i) (forF g body (ds.drop k) ρz)).wp ad cl (endK Dn) Dn.ex, ⟨_, rfl, h⟩, ?_, ?_⟩
    · rintro k d ρ2 hd ⟨ρz, rfl, h⟩
      rw [drop_at hd] at h
      unfold forF at h
      cases e : g d ρz with
      | none => rw [e] at h; exact h.elim
      | some ρ3 =>
        rw [e] at h
        refine ⟨adU ad i p, ρz, ρ3, rfl, e, adU ad i p, ρ3, rfl, ?_⟩
        dsimp only at h
        cases e2 : body ρ3 with
        | no => rw [e2] at h; exact h
        | ex n ρ4 => rw [e2] at h; exact bkZ_ex h
        | ok o ρ4 =>
          rw [e2] at h
          cases o with
          | nx => exact ⟨ρ4, rfl, h⟩
          | ct => exact ⟨ρ4, rfl, h⟩
          | bk => exact bkZ_ok (o := So.nx) h
          | rt r => exact bkZ_ok (o := So.rt r) h
    · rintro ρ2 ⟨ρz, rfl, h⟩
      rw [List.drop_length] at h
      exact bkZ_ok (o := So.nx) h
theorem pxs_forN (i : Nat) {tg : Expr} {x : Str} {px : Pos} {body : List Stmt} {g : XG} {ix : List Nat} {b : XS} (hp : PassesOwn (model X.prog X.w) X.A X.env X.xe) (hc : X.calm = true) (hg : PGD X tg (wpG g) ix) (hb : PXB X cl W body b)
    (hN : X.N[i]? = some x := by rfl) (hv : Vis X.env.scope x := by first | exact Or.inl rfl | exact Or.inr (Or.inl rfl) | exact Or.inr (Or.inr rfl)) (hd : (x == ("__debug__" : Str)) = false := by decide)
    (hcd : (x == ("__classdict__" : Str)) = false := by decide) (hs : ∀ y, foldedSetIterable (.Name x px) X.env y = pure y := by intro _; rfl) : PXS X cl W (.For tg (.Name x px) body [] pos) (zForN i g b) :=
  PSD.mono (PSD.or (psd_for hp hc (pxi_seq (px_var (cl := cl) i hN hv hd hcd)) hg hb hs) (psd_forB i hp hc hg hb hN hv hd hcd hs)) w_forN
/-- a comprehension over a name -/
abbrev xLcN (i : Nat) (g : XG) (tt : XM Bool) (te : XM VR) (vs : List Nat) : XM VR := fun ρ => match conZ (getZ ρ i) with
  | some ds => bkZ i (getZ ρ i) (match lcF g tt te vs ds (nilsZ (setZ ρ i .xa) vs) with
    | .ok ys ρ2 => .ok (.ow (.l ys)) ρ2
    | _ => .no)
  | none => xLc (xiSeq (xVar i)) g tt te vs ρ
theorem w_lcN {i : Nat} {g : XG} {tt : XM Bool} {te : XM VR} {vs : List Nat} : ∀ ρ Q E, wpO cl (xLcN i g tt te vs) ρ Q E → eLc (wpO cl (xiSeq (xVar i))) (wpG g) (wpO cl tt) (wpO cl te) vs ρ Q E ∨ eLcB i (wpG g) (wpO cl tt) (wpO cl te) vs ρ Q E := by
  rintro ρs Q E ⟨ad, ρ, rfl, h⟩
  unfold xLcN at h
  cases hc : conZ (getZ ρ i) with
  | none => rw [hc] at h; exact .inl (w_lc _ _ _ ⟨ad, ρ, rfl, h⟩)
  | some ds =>
    rw [hc] at h
    refine .inr ⟨ds, by rw [getS_em0, con_em]; exact hc, fun p hp => ?_⟩
    rw [getS_em0, em_xa, nils_em]
    dsimp only at h
    cases e0 : lcF g tt te vs ds (nilsZ (setZ ρ i .xa) vs) with
    | no => rw [e0] at h; exact h.elim
    | ex _ _ => rw [e0] at h; exact h.elim
    | ok ys0 ρf0 =>
      rw [e0] at h
      refine ⟨fun k acc ρs => ∃ ρz ys ρf, ρs = em (adU ad i p) 0 ρz ∧ lcF g tt te vs (ds.drop k) ρz = .ok ys ρf ∧ (bkZ i (getZ ρ i) (.ok (VR.ow (.l (acc ++ ys))) ρf)).wp ad cl Q E, ⟨_, ys0, ρf0, rfl, e0, h⟩, ?_, ?_⟩
      · rintro k d acc ρ2 hd ⟨ρz, ys, ρf, rfl, e, q⟩
        rw [drop_at hd] at e
        unfold lcF at e
        rw [nils_em]
        cases e1 : g d (nilsZ ρz vs) with
        | none => rw [e1] at e; cases e
        | some ρ3 =>
          rw [e1] at e
          refine ⟨adU ad i p, _, ρ3, rfl, e1, adU ad i p, ρ3, rfl, ?_⟩
          dsimp only at e
          cases e2 : tt ρ3 with
          | no => rw [e2] at e; cases e
          | ex _ _ => rw [e2] at e; cases e
          | ok b ρ4 =>
            rw [e2] at e
            cases b with
            | false =>
              show ∃ _, _
              rw [nils_em]
              exact ⟨_, ys, ρf, rfl, e, q⟩
            | true =>
              dsimp only at e
              refine (show wpO cl te (em (adU ad i p) 0 ρ4) _ _ from ⟨adU ad i p, ρ4, rfl, ?_⟩)
              cases e3 : te ρ4 with
              | no => rw [e3] at e; cases e
              | ex _ _ => rw [e3] at e; cases e
              | ok rv ρ5 =>
                rw [e3] at e
                dsimp only at e ⊢
                cases e4 : frzZ rv ρ5 with
                | none => rw [e4] at e; cases e
                | some pq =>
                  obtain ⟨y, ρ6⟩ := pq
                  rw [e4] at e
                  refine frz_em (Q := fun y ρ' => ∃ ρz ys ρf, nils ρ' vs = em (adU ad i p) 0 ρz ∧ lcF g tt te vs (List.drop (k + 1) ds) ρz = Rs.ok ys ρf ∧ (bkZ i (getZ ρ i) (.ok (VR.ow (.l (acc ++ [y] ++ ys))) ρf)).wp ad cl Q E) e4 ?_
                  rw [nils_em]
                  dsimp only at e
                  cases e5 : lcF g tt te vs (ds.drop (k + 1)) (nilsZ ρ6 vs) with
                  | no => rw [e5] at e; cases e
                  | ex _ _ => rw [e5] at e; cases e
                  | ok zs ρ7 =>
                    rw [e5] at e
                    cases e
                    exact ⟨_, zs, _, rfl, e5, by rw [List.append_assoc]; exact q⟩
      · rintro acc ρ2 ⟨ρz, ys, ρf, rfl, e, q⟩
        rw [List.drop_length] at e
        cases e
        rw [List.append_nil] at q
        exact bkZ_ok (o := VR.ow (.l acc)) q
theorem w_set_or {i : Nat} {x : XM VR} {t u : DE} (h : ∀ ρ Q E, wpO cl x ρ Q E → t ρ Q E ∨ u ρ Q E) : ∀ ρ D, wpS cl (zSet i x) D ρ → sSet i t D ρ ∨ sSet i u D ρ := by
  rintro ρs D ⟨ad, ρ, rfl, hh⟩
  exact h _ _ _ (wpI (wp_bind hh _ fun r ρ1 hh => asg_wp hh))
theorem _root_.DL.PCD.or {e : List Expr} {t u : DC} (h : PCD X W e t) (k : PCD X W e u) : PCD X W e (fun ρ Q E => t ρ Q E ∨ u ρ Q E) := by
  obtain ⟨ts, p, s⟩ := h
  obtain ⟨us, q, r⟩ := k
  refine ⟨fun σ H Q => ts σ H Q ∨ us σ H Q, ⟨fun pos pins s σ H Q I h => h.elim (p.run pos pins s σ H Q I) (q.run pos pins s σ H Q I)⟩, ?_⟩
  intro B Hf ρ σ H Q Qd Ed S h hQ hE
  exact h.imp (fun h => s B Hf ρ σ H Q Qd Ed S h hQ hE) (fun h => r B Hf ρ σ H Q Qd Ed S h hQ hE)
/-- an argument: an owned list at a name is lent, all else is kept -/
abbrev xcAn (x : XM VR) (xs : XM (List Ag)) : XM (List Ag) := fun ρ => match x ρ with
  | .ok (.bw i) ρ1 => (xs ρ1).bind fun ags ρ2 => .ok (.bw i :: ags) ρ2
  | _ => xcFz x xs ρ
theorem pxc_an {e : Expr} {es : List Expr} {x : XM VR} {xs : XM (List Ag)} (he : PX X cl W e x) (ha : PXC X cl W es xs) (hs : starEach (e :: es) X.env = (false, eval e X.env) :: starEach es X.env := by rfl) : PXC X cl W (e :: es) (xcAn x xs) :=
  PCD.mono (PCD.or (pxc_fz he ha hs) (pxc_bw he ha hs)) (by
    rintro ρs Q E ⟨ad, ρ, rfl, h⟩
    unfold xcAn at h
    split at h
    · rename_i i ρ1 e
      refine .inr ⟨ad, ρ, rfl, ?_⟩
      unfold xcBw
      rw [e]; exact h
    · exact .inl ⟨ad, ρ, rfl, h⟩)
end
end FL
set_option Elab.async false
set_option linter.all false
set_option maxRecDepth 100000
set_option maxHeartbeats 4000000
namespace FP
open PySem PySem.Spec PyProof.Rows L2 DL FL
noncomputable def x_is_integer : XS :=
  (zRet (xAndE (xIs isInt (xVar 0)) (xNotE (xIs isBool (xVar 0)))))
noncomputable def F_is_integer : XF := runD x_is_integer 0
noncomputable def x_is_from : XS :=
  (zRet (xAndE (xCall F_is_integer (xcFz (xVar 1) xcNil)) (xOp yGe (xVar 1) (xVar 0))))
noncomputable def F_is_from : XF := runD x_is_from 0
noncomputable def x_is_between : XS :=
  (zRet (xAndE (xCall F_is_integer (xcFz (xVar 1) xcNil)) (xChain yLe yLe (xVar 0) (xVar 1) (xVar 2))))
noncomputable def F_is_between : XF := runD x_is_between 0
noncomputable def x_is_index : XS :=
  (zRet (xCall F_is_between (xcFz (xC (.int 0)) (xcFz (xVar 1) (xcFz (xOp ySub (xVar 0) (xC (.int 1))) xcNil)))))
noncomputable def F_is_index : XF := runD x_is_index 0
noncomputable def x_is_bound : XS :=
  (zSeq (zIf (xOr (xNot (xB (xIs isTuple (xVar 1)))) (xOr (xB (xOp (yEq true) (xCB yLen (xaCons (xVar 1) xaNil)) (xC (.int 3)))) (xNot (xB (xCall F_is_integer (xcFz (xOp yIx (xVar 1) (xC (.int 2))) xcNil)))))) (zRet (xC (.bool false))) zNext)
  (zRet (xAndE (xCall F_is_index (xcFz (xVar 0) (xcFz (xOp yIx (xVar 1) (xC (.int 0))) xcNil))) (xAndE (xCall F_is_index (xcFz (xVar 0) (xcFz (xOp yIx (xVar 1) (xC (.int 1))) xcNil))) (xOp (yEq true) (xOp yIx (xVar 1) (xC (.int 0))) (xOp yIx (xVar 1) (xC (.int 1))))))))
noncomputable def F_is_bound : XF := runD x_is_bound 0
noncomputable def x_is_system_form_c1 : XM VR :=
  (xCall F_is_bound (xcFz (xOp yIx (xVar 0) (xC (.int 0))) (xcFz (xVar 1) xcNil)))
noncomputable def x_is_system_form : XS :=
  (zSeq (zIf (xOr (xNot (xB (xIs isTuple (xVar 0)))) (xOr (xB (xOp (yEq true) (xCB yLen (xaCons (xVar 0) xaNil)) (xC (.int 2)))) (xOr (xNot (xB (xCall F_is_from (xcFz (xC (.int 1)) (xcFz (xOp yIx (xVar 0) (xC (.int 0))) xcNil))))) (xNot (xB (xIs isTuple (xOp yIx (xVar 0) (xC (.int 1))))))))) (zRet (xC (.bool false))) zNext)
  (zRet (xCB yAll (xaCons (xLc (xiSeq (xOp yIx (xVar 0) (xC (.int 1)))) (yN 1) xYes (x_is_system_form_c1) [1]) xaNil))))
noncomputable def F_is_system_form : XF := runD x_is_system_form 1
noncomputable def x_has_moments_c1 : XM VR :=
  (xCall F_is_integer (xcFz (xVar 2) xcNil))
noncomputable def x_has_moments : XS :=
  (zSeq (zIf (xOr (xNot (xB (xIs isTuple (xVar 1)))) (xOr (xB (xOp (yEq true) (xCB yLen (xaCons (xVar 1) xaNil)) (xOp yIx (xVar 0) (xC (.int 0))))) (xNot (xB (xCB yAll (xaCons (xLc (xiSeq (xVar 1)) (yN 2) xYes (x_has_moments_c1) [2]) xaNil)))))) (zRet (xC (.bool false))) zNext)
  (zRet (xOp (yEq false) (xOp yIx (xVar 1) (xC (.int 0))) (xC (.int 0)))))
noncomputable def F_has_moments : XF := runD x_has_moments 1
noncomputable def x_keeps_bound : XS :=
  (zSeq (zAsg (xVar 1) (yT (ysCons (yN 2) (ysCons (yN 3) (ysCons (yN 4) ysNil)))))
  (zRet (xOp yLe (xOp ySub (xOp yIx (xVar 0) (xVar 2)) (xOp yIx (xVar 0) (xVar 3))) (xVar 4))))
noncomputable def F_keeps_bound : XF := runD x_keeps_bound 3
noncomputable def x_is_world_of_c1 : XM VR :=
  (xCall F_keeps_bound (xcFz (xVar 1) (xcFz (xVar 2) xcNil)))
noncomputable def x_is_world_of : XS :=
  (zRet (xAndE (xCall F_has_moments (xcFz (xVar 0) (xcFz (xVar 1) xcNil))) (xCB yAll (xaCons (xLc (xiSeq (xOp yIx (xVar 0) (xC (.int 1)))) (yN 2) xYes (x_is_world_of_c1) [2]) xaNil))))
noncomputable def F_is_world_of : XF := runD x_is_world_of 1
noncomputable def x_check_system : XS :=
  (zIf (xNot (xB (xCall F_is_system_form (xcFz (xVar 0) xcNil)))) (zRaise "InvalidSystem") zNext)
noncomputable def F_check_system : XF := runD x_check_system 0
noncomputable def x_check_world : XS :=
  (zIf (xNot (xB (xCall F_is_world_of (xcFz (xVar 0) (xcFz (xVar 1) xcNil))))) (zRaise "InvalidWorld") zNext)
noncomputable def F_check_world : XF := runD x_check_world 0
noncomputable def x_is_world : XS :=
  (zSeq (zDrop (xCall F_check_system (xcFz (xVar 0) xcNil)))
  (zRet (xCall F_is_world_of (xcFz (xVar 0) (xcFz (xVar 1) xcNil)))))
noncomputable def F_is_world : XF := runD x_is_world 0
noncomputable def x_check_worlds : XS :=
  (zSeq (zDrop (xCall F_check_system (xcFz (xVar 0) xcNil)))
  (zSeq (zDrop (xCall F_check_world (xcFz (xVar 0) (xcFz (xVar 1) xcNil))))
  (zDrop (xCall F_check_world (xcFz (xVar 0) (xcFz (xVar 2) xcNil))))))
noncomputable def F_check_worlds : XF := runD x_check_worlds 0
noncomputable def x_lesser_c1 : XM VR :=
  (xCB yMin (xaCons (xVar 3) (xaCons (xVar 4) xaNil)))
noncomputable def x_lesser : XS :=
  (zSeq (zDrop (xCall F_check_worlds (xcFz (xVar 0) (xcFz (xVar 1) (xcFz (xVar 2) xcNil)))))
  (zRet (xCB yTuple (xaCons (xLc (xiZip (xfCons (xVar 1) (xfCons (xVar 2) xfNil))) (yT (ysCons (yN 3) (ysCons (yN 4) ysNil))) xYes (x_lesser_c1) [3, 4]) xaNil))))
noncomputable def F_lesser : XF := runD x_lesser 2
noncomputable def x_greater_c1 : XM VR :=
  (xCB yMax (xaCons (xVar 3) (xaCons (xVar 4) xaNil)))
noncomputable def x_greater : XS :=
  (zSeq (zDrop (xCall F_check_worlds (xcFz (xVar 0) (xcFz (xVar 1) (xcFz (xVar 2) xcNil)))))
  (zRet (xCB yTuple (xaCons (xLc (xiZip (xfCons (xVar 1) (xfCons (xVar 2) xfNil))) (yT (ysCons (yN 3) (ysCons (yN 4) ysNil))) xYes (x_greater_c1) [3, 4]) xaNil))))
noncomputable def F_greater : XF := runD x_greater 2
noncomputable def x_greatest_rise_c1 : XM VR :=
  (xOp ySub (xVar 3) (xVar 2))
noncomputable def x_greatest_rise : XS :=
  (zRet (xCB yMax (xaCons (xOp yAdd (xLst (xfCons (xC (.int 0)) xfNil)) (xLc (xiZip (xfCons (xVar 0) (xfCons (xVar 1) xfNil))) (yT (ysCons (yN 2) (ysCons (yN 3) ysNil))) xYes (x_greatest_rise_c1) [2, 3])) xaNil)))
noncomputable def F_greatest_rise : XF := runD x_greatest_rise 2
noncomputable def x_moves_between : XS :=
  (zSeq (zDrop (xCall F_check_worlds (xcFz (xVar 0) (xcFz (xVar 1) (xcFz (xVar 2) xcNil)))))
  (zRet (xOp yAdd (xCall F_greatest_rise (xcFz (xVar 1) (xcFz (xVar 2) xcNil))) (xCall F_greatest_rise (xcFz (xVar 2) (xcFz (xVar 1) xcNil))))))
noncomputable def F_moves_between : XF := runD x_moves_between 0
noncomputable def x_moved_up_c1 : XM VR :=
  (xOp yAdd (xVar 3) (xCB yInt (xaCons (xOp (yEq false) (xOp ySub (xVar 4) (xVar 3)) (xVar 2)) xaNil)))
noncomputable def x_moved_up : XS :=
  (zRet (xCB yTuple (xaCons (xLc (xiZip (xfCons (xVar 0) (xfCons (xVar 1) xfNil))) (yT (ysCons (yN 3) (ysCons (yN 4) ysNil))) xYes (x_moved_up_c1) [3, 4]) xaNil)))
noncomputable def F_moved_up : XF := runD x_moved_up 2
noncomputable def x_moved_down_c1 : XM VR :=
  (xOp ySub (xVar 3) (xCB yInt (xaCons (xOp (yEq false) (xOp ySub (xVar 3) (xVar 4)) (xVar 2)) xaNil)))
noncomputable def x_moved_down : XS :=
  (zRet (xCB yTuple (xaCons (xLc (xiZip (xfCons (xVar 0) (xfCons (xVar 1) xfNil))) (yT (ysCons (yN 3) (ysCons (yN 4) ysNil))) xYes (x_moved_down_c1) [3, 4]) xaNil)))
noncomputable def F_moved_down : XF := runD x_moved_down 2
noncomputable def x_walk_b1 : XM So :=
  (zDrop (xMt 3 fAppend (xfCons (xCall F_moved_down (xcFz (xOp yIx (xVar 3) (xUn yNeg (xC (.int 1)))) (xcFz (xVar 2) (xcFz (xVar 5) xcNil)))) xfNil)))
noncomputable def x_walk_b2 : XM So :=
  (zDrop (xMt 3 fAppend (xfCons (xCall F_moved_up (xcFz (xOp yIx (xVar 3) (xUn yNeg (xC (.int 1)))) (xcFz (xVar 2) (xcFz (xVar 4) xcNil)))) xfNil)))
noncomputable def x_walk : XS :=
  (zSeq (zDrop (xCall F_check_worlds (xcFz (xVar 0) (xcFz (xVar 1) (xcFz (xVar 2) xcNil)))))
  (zSeq (zSet 3 (xLst (xfCons (xVar 1) xfNil)))
  (zSeq (zFor (xiRg (xaCons (xCall F_greatest_rise (xcFz (xVar 1) (xcFz (xVar 2) xcNil))) (xaCons (xC (.int 0)) (xaCons (xUn yNeg (xC (.int 1))) xaNil)))) (yN 4) (x_walk_b2))
  (zSeq (zFor (xiRg (xaCons (xCall F_greatest_rise (xcFz (xVar 2) (xcFz (xVar 1) xcNil))) (xaCons (xC (.int 0)) (xaCons (xUn yNeg (xC (.int 1))) xaNil)))) (yN 5) (x_walk_b1))
  (zRet (xVar 3))))))
noncomputable def F_walk : XF := runD x_walk 3
noncomputable def x__law_urn : XS :=
  (zSeq (zSet 2 (xIf (xB (xOp yLt (xVar 1) (xCB yLen (xaCons (xVar 0) xaNil)))) (xOp yIx (xVar 0) (xVar 1)) (xOp yAdd (xOp yMul (xC (.int 53)) (xVar 1)) (xC (.int 29)))))
  (zRet (xLst (xfCons (xCB yMax (xaCons (xC (.int 0)) (xaCons (xOp ySub (xCB yAbs (xaCons (xVar 2) xaNil)) (xOp yPow (xC (.int 10)) (xC (.int 18)))) xaNil))) (xfCons (xOp yAdd (xOp yAdd (xOp yMul (xOp yMod (xCB yInt (xaCons (xVar 2) xaNil)) (xOp yAdd (xOp yPow (xC (.int 10)) (xC (.int 26))) (xC (.int 67)))) (xC (.int 5))) (xOp yMul (xC (.int 2)) (xVar 1))) (xC (.int 1))) (xfCons (xC (.int 0)) xfNil))))))
noncomputable def F__law_urn : XF := runD x__law_urn 1
noncomputable def x__law_pick : XS :=
  (zSeq (zIf (xB (xOp yGt (xOp yIx (xVar 0) (xC (.int 0))) (xC (.int 0)))) (zSeq (zSet 3 (xOp yMod (xCB yInt (xaCons (xOp yIx (xVar 0) (xC (.int 0))) xaNil)) (xVar 1)))
  (zSeq (zSt 0 (xOp yDiv (xOp yIx (xVar 0) (xC (.int 0))) (xVar 1)) (xC (.int 0)))
  (zRet (xVar 3)))) zNext)
  (zSeq (zSt 0 (xOp yAdd (xOp yIx (xVar 0) (xC (.int 2))) (xC (.int 1))) (xC (.int 2)))
  (zSeq (zSet 2 (xOp yMod (xOp yPow (xCB yInt (xaCons (xOp yAdd (xOp yIx (xVar 0) (xC (.int 1))) (xOp yMul (xC (.int 90001)) (xOp yIx (xVar 0) (xC (.int 2))))) xaNil)) (xC (.int 2))) (xOp yAdd (xOp yPow (xC (.int 10)) (xC (.int 31))) (xC (.int 33)))))
  (zSeq (zSet 2 (xOp yMod (xOp yPow (xCB yInt (xaCons (xOp yAdd (xVar 2) (xOp yMul (xC (.int 50021)) (xOp yIx (xVar 0) (xC (.int 2))))) xaNil)) (xC (.int 3))) (xOp yAdd (xOp yPow (xC (.int 10)) (xC (.int 33))) (xC (.int 61)))))
  (zRet (xOp yMod (xCB yInt (xaCons (xOp yDiv (xVar 2) (xC (.int 262144))) xaNil)) (xVar 1)))))))
noncomputable def F__law_pick : XF := runD x__law_pick 2
noncomputable def x__law_reach : XS :=
  (zSeq (zSet 1 (xLst (xfCons (xCall F__law_pick (xcAn (xVar 0) (xcFz (xC (.int 12)) xcNil))) (xfCons (xCall F__law_pick (xcAn (xVar 0) (xcFz (xC (.int 12)) xcNil))) (xfCons (xOp yAdd (xOp yMul (xCall F__law_pick (xcAn (xVar 0) (xcFz (xOp yPow (xC (.int 10)) (xC (.int 6))) xcNil))) (xOp yPow (xC (.int 10)) (xC (.int 23)))) (xCall F__law_pick (xcAn (xVar 0) (xcFz (xC (.int 12)) xcNil)))) xfNil)))))
  (zSeq (zSet 2 (xOp yIx (xVar 1) (xCall F__law_pick (xcAn (xVar 0) (xcFz (xC (.int 3)) xcNil)))))
  (zRet (xOp yIx (xLst (xfCons (xVar 2) (xfCons (xUn yNeg (xVar 2)) xfNil))) (xCall F__law_pick (xcAn (xVar 0) (xcFz (xC (.int 2)) xcNil)))))))
noncomputable def F__law_reach : XF := runD x__law_reach 2
noncomputable def x__law_frame_b1 : XM So :=
  (zIf (xB (xOp yGt (xVar 1) (xC (.int 1)))) (zSeq (zSet 6 (xCall F__law_pick (xcAn (xVar 0) (xcFz (xVar 1) xcNil))))
  (zSeq (zSet 7 (xOp yMod (xCB yInt (xaCons (xOp yAdd (xOp yAdd (xVar 6) (xC (.int 1))) (xCall F__law_pick (xcAn (xVar 0) (xcFz (xOp ySub (xVar 1) (xC (.int 1))) xcNil)))) xaNil)) (xVar 1)))
  (zSeq (zSet 8 (xOp yIx (xLst (xfCons (xC (.int 0)) (xfCons (xCall F__law_pick (xcAn (xVar 0) (xcFz (xC (.int 4)) xcNil))) (xfCons (xCall F__law_pick (xcAn (xVar 0) (xcFz (xC (.int 30)) xcNil))) xfNil)))) (xCall F__law_pick (xcAn (xVar 0) (xcFz (xC (.int 3)) xcNil)))))
  (zDrop (xMt 4 fAppend (xfCons (xTup (xfCons (xVar 6) (xfCons (xVar 7) (xfCons (xOp yAdd (xOp ySub (xOp yIx (xVar 3) (xVar 6)) (xOp yIx (xVar 3) (xVar 7))) (xVar 8)) xfNil)))) xfNil)))))) zNext)
noncomputable def x__law_frame_c2 : XM VR :=
  (xCall F__law_reach (xcAn (xVar 0) xcNil))
noncomputable def x__law_frame : XS :=
  (zSeq (zSet 3 (xCB yTuple (xaCons (xOp yAdd (xLst (xfCons (xC (.int 0)) xfNil)) (xLc (xiRg (xaCons (xOp ySub (xVar 1) (xC (.int 1))) xaNil)) (yN 9) xYes (x__law_frame_c2) [9])) xaNil)))
  (zSeq (zSet 4 (xLst xfNil))
  (zSeq (zFor (xiRg (xaCons (xCall F__law_pick (xcAn (xVar 0) (xcFz (xOp yAdd (xVar 2) (xC (.int 1))) xcNil))) xaNil)) (yN 5) (x__law_frame_b1))
  (zRet (xTup (xfCons (xTup (xfCons (xVar 1) (xfCons (xCB yTuple (xaCons (xVar 4) xaNil)) xfNil))) (xfCons (xVar 3) xfNil)))))))
noncomputable def F__law_frame : XF := runD x__law_frame 7
noncomputable def x__law_whole : XS :=
  (zRet (xAndE (xIs isInt (xVar 0)) (xNotE (xIs isBool (xVar 0)))))
noncomputable def F__law_whole : XF := runD x__law_whole 0
noncomputable def x__law_moments_q1 : XM Bool :=
  (xNot (xB (xCall F__law_whole (xcFz (xVar 2) xcNil))))
noncomputable def x__law_moments_c2 : XM VR :=
  (xVar 2)
noncomputable def x__law_moments : XS :=
  (zSeq (zIf (xOr (xNot (xB (xIs isTuple (xVar 1)))) (xB (xOp (yEq true) (xCB yLen (xaCons (xVar 1) xaNil)) (xOp yIx (xVar 0) (xC (.int 0)))))) (zRet (xC (.bool false))) zNext)
  (zRet (xAndE (xOp (yEq false) (xLc (xiSeq (xVar 1)) (yN 2) (x__law_moments_q1) (x__law_moments_c2) [2]) (xLst xfNil)) (xOp (yEq false) (xOp yIx (xVar 1) (xC (.int 0))) (xC (.int 0))))))
noncomputable def F__law_moments : XF := runD x__law_moments 1
noncomputable def x__law_keeps_q1 : XM Bool :=
  (xB (xOp yGt (xOp ySub (xOp yIx (xVar 1) (xOp yIx (xVar 2) (xC (.int 0)))) (xOp yIx (xVar 1) (xOp yIx (xVar 2) (xC (.int 1))))) (xOp yIx (xVar 2) (xC (.int 2)))))
noncomputable def x__law_keeps_c2 : XM VR :=
  (xVar 2)
noncomputable def x__law_keeps : XS :=
  (zRet (xOp (yEq false) (xLc (xiSeq (xOp yIx (xVar 0) (xC (.int 1)))) (yN 2) (x__law_keeps_q1) (x__law_keeps_c2) [2]) (xLst xfNil)))
noncomputable def F__law_keeps : XF := runD x__law_keeps 1
noncomputable def x__law_held_b1 : XM So :=
  (zSet 1 (xOp yAdd (xVar 1) (xLst (xfCons (xTup (xfCons (xVar 2) (xfCons (xC (.int 0)) (xfCons (xOp yAdd (xOp yIx (xVar 4) (xVar 2)) (xCall F__law_pick (xcAn (xVar 0) (xcFz (xC (.int 10)) xcNil)))) xfNil)))) (xfCons (xTup (xfCons (xC (.int 0)) (xfCons (xVar 2) (xfCons (xOp ySub (xCall F__law_pick (xcAn (xVar 0) (xcFz (xC (.int 10)) xcNil))) (xOp yIx (xVar 4) (xVar 2))) xfNil)))) xfNil)))))
noncomputable def x__law_held : XS :=
  (zSeq (zAsg (xCall F__law_frame (xcAn (xVar 0) (xcFz (xOp yAdd (xC (.int 1)) (xCall F__law_pick (xcAn (xVar 0) (xcFz (xC (.int 6)) xcNil)))) (xcFz (xC (.int 8)) xcNil)))) (yT (ysCons (yN 3) (ysCons (yN 4) ysNil))))
  (zSeq (zSet 1 (xCB yList (xaCons (xOp yIx (xVar 3) (xC (.int 1))) xaNil)))
  (zSeq (zFor (xiRg (xaCons (xC (.int 1)) (xaCons (xOp yIx (xVar 3) (xC (.int 0))) xaNil))) (yN 2) (x__law_held_b1))
  (zRet (xTup (xfCons (xTup (xfCons (xOp yIx (xVar 3) (xC (.int 0))) (xfCons (xCB yTuple (xaCons (xVar 1) xaNil)) xfNil))) (xfCons (xVar 4) xfNil)))))))
noncomputable def F__law_held : XF := runD x__law_held 4
noncomputable def x__law_other_b1 : XM So :=
  (zIf (xB (xOp yGt (xOp yIx (xVar 1) (xC (.int 0))) (xC (.int 1)))) (zSeq (zSet 5 (xOp yAdd (xC (.int 1)) (xCall F__law_pick (xcAn (xVar 0) (xcFz (xOp ySub (xOp yIx (xVar 1) (xC (.int 0))) (xC (.int 1))) xcNil)))))
  (zSeq (zSet 6 (xOp yIx (xLst (xfCons (xC (.int 1)) (xfCons (xUn yNeg (xC (.int 1))) (xfCons (xC (.int 3)) (xfCons (xUn yNeg (xC (.int 2))) xfNil))))) (xCall F__law_pick (xcAn (xVar 0) (xcFz (xC (.int 4)) xcNil)))))
  (zSeq (zSet 7 (xOp yAdd (xOp yAdd (xSl (xVar 3) xoNone (xoSome (xVar 5))) (xLst (xfCons (xOp yAdd (xOp yIx (xVar 3) (xVar 5)) (xVar 6)) xfNil))) (xSl (xVar 3) (xoSome (xOp yAdd (xVar 5) (xC (.int 1)))) xoNone)))
  (zIf (xB (xCall F__law_keeps (xcFz (xVar 1) (xcFz (xVar 7) xcNil)))) (zSet 3 (xVar 7)) zNext)))) zNext)
noncomputable def x__law_other : XS :=
  (zSeq (zSet 3 (xCB yList (xaCons (xVar 2) xaNil)))
  (zSeq (zFor (xiRg (xaCons (xOp yMul (xC (.int 2)) (xOp yIx (xVar 1) (xC (.int 0)))) xaNil)) (yN 4) (x__law_other_b1))
  (zRet (xCB yTuple (xaCons (xVar 3) xaNil)))))
noncomputable def F__law_other : XF := runD x__law_other 5
noncomputable def x__law_is_move_q1 : XM Bool :=
  (xB (xOp (yEq true) (xVar 4) (xVar 3)))
noncomputable def x__law_is_move_c2 : XM VR :=
  (xOp ySub (xVar 4) (xVar 3))
noncomputable def x__law_is_move : XS :=
  (zSeq (zSet 2 (xLc (xiZip (xfCons (xVar 0) (xfCons (xVar 1) xfNil))) (yT (ysCons (yN 3) (ysCons (yN 4) ysNil))) (x__law_is_move_q1) (x__law_is_move_c2) [3, 4]))
  (zRet (xAndE (xOp (yEq true) (xVar 2) (xLst xfNil)) (xAndE (xOp (yEq false) (xOp yIx (xVar 0) (xC (.int 0))) (xOp yIx (xVar 1) (xC (.int 0)))) (xAndE (xOp (yEq false) (xCB yAbs (xaCons (xOp yIx (xVar 2) (xC (.int 0))) xaNil)) (xC (.int 1))) (xOp (yEq false) (xMt 2 fCount (xfCons (xOp yIx (xVar 2) (xC (.int 0))) xfNil)) (xCB yLen (xaCons (xVar 2) xaNil))))))))
noncomputable def F__law_is_move : XF := runD x__law_is_move 3
noncomputable def x__law_walk_right_q1 : XM Bool :=
  (xNot (xB (xCall F__law_is_move (xcFz (xOp yIx (xVar 5) (xOp ySub (xVar 7) (xC (.int 1)))) (xcFz (xOp yIx (xVar 5) (xVar 7)) xcNil)))))
noncomputable def x__law_walk_right_c2 : XM VR :=
  (xVar 7)
noncomputable def x__law_walk_right_q3 : XM Bool :=
  (xOr (xNot (xB (xCall F_is_world (xcFz (xVar 0) (xcFz (xVar 6) xcNil))))) (xNot (xB (xCall F__law_moments (xcFz (xVar 0) (xcFz (xVar 6) xcNil))))))
noncomputable def x__law_walk_right_c4 : XM VR :=
  (xVar 6)
noncomputable def x__law_walk_right_c5 : XM VR :=
  (xOp ySub (xVar 8) (xVar 9))
noncomputable def x__law_walk_right_c6 : XM VR :=
  (xOp ySub (xVar 9) (xVar 8))
noncomputable def x__law_walk_right : XS :=
  (zSeq (zSet 3 (xCB yMax (xaCons (xOp yAdd (xLst (xfCons (xC (.int 0)) xfNil)) (xLc (xiZip (xfCons (xVar 1) (xfCons (xVar 2) xfNil))) (yT (ysCons (yN 8) (ysCons (yN 9) ysNil))) xYes (x__law_walk_right_c6) [8, 9])) xaNil)))
  (zSeq (zSet 4 (xCB yMax (xaCons (xOp yAdd (xLst (xfCons (xC (.int 0)) xfNil)) (xLc (xiZip (xfCons (xVar 1) (xfCons (xVar 2) xfNil))) (yT (ysCons (yN 8) (ysCons (yN 9) ysNil))) xYes (x__law_walk_right_c5) [8, 9])) xaNil)))
  (zSeq (zIf (xB (xOp (yEq true) (xCall F_moves_between (xcFz (xVar 0) (xcFz (xVar 1) (xcFz (xVar 2) xcNil)))) (xOp yAdd (xVar 3) (xVar 4)))) (zRet (xC (.bool false))) zNext)
  (zSeq (zSet 5 (xCall F_walk (xcFz (xVar 0) (xcFz (xVar 1) (xcFz (xVar 2) xcNil)))))
  (zSeq (zIf (xOr (xNot (xB (xIs isList (xVar 5)))) (xOr (xB (xOp (yEq true) (xCB yLen (xaCons (xVar 5) xaNil)) (xOp yAdd (xOp yAdd (xVar 3) (xVar 4)) (xC (.int 1))))) (xOr (xB (xOp (yEq true) (xOp yIx (xVar 5) (xC (.int 0))) (xVar 1))) (xB (xOp (yEq true) (xOp yIx (xVar 5) (xUn yNeg (xC (.int 1)))) (xVar 2)))))) (zRet (xC (.bool false))) zNext)
  (zSeq (zIf (xB (xOp (yEq true) (xLcN 5 (yN 6) (x__law_walk_right_q3) (x__law_walk_right_c4) [6]) (xLst xfNil))) (zRet (xC (.bool false))) zNext)
  (zSeq (zIf (xB (xOp (yEq true) (xLc (xiRg (xaCons (xC (.int 1)) (xaCons (xCB yLen (xaCons (xVar 5) xaNil)) xaNil))) (yN 7) (x__law_walk_right_q1) (x__law_walk_right_c2) [7]) (xLst xfNil))) (zRet (xC (.bool false))) zNext)
  (zSeq (zDrop (xMt 5 fAppend (xfCons (xTup xfNil) xfNil)))
  (zSeq (zIf (xB (xOp (yEq true) (xCall F_walk (xcPerm [2, 1, 0] (xcFz (xVar 2) (xcFz (xVar 1) (xcFz (xVar 0) xcNil))))) (xSl (xVar 5) xoNone (xoSome (xUn yNeg (xC (.int 1))))))) (zRet (xC (.bool false))) zNext)
  (zRet (xOp (yEq false) (xCall F_moves_between (xcPerm [2, 1, 0] (xcFz (xVar 1) (xcFz (xVar 2) (xcFz (xVar 0) xcNil))))) (xOp yAdd (xVar 3) (xVar 4)))))))))))))
noncomputable def F__law_walk_right : XF := runD x__law_walk_right 7
noncomputable def x__law_far_right_c1 : XM VR :=
  (xCB yMax (xaCons (xVar 8) (xaCons (xVar 9) xaNil)))
noncomputable def x__law_far_right_c2 : XM VR :=
  (xCB yMin (xaCons (xVar 8) (xaCons (xVar 9) xaNil)))
noncomputable def x__law_far_right_c3 : XM VR :=
  (xOp ySub (xVar 8) (xVar 9))
noncomputable def x__law_far_right_c4 : XM VR :=
  (xOp ySub (xVar 9) (xVar 8))
noncomputable def x__law_far_right_c5 : XM VR :=
  (xCall F__law_reach (xcAn (xVar 0) xcNil))
noncomputable def x__law_far_right : XS :=
  (zSeq (zSet 3 (xTup (xfCons (xOp yIx (xVar 1) (xC (.int 0))) (xfCons (xTup xfNil) xfNil))))
  (zSeq (zSet 4 (xCB yTuple (xaCons (xOp yAdd (xLst (xfCons (xC (.int 0)) xfNil)) (xLc (xiRg (xaCons (xOp ySub (xOp yIx (xVar 1) (xC (.int 0))) (xC (.int 1))) xaNil)) (yN 7) xYes (x__law_far_right_c5) [7])) xaNil)))
  (zSeq (zSet 5 (xCB yMax (xaCons (xOp yAdd (xLst (xfCons (xC (.int 0)) xfNil)) (xLc (xiZip (xfCons (xVar 2) (xfCons (xVar 4) xfNil))) (yT (ysCons (yN 8) (ysCons (yN 9) ysNil))) xYes (x__law_far_right_c4) [8, 9])) xaNil)))
  (zSeq (zSet 6 (xCB yMax (xaCons (xOp yAdd (xLst (xfCons (xC (.int 0)) xfNil)) (xLc (xiZip (xfCons (xVar 2) (xfCons (xVar 4) xfNil))) (yT (ysCons (yN 8) (ysCons (yN 9) ysNil))) xYes (x__law_far_right_c3) [8, 9])) xaNil)))
  (zSeq (zIf (xOr (xB (xOp (yEq true) (xCall F_moves_between (xcFz (xVar 3) (xcFz (xVar 2) (xcFz (xVar 4) xcNil)))) (xOp yAdd (xVar 5) (xVar 6)))) (xNot (xB (xCall F__law_whole (xcFz (xCall F_moves_between (xcFz (xVar 3) (xcFz (xVar 4) (xcFz (xVar 2) xcNil)))) xcNil))))) (zRet (xC (.bool false))) zNext)
  (zSeq (zIf (xB (xOp (yEq true) (xCall F_lesser (xcFz (xVar 3) (xcFz (xVar 2) (xcFz (xVar 4) xcNil)))) (xCB yTuple (xaCons (xLc (xiZip (xfCons (xVar 2) (xfCons (xVar 4) xfNil))) (yT (ysCons (yN 8) (ysCons (yN 9) ysNil))) xYes (x__law_far_right_c2) [8, 9]) xaNil)))) (zRet (xC (.bool false))) zNext)
  (zRet (xOp (yEq false) (xCall F_greater (xcFz (xVar 3) (xcFz (xVar 2) (xcFz (xVar 4) xcNil)))) (xCB yTuple (xaCons (xLc (xiZip (xfCons (xVar 2) (xfCons (xVar 4) xfNil))) (yT (ysCons (yN 8) (ysCons (yN 9) ysNil))) xYes (x__law_far_right_c1) [8, 9]) xaNil))))))))))
noncomputable def F__law_far_right : XF := runD x__law_far_right 7
noncomputable def x__law_long_right_c1 : XM VR :=
  (xTup (xfCons (xC (.int 0)) (xfCons (xOp yAdd (xVar 2) (xOp yMul (xVar 3) (xVar 4))) xfNil)))
noncomputable def x__law_long_right : XS :=
  (zSeq (zAsg (xTup (xfCons (xCall F__law_reach (xcAn (xVar 0) xcNil)) (xfCons (xOp yIx (xLst (xfCons (xC (.int 1)) (xfCons (xUn yNeg (xC (.int 1))) xfNil))) (xCall F__law_pick (xcAn (xVar 0) (xcFz (xC (.int 2)) xcNil)))) xfNil))) (yT (ysCons (yN 2) (ysCons (yN 3) ysNil))))
  (zSeq (zSet 1 (xLc (xiRg (xaCons (xC (.int 301)) xaNil)) (yN 4) xYes (x__law_long_right_c1) [4]))
  (zRet (xOp (yEq false) (xCall F_walk (xcFz (xTup (xfCons (xC (.int 2)) (xfCons (xTup xfNil) xfNil))) (xcFz (xOp yIx (xVar 1) (xC (.int 0))) (xcFz (xOp yIx (xVar 1) (xUn yNeg (xC (.int 1)))) xcNil)))) (xVar 1)))))
noncomputable def F__law_long_right : XF := runD x__law_long_right 4
noncomputable def x__law_right_c1 : XM VR :=
  (xCB yMax (xaCons (xVar 11) (xaCons (xVar 12) xaNil)))
noncomputable def x__law_right_c2 : XM VR :=
  (xCB yMin (xaCons (xVar 11) (xaCons (xVar 12) xaNil)))
noncomputable def x__law_right_b3 : XM So :=
  (zSeq (zSet 6 (xCB yTuple (xaCons (xLc (xiZip (xfCons (xVar 2) (xfCons (xVar 5) xfNil))) (yT (ysCons (yN 11) (ysCons (yN 12) ysNil))) xYes (x__law_right_c2) [11, 12]) xaNil)))
  (zSeq (zSet 7 (xCB yTuple (xaCons (xLc (xiZip (xfCons (xVar 2) (xfCons (xVar 5) xfNil))) (yT (ysCons (yN 11) (ysCons (yN 12) ysNil))) xYes (x__law_right_c1) [11, 12]) xaNil)))
  (zSeq (zIf (xOr (xB (xOp (yEq true) (xCall F_lesser (xcFz (xVar 3) (xcFz (xVar 2) (xcFz (xVar 5) xcNil)))) (xVar 6))) (xB (xOp (yEq true) (xCall F_greater (xcFz (xVar 3) (xcFz (xVar 2) (xcFz (xVar 5) xcNil)))) (xVar 7)))) (zRet (xC (.bool false))) zNext)
  (zSeq (zIf (xB (xOp (yEq true) (xCall F_lesser (xcPerm [2, 1, 0] (xcFz (xVar 5) (xcFz (xVar 2) (xcFz (xVar 3) xcNil))))) (xVar 6))) (zRet (xC (.bool false))) zNext)
  (zSeq (zIf (xB (xOp (yEq true) (xCall F_greater (xcPerm [2, 1, 0] (xcFz (xVar 5) (xcFz (xVar 2) (xcFz (xVar 3) xcNil))))) (xVar 7))) (zRet (xC (.bool false))) zNext)
  (zSeq (zIf (xOr (xNot (xB (xCall F_is_world (xcFz (xVar 3) (xcFz (xVar 6) xcNil))))) (xOr (xNot (xB (xCall F_is_world (xcFz (xVar 3) (xcFz (xVar 7) xcNil))))) (xNot (xB (xCall F__law_walk_right (xcFz (xVar 3) (xcFz (xVar 2) (xcFz (xVar 5) xcNil)))))))) (zRet (xC (.bool false))) zNext)
  (zSeq (zSet 8 (xCall F_moves_between (xcFz (xVar 3) (xcFz (xVar 2) (xcFz (xVar 5) xcNil)))))
  (zSeq (zIf (xAnd (xB (xOp (yInn false) (xVar 6) (xTup (xfCons (xVar 2) (xfCons (xVar 5) xfNil))))) (xB (xOp (yEq true) (xVar 8) (xCall F_moves_between (xcFz (xVar 3) (xcFz (xVar 6) (xcFz (xVar 7) xcNil))))))) (zRet (xC (.bool false))) zNext)
  (zSeq (zSet 9 (xOp yIx (xVar 1) (xCall F__law_pick (xcAn (xVar 0) (xcFz (xC (.int 4)) xcNil)))))
  (zIf (xB (xOp yLt (xOp yAdd (xCall F_moves_between (xcFz (xVar 3) (xcFz (xVar 2) (xcFz (xVar 9) xcNil)))) (xCall F_moves_between (xcFz (xVar 3) (xcFz (xVar 9) (xcFz (xVar 5) xcNil))))) (xCall F_moves_between (xcFz (xVar 3) (xcFz (xVar 2) (xcFz (xVar 5) xcNil)))))) (zRet (xC (.bool false))) zNext))))))))))
noncomputable def x__law_right_b4 : XM So :=
  (zFor (xiSeq (xVar 1)) (yN 5) (x__law_right_b3))
noncomputable def x__law_right_c5 : XM VR :=
  (xCall F__law_other (xcAn (xVar 0) (xcFz (xVar 3) (xcFz (xVar 4) xcNil))))
noncomputable def x__law_right : XS :=
  (zSeq (zAsg (xCall F__law_held (xcAn (xVar 0) xcNil)) (yT (ysCons (yN 3) (ysCons (yN 4) ysNil))))
  (zSeq (zIf (xNot (xB (xCall F__law_far_right (xcAn (xVar 0) (xcFz (xVar 3) (xcFz (xVar 4) xcNil)))))) (zRet (xC (.bool false))) zNext)
  (zSeq (zIf (xAnd (xB (xOp (yEq false) (xCall F__law_pick (xcAn (xVar 0) (xcFz (xC (.int 8)) xcNil))) (xC (.int 7)))) (xNot (xB (xCall F__law_long_right (xcAn (xVar 0) xcNil))))) (zRet (xC (.bool false))) zNext)
  (zSeq (zSet 1 (xOp yAdd (xLst (xfCons (xVar 4) xfNil)) (xLc (xiRg (xaCons (xC (.int 3)) xaNil)) (yN 10) xYes (x__law_right_c5) [10])))
  (zSeq (zFor (xiSeq (xVar 1)) (yN 2) (x__law_right_b4))
  (zRet (xC (.bool true))))))))
noncomputable def F__law_right : XF := runD x__law_right 12
noncomputable def x_law_b1 : XM So :=
  (zIf (xNot (xB (xCall F__law_right (xcOw (xCall F__law_urn (xcFz (xVar 0) (xcFz (xVar 1) xcNil))))))) (zRet (xC (.bool false))) zNext)
noncomputable def x_law : XS :=
  (zSeq (zFor (xiRg (xaCons (xCB yMax (xaCons (xC (.int 1)) (xaCons (xCB yMin (xaCons (xC (.int 3)) (xaCons (xCB yLen (xaCons (xVar 0) xaNil)) xaNil))) xaNil))) xaNil)) (yN 1) (x_law_b1))
  (zRet (xC (.bool true))))
noncomputable def F_law : XF := runD x_law 1
end FP
set_option Elab.async false
set_option linter.all false
set_option maxRecDepth 100000
set_option maxHeartbeats 4000000
namespace T10
open PySem PySem.Spec PyProof.Rows L2 DL FL FP
abbrev PW : Program := PySem.Challenge.pw_keptwhatever_k10_whole_lattices_and_walk
abbrev topS (i : Nat) : Stmt := PW.main.body.getD i (.Pass ⟨0, 0, 0, 0⟩)
abbrev s_is_integer : Stmt := topS 5
abbrev N_is_integer : List Str := ["thing"]
abbrev P_is_integer : List Str := ["thing"]
theorem sc_is_integer : FnScope N_is_integer P_is_integer (defScope s_is_integer) := ⟨rfl, rfl, rfl, by decide +kernel, rfl, by decide +kernel, by decide +kernel⟩
theorem bp_is_integer : BindP s_is_integer "is_integer" P_is_integer := ⟨fun _ _ _ _ _ _ us hl => match us, hl with | [_], _ => rfl⟩
abbrev s_is_from : Stmt := topS 6
abbrev N_is_from : List Str := ["low", "thing"]
abbrev P_is_from : List Str := ["low", "thing"]
theorem sc_is_from : FnScope N_is_from P_is_from (defScope s_is_from) := ⟨rfl, rfl, rfl, by decide +kernel, rfl, by decide +kernel, by decide +kernel⟩
theorem bp_is_from : BindP s_is_from "is_from" P_is_from := ⟨fun _ _ _ _ _ _ us hl => match us, hl with | [_, _], _ => rfl⟩
abbrev s_is_between : Stmt := topS 7
abbrev N_is_between : List Str := ["low", "thing", "high"]
abbrev P_is_between : List Str := ["low", "thing", "high"]
theorem sc_is_between : FnScope N_is_between P_is_between (defScope s_is_between) := ⟨rfl, rfl, rfl, by decide +kernel, rfl, by decide +kernel, by decide +kernel⟩
theorem bp_is_between : BindP s_is_between "is_between" P_is_between := ⟨fun _ _ _ _ _ _ us hl => match us, hl with | [_, _, _], _ => rfl⟩
abbrev s_is_index : Stmt := topS 8
abbrev N_is_index : List Str := ["count", "thing"]
abbrev P_is_index : List Str := ["count", "thing"]
theorem sc_is_index : FnScope N_is_index P_is_index (defScope s_is_index) := ⟨rfl, rfl, rfl, by decide +kernel, rfl, by decide +kernel, by decide +kernel⟩
theorem bp_is_index : BindP s_is_index "is_index" P_is_index := ⟨fun _ _ _ _ _ _ us hl => match us, hl with | [_, _], _ => rfl⟩
abbrev s_is_bound : Stmt := topS 9
abbrev N_is_bound : List Str := ["points", "thing"]
abbrev P_is_bound : List Str := ["points", "thing"]
theorem sc_is_bound : FnScope N_is_bound P_is_bound (defScope s_is_bound) := ⟨rfl, rfl, rfl, by decide +kernel, rfl, by decide +kernel, by decide +kernel⟩
theorem bp_is_bound : BindP s_is_bound "is_bound" P_is_bound := ⟨fun _ _ _ _ _ _ us hl => match us, hl with | [_, _], _ => rfl⟩
abbrev s_is_system_form : Stmt := topS 10
abbrev N_is_system_form : List Str := ["value", "bound"]
abbrev P_is_system_form : List Str := ["value"]
theorem sc_is_system_form : FnScope N_is_system_form P_is_system_form (defScope s_is_system_form) := ⟨rfl, rfl, rfl, by decide +kernel, rfl, by decide +kernel, by decide +kernel⟩
theorem bp_is_system_form : BindP s_is_system_form "is_system_form" P_is_system_form := ⟨fun _ _ _ _ _ _ us hl => match us, hl with | [_], _ => rfl⟩
abbrev s_has_moments : Stmt := topS 11
abbrev N_has_moments : List Str := ["system", "thing", "part"]
abbrev P_has_moments : List Str := ["system", "thing"]
theorem sc_has_moments : FnScope N_has_moments P_has_moments (defScope s_has_moments) := ⟨rfl, rfl, rfl, by decide +kernel, rfl, by decide +kernel, by decide +kernel⟩
theorem bp_has_moments : BindP s_has_moments "has_moments" P_has_moments := ⟨fun _ _ _ _ _ _ us hl => match us, hl with | [_, _], _ => rfl⟩
abbrev s_keeps_bound : Stmt := topS 12
abbrev N_keeps_bound : List Str := ["moments", "bound", "i", "j", "most"]
abbrev P_keeps_bound : List Str := ["moments", "bound"]
theorem sc_keeps_bound : FnScope N_keeps_bound P_keeps_bound (defScope s_keeps_bound) := ⟨rfl, rfl, rfl, by decide +kernel, rfl, by decide +kernel, by decide +kernel⟩
theorem bp_keeps_bound : BindP s_keeps_bound "keeps_bound" P_keeps_bound := ⟨fun _ _ _ _ _ _ us hl => match us, hl with | [_, _], _ => rfl⟩
abbrev s_is_world_of : Stmt := topS 13
abbrev N_is_world_of : List Str := ["system", "value", "bound"]
abbrev P_is_world_of : List Str := ["system", "value"]
theorem sc_is_world_of : FnScope N_is_world_of P_is_world_of (defScope s_is_world_of) := ⟨rfl, rfl, rfl, by decide +kernel, rfl, by decide +kernel, by decide +kernel⟩
theorem bp_is_world_of : BindP s_is_world_of "is_world_of" P_is_world_of := ⟨fun _ _ _ _ _ _ us hl => match us, hl with | [_, _], _ => rfl⟩
abbrev s_check_system : Stmt := topS 14
abbrev N_check_system : List Str := ["thing"]
abbrev P_check_system : List Str := ["thing"]
theorem sc_check_system : FnScope N_check_system P_check_system (defScope s_check_system) := ⟨rfl, rfl, rfl, by decide +kernel, rfl, by decide +kernel, by decide +kernel⟩
theorem bp_check_system : BindP s_check_system "check_system" P_check_system := ⟨fun _ _ _ _ _ _ us hl => match us, hl with | [_], _ => rfl⟩
abbrev s_check_world : Stmt := topS 15
abbrev N_check_world : List Str := ["system", "thing"]
abbrev P_check_world : List Str := ["system", "thing"]
theorem sc_check_world : FnScope N_check_world P_check_world (defScope s_check_world) := ⟨rfl, rfl, rfl, by decide +kernel, rfl, by decide +kernel, by decide +kernel⟩
theorem bp_check_world : BindP s_check_world "check_world" P_check_world := ⟨fun _ _ _ _ _ _ us hl => match us, hl with | [_, _], _ => rfl⟩
abbrev s_is_world : Stmt := topS 17
abbrev N_is_world : List Str := ["system", "value"]
abbrev P_is_world : List Str := ["system", "value"]
theorem sc_is_world : FnScope N_is_world P_is_world (defScope s_is_world) := ⟨rfl, rfl, rfl, by decide +kernel, rfl, by decide +kernel, by decide +kernel⟩
theorem bp_is_world : BindP s_is_world "is_world" P_is_world := ⟨fun _ _ _ _ _ _ us hl => match us, hl with | [_, _], _ => rfl⟩
abbrev s_check_worlds : Stmt := topS 18
abbrev N_check_worlds : List Str := ["system", "world", "other_world"]
abbrev P_check_worlds : List Str := ["system", "world", "other_world"]
theorem sc_check_worlds : FnScope N_check_worlds P_check_worlds (defScope s_check_worlds) := ⟨rfl, rfl, rfl, by decide +kernel, rfl, by decide +kernel, by decide +kernel⟩
theorem bp_check_worlds : BindP s_check_worlds "check_worlds" P_check_worlds := ⟨fun _ _ _ _ _ _ us hl => match us, hl with | [_, _, _], _ => rfl⟩
abbrev s_lesser : Stmt := topS 19
abbrev N_lesser : List Str := ["system", "world", "other_world", "one", "two"]
abbrev P_lesser : List Str := ["system", "world", "other_world"]
theorem sc_lesser : FnScope N_lesser P_lesser (defScope s_lesser) := ⟨rfl, rfl, rfl, by decide +kernel, rfl, by decide +kernel, by decide +kernel⟩
theorem bp_lesser : BindP s_lesser "lesser" P_lesser := ⟨fun _ _ _ _ _ _ us hl => match us, hl with | [_, _, _], _ => rfl⟩
abbrev s_greater : Stmt := topS 20
abbrev N_greater : List Str := ["system", "world", "other_world", "one", "two"]
abbrev P_greater : List Str := ["system", "world", "other_world"]
theorem sc_greater : FnScope N_greater P_greater (defScope s_greater) := ⟨rfl, rfl, rfl, by decide +kernel, rfl, by decide +kernel, by decide +kernel⟩
theorem bp_greater : BindP s_greater "greater" P_greater := ⟨fun _ _ _ _ _ _ us hl => match us, hl with | [_, _, _], _ => rfl⟩
abbrev s_greatest_rise : Stmt := topS 21
abbrev N_greatest_rise : List Str := ["world", "other_world", "one", "two"]
abbrev P_greatest_rise : List Str := ["world", "other_world"]
theorem sc_greatest_rise : FnScope N_greatest_rise P_greatest_rise (defScope s_greatest_rise) := ⟨rfl, rfl, rfl, by decide +kernel, rfl, by decide +kernel, by decide +kernel⟩
theorem bp_greatest_rise : BindP s_greatest_rise "greatest_rise" P_greatest_rise := ⟨fun _ _ _ _ _ _ us hl => match us, hl with | [_, _], _ => rfl⟩
abbrev s_moves_between : Stmt := topS 22
abbrev N_moves_between : List Str := ["system", "world", "other_world"]
abbrev P_moves_between : List Str := ["system", "world", "other_world"]
theorem sc_moves_between : FnScope N_moves_between P_moves_between (defScope s_moves_between) := ⟨rfl, rfl, rfl, by decide +kernel, rfl, by decide +kernel, by decide +kernel⟩
theorem bp_moves_between : BindP s_moves_between "moves_between" P_moves_between := ⟨fun _ _ _ _ _ _ us hl => match us, hl with | [_, _, _], _ => rfl⟩
abbrev s_moved_up : Stmt := topS 23
abbrev N_moved_up : List Str := ["world", "other_world", "rise", "one", "two"]
abbrev P_moved_up : List Str := ["world", "other_world", "rise"]
theorem sc_moved_up : FnScope N_moved_up P_moved_up (defScope s_moved_up) := ⟨rfl, rfl, rfl, by decide +kernel, rfl, by decide +kernel, by decide +kernel⟩
theorem bp_moved_up : BindP s_moved_up "moved_up" P_moved_up := ⟨fun _ _ _ _ _ _ us hl => match us, hl with | [_, _, _], _ => rfl⟩
abbrev s_moved_down : Stmt := topS 24
abbrev N_moved_down : List Str := ["world", "other_world", "fall", "one", "two"]
abbrev P_moved_down : List Str := ["world", "other_world", "fall"]
theorem sc_moved_down : FnScope N_moved_down P_moved_down (defScope s_moved_down) := ⟨rfl, rfl, rfl, by decide +kernel, rfl, by decide +kernel, by decide +kernel⟩
theorem bp_moved_down : BindP s_moved_down "moved_down" P_moved_down := ⟨fun _ _ _ _ _ _ us hl => match us, hl with | [_, _, _], _ => rfl⟩
abbrev s_walk : Stmt := topS 25
abbrev N_walk : List Str := ["system", "world", "other_world", "passed", "rise", "fall"]
abbrev P_walk : List Str := ["system", "world", "other_world"]
theorem sc_walk : FnScope N_walk P_walk (defScope s_walk) := ⟨rfl, rfl, rfl, by decide +kernel, rfl, by decide +kernel, by decide +kernel⟩
theorem bp_walk : BindP s_walk "walk" P_walk := ⟨fun _ _ _ _ _ _ us hl => match us, hl with | [_, _, _], _ => rfl⟩
abbrev s__law_urn : Stmt := topS 27
abbrev N__law_urn : List Str := ["script", "k", "cell"]
abbrev P__law_urn : List Str := ["script", "k"]
theorem sc__law_urn : FnScope N__law_urn P__law_urn (defScope s__law_urn) := ⟨rfl, rfl, rfl, by decide +kernel, rfl, by decide +kernel, by decide +kernel⟩
theorem bp__law_urn : BindP s__law_urn "_law_urn" P__law_urn := ⟨fun _ _ _ _ _ _ us hl => match us, hl with | [_, _], _ => rfl⟩
abbrev s__law_pick : Stmt := topS 28
abbrev N__law_pick : List Str := ["urn", "many", "mixed", "found"]
abbrev P__law_pick : List Str := ["urn", "many"]
theorem sc__law_pick : FnScope N__law_pick P__law_pick (defScope s__law_pick) := ⟨rfl, rfl, rfl, by decide +kernel, rfl, by decide +kernel, by decide +kernel⟩
theorem bp__law_pick : BindP s__law_pick "_law_pick" P__law_pick := ⟨fun _ _ _ _ _ _ us hl => match us, hl with | [_, _], _ => rfl⟩
abbrev s__law_reach : Stmt := topS 29
abbrev N__law_reach : List Str := ["urn", "size", "found"]
abbrev P__law_reach : List Str := ["urn"]
theorem sc__law_reach : FnScope N__law_reach P__law_reach (defScope s__law_reach) := ⟨rfl, rfl, rfl, by decide +kernel, rfl, by decide +kernel, by decide +kernel⟩
theorem bp__law_reach : BindP s__law_reach "_law_reach" P__law_reach := ⟨fun _ _ _ _ _ _ us hl => match us, hl with | [_], _ => rfl⟩
abbrev s__law_frame : Stmt := topS 30
abbrev N__law_frame : List Str := ["urn", "points", "many", "moments", "rows", "k", "i", "j", "slack_here", "point"]
abbrev P__law_frame : List Str := ["urn", "points", "many"]
theorem sc__law_frame : FnScope N__law_frame P__law_frame (defScope s__law_frame) := ⟨rfl, rfl, rfl, by decide +kernel, rfl, by decide +kernel, by decide +kernel⟩
theorem bp__law_frame : BindP s__law_frame "_law_frame" P__law_frame := ⟨fun _ _ _ _ _ _ us hl => match us, hl with | [_, _, _], _ => rfl⟩
abbrev s__law_whole : Stmt := topS 31
abbrev N__law_whole : List Str := ["thing"]
abbrev P__law_whole : List Str := ["thing"]
theorem sc__law_whole : FnScope N__law_whole P__law_whole (defScope s__law_whole) := ⟨rfl, rfl, rfl, by decide +kernel, rfl, by decide +kernel, by decide +kernel⟩
theorem bp__law_whole : BindP s__law_whole "_law_whole" P__law_whole := ⟨fun _ _ _ _ _ _ us hl => match us, hl with | [_], _ => rfl⟩
abbrev s__law_moments : Stmt := topS 32
abbrev N__law_moments : List Str := ["frame", "thing", "moment"]
abbrev P__law_moments : List Str := ["frame", "thing"]
theorem sc__law_moments : FnScope N__law_moments P__law_moments (defScope s__law_moments) := ⟨rfl, rfl, rfl, by decide +kernel, rfl, by decide +kernel, by decide +kernel⟩
theorem bp__law_moments : BindP s__law_moments "_law_moments" P__law_moments := ⟨fun _ _ _ _ _ _ us hl => match us, hl with | [_, _], _ => rfl⟩
abbrev s__law_keeps : Stmt := topS 33
abbrev N__law_keeps : List Str := ["frame", "moments", "bound"]
abbrev P__law_keeps : List Str := ["frame", "moments"]
theorem sc__law_keeps : FnScope N__law_keeps P__law_keeps (defScope s__law_keeps) := ⟨rfl, rfl, rfl, by decide +kernel, rfl, by decide +kernel, by decide +kernel⟩
theorem bp__law_keeps : BindP s__law_keeps "_law_keeps" P__law_keeps := ⟨fun _ _ _ _ _ _ us hl => match us, hl with | [_, _], _ => rfl⟩
abbrev s__law_held : Stmt := topS 34
abbrev N__law_held : List Str := ["urn", "rows", "point", "frame", "moments"]
abbrev P__law_held : List Str := ["urn"]
theorem sc__law_held : FnScope N__law_held P__law_held (defScope s__law_held) := ⟨rfl, rfl, rfl, by decide +kernel, rfl, by decide +kernel, by decide +kernel⟩
theorem bp__law_held : BindP s__law_held "_law_held" P__law_held := ⟨fun _ _ _ _ _ _ us hl => match us, hl with | [_], _ => rfl⟩
abbrev s__law_other : Stmt := topS 35
abbrev N__law_other : List Str := ["urn", "frame", "moments", "found", "turn", "at", "step", "longer"]
abbrev P__law_other : List Str := ["urn", "frame", "moments"]
theorem sc__law_other : FnScope N__law_other P__law_other (defScope s__law_other) := ⟨rfl, rfl, rfl, by decide +kernel, rfl, by decide +kernel, by decide +kernel⟩
theorem bp__law_other : BindP s__law_other "_law_other" P__law_other := ⟨fun _ _ _ _ _ _ us hl => match us, hl with | [_, _, _], _ => rfl⟩
abbrev s__law_is_move : Stmt := topS 36
abbrev N__law_is_move : List Str := ["one", "two", "steps", "before", "later"]
abbrev P__law_is_move : List Str := ["one", "two"]
theorem sc__law_is_move : FnScope N__law_is_move P__law_is_move (defScope s__law_is_move) := ⟨rfl, rfl, rfl, by decide +kernel, rfl, by decide +kernel, by decide +kernel⟩
theorem bp__law_is_move : BindP s__law_is_move "_law_is_move" P__law_is_move := ⟨fun _ _ _ _ _ _ us hl => match us, hl with | [_, _], _ => rfl⟩
abbrev s__law_walk_right : Stmt := topS 37
abbrev N__law_walk_right : List Str := ["frame", "one", "two", "rises", "falls", "found", "moments", "k", "before", "later"]
abbrev P__law_walk_right : List Str := ["frame", "one", "two"]
theorem sc__law_walk_right : FnScope N__law_walk_right P__law_walk_right (defScope s__law_walk_right) := ⟨rfl, rfl, rfl, by decide +kernel, rfl, by decide +kernel, by decide +kernel⟩
theorem bp__law_walk_right : BindP s__law_walk_right "_law_walk_right" P__law_walk_right := ⟨fun _ _ _ _ _ _ us hl => match us, hl with | [_, _, _], _ => rfl⟩
abbrev s__law_far_right : Stmt := topS 38
abbrev N__law_far_right : List Str := ["urn", "frame", "moments", "free", "there", "rises", "falls", "point", "before", "later"]
abbrev P__law_far_right : List Str := ["urn", "frame", "moments"]
theorem sc__law_far_right : FnScope N__law_far_right P__law_far_right (defScope s__law_far_right) := ⟨rfl, rfl, rfl, by decide +kernel, rfl, by decide +kernel, by decide +kernel⟩
theorem bp__law_far_right : BindP s__law_far_right "_law_far_right" P__law_far_right := ⟨fun _ _ _ _ _ _ us hl => match us, hl with | [_, _, _], _ => rfl⟩
abbrev s__law_long_right : Stmt := topS 39
abbrev N__law_long_right : List Str := ["urn", "due", "begin", "step", "k"]
abbrev P__law_long_right : List Str := ["urn"]
theorem sc__law_long_right : FnScope N__law_long_right P__law_long_right (defScope s__law_long_right) := ⟨rfl, rfl, rfl, by decide +kernel, rfl, by decide +kernel, by decide +kernel⟩
theorem bp__law_long_right : BindP s__law_long_right "_law_long_right" P__law_long_right := ⟨fun _ _ _ _ _ _ us hl => match us, hl with | [_], _ => rfl⟩
abbrev s__law_right : Stmt := topS 40
abbrev N__law_right : List Str := ["urn", "every", "one", "frame", "moments", "two", "least", "most", "straight", "third", "turn", "before", "later"]
abbrev P__law_right : List Str := ["urn"]
theorem sc__law_right : FnScope N__law_right P__law_right (defScope s__law_right) := ⟨rfl, rfl, rfl, by decide +kernel, rfl, by decide +kernel, by decide +kernel⟩
theorem bp__law_right : BindP s__law_right "_law_right" P__law_right := ⟨fun _ _ _ _ _ _ us hl => match us, hl with | [_], _ => rfl⟩
abbrev s_law : Stmt := topS 41
abbrev N_law : List Str := ["script", "k"]
abbrev P_law : List Str := ["script"]
theorem sc_law : FnScope N_law P_law (defScope s_law) := ⟨rfl, rfl, rfl, by decide +kernel, rfl, by decide +kernel, by decide +kernel⟩
theorem bp_law : BindP s_law "law" P_law := ⟨fun _ _ _ _ _ _ us hl => match us, hl with | [_], _ => rfl⟩
theorem bk_moves_between_2_1_0 : BindK s_moves_between "moves_between" P_moves_between ["other_world", "world", "system"] [2, 1, 0] := ⟨fun _ _ _ _ _ _ us hl => match us, hl with | [_, _, _], _ => rfl⟩
theorem bk_walk_2_1_0 : BindK s_walk "walk" P_walk ["other_world", "world", "system"] [2, 1, 0] := ⟨fun _ _ _ _ _ _ us hl => match us, hl with | [_, _, _], _ => rfl⟩
theorem bk_greater_2_1_0 : BindK s_greater "greater" P_greater ["other_world", "world", "system"] [2, 1, 0] := ⟨fun _ _ _ _ _ _ us hl => match us, hl with | [_, _, _], _ => rfl⟩
theorem bk_lesser_2_1_0 : BindK s_lesser "lesser" P_lesser ["other_world", "world", "system"] [2, 1, 0] := ⟨fun _ _ _ _ _ _ us hl => match us, hl with | [_, _, _], _ => rfl⟩
/-- what is asked of the text beyond its defs -/
structure Tx (K : PySem.W.Frag) (mg : Str → Option Value) (cl : String → Addr) : Prop where
  triv_ : True
  b_abs : mg "abs" = none
  b_all : mg "all" = none
  b_bool : mg "bool" = none
  b_int : mg "int" = none
  b_isinstance : mg "isinstance" = none
  b_len : mg "len" = none
  b_list : mg "list" = none
  b_max : mg "max" = none
  b_min : mg "min" = none
  b_range : mg "range" = none
  b_tuple : mg "tuple" = none
  b_zip : mg "zip" = none
  ne_2_1 : cl "InvalidWorld" ≠ cl "InvalidSystem"
  x_InvalidSystem : ExT K mg "InvalidSystem" (cl "InvalidSystem")
  x_InvalidWorld : ExT K mg "InvalidWorld" (cl "InvalidWorld")

end T10
set_option Elab.async false
set_option linter.all false
set_option maxRecDepth 100000
set_option maxHeartbeats 4000000
namespace T10
open PySem PySem.Spec PyProof.Rows L2 DL FL FP
theorem dv_is_integer {w : World} {K : PySem.W.Frag} {mg : Str → Option Value} {base : Heap} {cl : String → Addr} {j : Nat} {cdv : Value} {f : Addr} {A : Around} {outer : List Env} {s : Shared} {H : Hp} {E : XK} (T : Tx K mg cl) (hr : Room j (A.deeper (envOfC "is_integer" (defScope s_is_integer) s.heap.objs.size f cdv)))
    : PXB (cxOf (L2.CX PW w) PW w K mg base N_is_integer "is_integer" (defScope s_is_integer) f cdv A outer s H E) cl (fun cls d _ H => E cls d H) (defBody s_is_integer) (x_is_integer) := by
  have h : PXB (cxOf (L2.CX PW w) PW w K mg base N_is_integer "is_integer" (defScope s_is_integer) f cdv A outer s H E) cl (fun cls d _ H => E cls d H) (defBody s_is_integer) _ := (pxb_one (pxs_ret (px_and (PD.mono (pd_isX ist_int (by decide) (fun _ => rfl) rfl T.b_isinstance rfl T.b_int rfl (px_var 0)) w_is) (px_one (px_not (PD.mono (pd_isX ist_bool (by decide) (fun _ => rfl) rfl T.b_isinstance rfl T.b_bool rfl (px_var 0)) w_is))))))
  unfold x_is_integer
  exact h
theorem dv_is_from {w : World} {K : PySem.W.Frag} {mg : Str → Option Value} {base : Heap} {cl : String → Addr} {j : Nat} {cdv : Value} {f : Addr} {A : Around} {outer : List Env} {s : Shared} {H : Hp} {E : XK} (T : Tx K mg cl) (hr : Room j (A.deeper (envOfC "is_from" (defScope s_is_from) s.heap.objs.size f cdv)))
    (Fc_is_integer : FnC PW w K mg base j "is_integer" P_is_integer s_is_integer (spF cl F_is_integer))
    : PXB (cxOf (L2.CX PW w) PW w K mg base N_is_from "is_from" (defScope s_is_from) f cdv A outer s H E) cl (fun cls d _ H => E cls d H) (defBody s_is_from) (x_is_from) := by
  have h : PXB (cxOf (L2.CX PW w) PW w K mg base N_is_from "is_from" (defScope s_is_from) f cdv A outer s H E) cl (fun cls d _ H => E cls d H) (defBody s_is_from) _ := (pxb_one (pxs_ret (px_and (px_callC (takes_of rfl rfl rfl rfl) Fc_is_integer hr (Nat.le_refl _) bp_is_integer rfl (pxc_fz (px_var 1) pxc_nil)) (px_one (px_cmp op_ge c_ge y_ge (px_var 1) (px_var 0) (nomark _))))))
  unfold x_is_from
  exact h
theorem dv_is_between {w : World} {K : PySem.W.Frag} {mg : Str → Option Value} {base : Heap} {cl : String → Addr} {j : Nat} {cdv : Value} {f : Addr} {A : Around} {outer : List Env} {s : Shared} {H : Hp} {E : XK} (T : Tx K mg cl) (hr : Room j (A.deeper (envOfC "is_between" (defScope s_is_between) s.heap.objs.size f cdv)))
    (Fc_is_integer : FnC PW w K mg base j "is_integer" P_is_integer s_is_integer (spF cl F_is_integer))
    : PXB (cxOf (L2.CX PW w) PW w K mg base N_is_between "is_between" (defScope s_is_between) f cdv A outer s H E) cl (fun cls d _ H => E cls d H) (defBody s_is_between) (x_is_between) := by
  have h : PXB (cxOf (L2.CX PW w) PW w K mg base N_is_between "is_between" (defScope s_is_between) f cdv A outer s H E) cl (fun cls d _ H => E cls d H) (defBody s_is_between) _ := (pxb_one (pxs_ret (px_and (px_callC (takes_of rfl rfl rfl rfl) Fc_is_integer hr (Nat.le_refl _) bp_is_integer rfl (pxc_fz (px_var 1) pxc_nil)) (px_one (px_chain op_le c_le y_le op_le c_le y_le (px_var 0) (px_var 1) (px_var 2))))))
  unfold x_is_between
  exact h
theorem dv_is_index {w : World} {K : PySem.W.Frag} {mg : Str → Option Value} {base : Heap} {cl : String → Addr} {j : Nat} {cdv : Value} {f : Addr} {A : Around} {outer : List Env} {s : Shared} {H : Hp} {E : XK} (T : Tx K mg cl) (hr : Room j (A.deeper (envOfC "is_index" (defScope s_is_index) s.heap.objs.size f cdv)))
    (Fc_is_between : FnC PW w K mg base j "is_between" P_is_between s_is_between (spF cl F_is_between))
    : PXB (cxOf (L2.CX PW w) PW w K mg base N_is_index "is_index" (defScope s_is_index) f cdv A outer s H E) cl (fun cls d _ H => E cls d H) (defBody s_is_index) (x_is_index) := by
  have h : PXB (cxOf (L2.CX PW w) PW w K mg base N_is_index "is_index" (defScope s_is_index) f cdv A outer s H E) cl (fun cls d _ H => E cls d H) (defBody s_is_index) _ := (pxb_one (pxs_ret (px_callC (takes_of rfl rfl rfl rfl) Fc_is_between hr (Nat.le_refl _) bp_is_between rfl (pxc_fz (px_c pd_int) (pxc_fz (px_var 1) (pxc_fz (px_bin op_sub c_sub y_sub (px_var 0) (px_c pd_int)) pxc_nil))))))
  unfold x_is_index
  exact h
theorem dv_is_bound {w : World} {K : PySem.W.Frag} {mg : Str → Option Value} {base : Heap} {cl : String → Addr} {j : Nat} {cdv : Value} {f : Addr} {A : Around} {outer : List Env} {s : Shared} {H : Hp} {E : XK} (T : Tx K mg cl) (hr : Room j (A.deeper (envOfC "is_bound" (defScope s_is_bound) s.heap.objs.size f cdv)))
    (Fc_is_index : FnC PW w K mg base j "is_index" P_is_index s_is_index (spF cl F_is_index))
    (Fc_is_integer : FnC PW w K mg base j "is_integer" P_is_integer s_is_integer (spF cl F_is_integer))
    : PXB (cxOf (L2.CX PW w) PW w K mg base N_is_bound "is_bound" (defScope s_is_bound) f cdv A outer s H E) cl (fun cls d _ H => E cls d H) (defBody s_is_bound) (x_is_bound) := by
  have h : PXB (cxOf (L2.CX PW w) PW w K mg base N_is_bound "is_bound" (defScope s_is_bound) f cdv A outer s H E) cl (fun cls d _ H => E cls d H) (defBody s_is_bound) _ := (pxb_cons (pxs_if (pxw_pt (pxw_or (pxt_not (pxt_val (PD.mono (pd_isX ist_tuple (by decide) (fun _ => rfl) rfl T.b_isinstance rfl T.b_tuple rfl (px_var 1)) w_is))) (pxw_or (pxt_cmp (op_neD hr.units) c_ne y_eq (px_callB call_len c_len y_len rfl T.b_len rfl (pxa_cons (px_var 1) pxa_nil)) (px_c pd_int) (nomark _)) (pxw_or1 (pxt_not (pxt_val (px_callC (takes_of rfl rfl rfl rfl) Fc_is_integer hr (Nat.le_refl _) bp_is_integer rfl (pxc_fz (px_ix ix_seq c_ix y_ix (px_var 1) (px_c pd_int) (fun _ _ => rfl)) pxc_nil)))))))) (pxb_one (pxs_ret (px_c pd_bl))) pxb_nil)
  (pxb_one (pxs_ret (px_and (px_callC (takes_of rfl rfl rfl rfl) Fc_is_index hr (Nat.le_refl _) bp_is_index rfl (pxc_fz (px_var 0) (pxc_fz (px_ix ix_seq c_ix y_ix (px_var 1) (px_c pd_int) (fun _ _ => rfl)) pxc_nil))) (px_and (px_callC (takes_of rfl rfl rfl rfl) Fc_is_index hr (Nat.le_refl _) bp_is_index rfl (pxc_fz (px_var 0) (pxc_fz (px_ix ix_seq c_ix y_ix (px_var 1) (px_c pd_int) (fun _ _ => rfl)) pxc_nil))) (px_one (px_cmp (op_neD hr.units) c_ne y_eq (px_ix ix_seq c_ix y_ix (px_var 1) (px_c pd_int) (fun _ _ => rfl)) (px_ix ix_seq c_ix y_ix (px_var 1) (px_c pd_int) (fun _ _ => rfl)) (nomark _))))))))
  unfold x_is_bound
  exact h
theorem dv_is_system_form {w : World} {K : PySem.W.Frag} {mg : Str → Option Value} {base : Heap} {cl : String → Addr} {j : Nat} {cdv : Value} {f : Addr} {A : Around} {outer : List Env} {s : Shared} {H : Hp} {E : XK} (T : Tx K mg cl) (hr : Room j (A.deeper (envOfC "is_system_form" (defScope s_is_system_form) s.heap.objs.size f cdv)))
    (Fc_is_bound : FnC PW w K mg base j "is_bound" P_is_bound s_is_bound (spF cl F_is_bound))
    (Fc_is_from : FnC PW w K mg base j "is_from" P_is_from s_is_from (spF cl F_is_from))
    : PXB (cxOf (L2.CX PW w) PW w K mg base N_is_system_form "is_system_form" (defScope s_is_system_form) f cdv A outer s H E) cl (fun cls d _ H => E cls d H) (defBody s_is_system_form) (x_is_system_form) := by
  have h : PXB (cxOf (L2.CX PW w) PW w K mg base N_is_system_form "is_system_form" (defScope s_is_system_form) f cdv A outer s H E) cl (fun cls d _ H => E cls d H) (defBody s_is_system_form) _ := (pxb_cons (pxs_if (pxw_pt (pxw_or (pxt_not (pxt_val (PD.mono (pd_isX ist_tuple (by decide) (fun _ => rfl) rfl T.b_isinstance rfl T.b_tuple rfl (px_var 0)) w_is))) (pxw_or (pxt_cmp (op_neD hr.units) c_ne y_eq (px_callB call_len c_len y_len rfl T.b_len rfl (pxa_cons (px_var 0) pxa_nil)) (px_c pd_int) (nomark _)) (pxw_or (pxt_not (pxt_val (px_callC (takes_of rfl rfl rfl rfl) Fc_is_from hr (Nat.le_refl _) bp_is_from rfl (pxc_fz (px_c pd_int) (pxc_fz (px_ix ix_seq c_ix y_ix (px_var 0) (px_c pd_int) (fun _ _ => rfl)) pxc_nil))))) (pxw_or1 (pxt_not (pxt_val (PD.mono (pd_isX ist_tuple (by decide) (fun _ => rfl) rfl T.b_isinstance rfl T.b_tuple rfl (px_ix ix_seq c_ix y_ix (px_var 0) (px_c pd_int) (fun _ _ => rfl))) w_is)))))))) (pxb_one (pxs_ret (px_c pd_bl))) pxb_nil)
  (pxb_one (pxs_ret (px_callB (cr_all rfl) c_all y_all rfl T.b_all rfl (pxa_cons (PD.mono (pd_lc (own := [("bound", 1)]) rfl sc_is_system_form.nd (pxi_seq (px_ix ix_seq c_ix y_ix (px_var 0) (px_c pd_int) (fun _ _ => rfl))) (blkOk_by (N := N_is_system_form) (sc := defScope s_is_system_form) (own := [("bound", 1)]) (by decide +kernel)) (fun _ => (pxg_name (i := 1) sc_is_system_form.nd rfl (by first | exact Or.inl rfl | exact Or.inr rfl))) (fun _ => pxts_nil) (fun _ => (px_callC takes0 Fc_is_bound hr (Nat.le_refl _) bp_is_bound rfl (pxc_fz (px_ix ix_seq c_ix y_ix (px_var 0) (px_c pd_int) (fun _ _ => rfl)) (pxc_fz (px_var 1) pxc_nil))))) w_lc) pxa_nil)))))
  unfold x_is_system_form x_is_system_form_c1
  exact h
theorem dv_has_moments {w : World} {K : PySem.W.Frag} {mg : Str → Option Value} {base : Heap} {cl : String → Addr} {j : Nat} {cdv : Value} {f : Addr} {A : Around} {outer : List Env} {s : Shared} {H : Hp} {E : XK} (T : Tx K mg cl) (hr : Room j (A.deeper (envOfC "has_moments" (defScope s_has_moments) s.heap.objs.size f cdv)))
    (Fc_is_integer : FnC PW w K mg base j "is_integer" P_is_integer s_is_integer (spF cl F_is_integer))
    : PXB (cxOf (L2.CX PW w) PW w K mg base N_has_moments "has_moments" (defScope s_has_moments) f cdv A outer s H E) cl (fun cls d _ H => E cls d H) (defBody s_has_moments) (x_has_moments) := by
  have h : PXB (cxOf (L2.CX PW w) PW w K mg base N_has_moments "has_moments" (defScope s_has_moments) f cdv A outer s H E) cl (fun cls d _ H => E cls d H) (defBody s_has_moments) _ := (pxb_cons (pxs_if (pxw_pt (pxw_or (pxt_not (pxt_val (PD.mono (pd_isX ist_tuple (by decide) (fun _ => rfl) rfl T.b_isinstance rfl T.b_tuple rfl (px_var 1)) w_is))) (pxw_or (pxt_cmp (op_neD hr.units) c_ne y_eq (px_callB call_len c_len y_len rfl T.b_len rfl (pxa_cons (px_var 1) pxa_nil)) (px_ix ix_seq c_ix y_ix (px_var 0) (px_c pd_int) (fun _ _ => rfl)) (nomark _)) (pxw_or1 (pxt_not (pxt_val (px_callB (cr_all rfl) c_all y_all rfl T.b_all rfl (pxa_cons (PD.mono (pd_lc (own := [("part", 2)]) rfl sc_has_moments.nd (pxi_seq (px_var 1)) (blkOk_by (N := N_has_moments) (sc := defScope s_has_moments) (own := [("part", 2)]) (by decide +kernel)) (fun _ => (pxg_name (i := 2) sc_has_moments.nd rfl (by first | exact Or.inl rfl | exact Or.inr rfl))) (fun _ => pxts_nil) (fun _ => (px_callC takes0 Fc_is_integer hr (Nat.le_refl _) bp_is_integer rfl (pxc_fz (px_var 2) pxc_nil)))) w_lc) pxa_nil)))))))) (pxb_one (pxs_ret (px_c pd_bl))) pxb_nil)
  (pxb_one (pxs_ret (px_cmp (op_eqD hr.units) c_eq y_eq (px_ix ix_seq c_ix y_ix (px_var 1) (px_c pd_int) (fun _ _ => rfl)) (px_c pd_int) (nomark _)))))
  unfold x_has_moments x_has_moments_c1
  exact h
theorem dv_keeps_bound {w : World} {K : PySem.W.Frag} {mg : Str → Option Value} {base : Heap} {cl : String → Addr} {j : Nat} {cdv : Value} {f : Addr} {A : Around} {outer : List Env} {s : Shared} {H : Hp} {E : XK} (T : Tx K mg cl) (hr : Room j (A.deeper (envOfC "keeps_bound" (defScope s_keeps_bound) s.heap.objs.size f cdv)))
    : PXB (cxOf (L2.CX PW w) PW w K mg base N_keeps_bound "keeps_bound" (defScope s_keeps_bound) f cdv A outer s H E) cl (fun cls d _ H => E cls d H) (defBody s_keeps_bound) (x_keeps_bound) := by
  have h : PXB (cxOf (L2.CX PW w) PW w K mg base N_keeps_bound "keeps_bound" (defScope s_keeps_bound) f cdv A outer s H E) cl (fun cls d _ H => E cls d H) (defBody s_keeps_bound) _ := (pxb_cons (pxs_asg (px_var 1) (w_tup (pgd_tup rfl (PGsD.mono (pgsd_cons (pxg_name (i := 2) sc_keeps_bound.nd rfl (by first | exact Or.inl rfl | exact Or.inr rfl)) (PGsD.mono (pgsd_cons (pxg_name (i := 3) sc_keeps_bound.nd rfl (by first | exact Or.inl rfl | exact Or.inr rfl)) (PGsD.mono (pgsd_cons (pxg_name (i := 4) sc_keeps_bound.nd rfl (by first | exact Or.inl rfl | exact Or.inr rfl)) pxgs_nil) wc_gs)) wc_gs)) wc_gs) (ys_len (ysc_len (ysc_len (ysc_len ysn_len)))))))
  (pxb_one (pxs_ret (px_cmp op_le c_le y_le (px_bin op_sub c_sub y_sub (px_ix ix_seq c_ix y_ix (px_var 0) (px_var 2) (fun _ _ => rfl)) (px_ix ix_seq c_ix y_ix (px_var 0) (px_var 3) (fun _ _ => rfl))) (px_var 4) (nomark _)))))
  unfold x_keeps_bound
  exact h
theorem dv_is_world_of {w : World} {K : PySem.W.Frag} {mg : Str → Option Value} {base : Heap} {cl : String → Addr} {j : Nat} {cdv : Value} {f : Addr} {A : Around} {outer : List Env} {s : Shared} {H : Hp} {E : XK} (T : Tx K mg cl) (hr : Room j (A.deeper (envOfC "is_world_of" (defScope s_is_world_of) s.heap.objs.size f cdv)))
    (Fc_keeps_bound : FnC PW w K mg base j "keeps_bound" P_keeps_bound s_keeps_bound (spF cl F_keeps_bound))
    (Fc_has_moments : FnC PW w K mg base j "has_moments" P_has_moments s_has_moments (spF cl F_has_moments))
    : PXB (cxOf (L2.CX PW w) PW w K mg base N_is_world_of "is_world_of" (defScope s_is_world_of) f cdv A outer s H E) cl (fun cls d _ H => E cls d H) (defBody s_is_world_of) (x_is_world_of) := by
  have h : PXB (cxOf (L2.CX PW w) PW w K mg base N_is_world_of "is_world_of" (defScope s_is_world_of) f cdv A outer s H E) cl (fun cls d _ H => E cls d H) (defBody s_is_world_of) _ := (pxb_one (pxs_ret (px_and (px_callC (takes_of rfl rfl rfl rfl) Fc_has_moments hr (Nat.le_refl _) bp_has_moments rfl (pxc_fz (px_var 0) (pxc_fz (px_var 1) pxc_nil))) (px_one (px_callB (cr_all rfl) c_all y_all rfl T.b_all rfl (pxa_cons (PD.mono (pd_lc (own := [("bound", 2)]) rfl sc_is_world_of.nd (pxi_seq (px_ix ix_seq c_ix y_ix (px_var 0) (px_c pd_int) (fun _ _ => rfl))) (blkOk_by (N := N_is_world_of) (sc := defScope s_is_world_of) (own := [("bound", 2)]) (by decide +kernel)) (fun _ => (pxg_name (i := 2) sc_is_world_of.nd rfl (by first | exact Or.inl rfl | exact Or.inr rfl))) (fun _ => pxts_nil) (fun _ => (px_callC takes0 Fc_keeps_bound hr (Nat.le_refl _) bp_keeps_bound rfl (pxc_fz (px_var 1) (pxc_fz (px_var 2) pxc_nil))))) w_lc) pxa_nil))))))
  unfold x_is_world_of x_is_world_of_c1
  exact h
theorem dv_check_system {w : World} {K : PySem.W.Frag} {mg : Str → Option Value} {base : Heap} {cl : String → Addr} {j : Nat} {cdv : Value} {f : Addr} {A : Around} {outer : List Env} {s : Shared} {H : Hp} {E : XK} (T : Tx K mg cl) (hr : Room j (A.deeper (envOfC "check_system" (defScope s_check_system) s.heap.objs.size f cdv)))
    (Fc_is_system_form : FnC PW w K mg base j "is_system_form" P_is_system_form s_is_system_form (spF cl F_is_system_form))
    : PXB (cxOf (L2.CX PW w) PW w K mg base N_check_system "check_system" (defScope s_check_system) f cdv A outer s H E) cl (fun cls d _ H => E cls d H) (defBody s_check_system) (x_check_system) := by
  have h : PXB (cxOf (L2.CX PW w) PW w K mg base N_check_system "check_system" (defScope s_check_system) f cdv A outer s H E) cl (fun cls d _ H => E cls d H) (defBody s_check_system) _ := (pxb_one (pxs_if (pxt_not (pxt_val (px_callC (takes_of rfl rfl rfl rfl) Fc_is_system_form hr (Nat.le_refl _) bp_is_system_form rfl (pxc_fz (px_var 0) pxc_nil)))) (pxb_one (pxs_raise (n := "InvalidSystem") (takes_of rfl rfl rfl rfl) rfl (T.x_InvalidSystem) rfl)) pxb_nil))
  unfold x_check_system
  exact h
theorem dv_check_world {w : World} {K : PySem.W.Frag} {mg : Str → Option Value} {base : Heap} {cl : String → Addr} {j : Nat} {cdv : Value} {f : Addr} {A : Around} {outer : List Env} {s : Shared} {H : Hp} {E : XK} (T : Tx K mg cl) (hr : Room j (A.deeper (envOfC "check_world" (defScope s_check_world) s.heap.objs.size f cdv)))
    (Fc_is_world_of : FnC PW w K mg base j "is_world_of" P_is_world_of s_is_world_of (spF cl F_is_world_of))
    : PXB (cxOf (L2.CX PW w) PW w K mg base N_check_world "check_world" (defScope s_check_world) f cdv A outer s H E) cl (fun cls d _ H => E cls d H) (defBody s_check_world) (x_check_world) := by
  have h : PXB (cxOf (L2.CX PW w) PW w K mg base N_check_world "check_world" (defScope s_check_world) f cdv A outer s H E) cl (fun cls d _ H => E cls d H) (defBody s_check_world) _ := (pxb_one (pxs_if (pxt_not (pxt_val (px_callC (takes_of rfl rfl rfl rfl) Fc_is_world_of hr (Nat.le_refl _) bp_is_world_of rfl (pxc_fz (px_var 0) (pxc_fz (px_var 1) pxc_nil))))) (pxb_one (pxs_raise (n := "InvalidWorld") (takes_of rfl rfl rfl rfl) rfl (T.x_InvalidWorld) rfl)) pxb_nil))
  unfold x_check_world
  exact h
theorem dv_is_world {w : World} {K : PySem.W.Frag} {mg : Str → Option Value} {base : Heap} {cl : String → Addr} {j : Nat} {cdv : Value} {f : Addr} {A : Around} {outer : List Env} {s : Shared} {H : Hp} {E : XK} (T : Tx K mg cl) (hr : Room j (A.deeper (envOfC "is_world" (defScope s_is_world) s.heap.objs.size f cdv)))
    (Fc_is_world_of : FnC PW w K mg base j "is_world_of" P_is_world_of s_is_world_of (spF cl F_is_world_of))
    (Fc_check_system : FnC PW w K mg base j "check_system" P_check_system s_check_system (spF cl F_check_system))
    : PXB (cxOf (L2.CX PW w) PW w K mg base N_is_world "is_world" (defScope s_is_world) f cdv A outer s H E) cl (fun cls d _ H => E cls d H) (defBody s_is_world) (x_is_world) := by
  have h : PXB (cxOf (L2.CX PW w) PW w K mg base N_is_world "is_world" (defScope s_is_world) f cdv A outer s H E) cl (fun cls d _ H => E cls d H) (defBody s_is_world) _ := (pxb_cons (pxs_expr (px_callC (takes_of rfl rfl rfl rfl) Fc_check_system hr (Nat.le_refl _) bp_check_system rfl (pxc_fz (px_var 0) pxc_nil)))
  (pxb_one (pxs_ret (px_callC (takes_of rfl rfl rfl rfl) Fc_is_world_of hr (Nat.le_refl _) bp_is_world_of rfl (pxc_fz (px_var 0) (pxc_fz (px_var 1) pxc_nil))))))
  unfold x_is_world
  exact h
end T10
set_option Elab.async false
set_option linter.all false
set_option maxRecDepth 100000
set_option maxHeartbeats 4000000
namespace T10
open PySem PySem.Spec PyProof.Rows L2 DL FL FP
theorem dv_check_worlds {w : World} {K : PySem.W.Frag} {mg : Str → Option Value} {base : Heap} {cl : String → Addr} {j : Nat} {cdv : Value} {f : Addr} {A : Around} {outer : List Env} {s : Shared} {H : Hp} {E : XK} (T : Tx K mg cl) (hr : Room j (A.deeper (envOfC "check_worlds" (defScope s_check_worlds) s.heap.objs.size f cdv)))
    (Fc_check_world : FnC PW w K mg base j "check_world" P_check_world s_check_world (spF cl F_check_world))
    (Fc_check_system : FnC PW w K mg base j "check_system" P_check_system s_check_system (spF cl F_check_system))
    : PXB (cxOf (L2.CX PW w) PW w K mg base N_check_worlds "check_worlds" (defScope s_check_worlds) f cdv A outer s H E) cl (fun cls d _ H => E cls d H) (defBody s_check_worlds) (x_check_worlds) := by
  have h : PXB (cxOf (L2.CX PW w) PW w K mg base N_check_worlds "check_worlds" (defScope s_check_worlds) f cdv A outer s H E) cl (fun cls d _ H => E cls d H) (defBody s_check_worlds) _ := (pxb_cons (pxs_expr (px_callC (takes_of rfl rfl rfl rfl) Fc_check_system hr (Nat.le_refl _) bp_check_system rfl (pxc_fz (px_var 0) pxc_nil)))
  (pxb_cons (pxs_expr (px_callC (takes_of rfl rfl rfl rfl) Fc_check_world hr (Nat.le_refl _) bp_check_world rfl (pxc_fz (px_var 0) (pxc_fz (px_var 1) pxc_nil))))
  (pxb_one (pxs_expr (px_callC (takes_of rfl rfl rfl rfl) Fc_check_world hr (Nat.le_refl _) bp_check_world rfl (pxc_fz (px_var 0) (pxc_fz (px_var 2) pxc_nil)))))))
  unfold x_check_worlds
  exact h
theorem dv_lesser {w : World} {K : PySem.W.Frag} {mg : Str → Option Value} {base : Heap} {cl : String → Addr} {j : Nat} {cdv : Value} {f : Addr} {A : Around} {outer : List Env} {s : Shared} {H : Hp} {E : XK} (T : Tx K mg cl) (hr : Room j (A.deeper (envOfC "lesser" (defScope s_lesser) s.heap.objs.size f cdv)))
    (Fc_check_worlds : FnC PW w K mg base j "check_worlds" P_check_worlds s_check_worlds (spF cl F_check_worlds))
    : PXB (cxOf (L2.CX PW w) PW w K mg base N_lesser "lesser" (defScope s_lesser) f cdv A outer s H E) cl (fun cls d _ H => E cls d H) (defBody s_lesser) (x_lesser) := by
  have h : PXB (cxOf (L2.CX PW w) PW w K mg base N_lesser "lesser" (defScope s_lesser) f cdv A outer s H E) cl (fun cls d _ H => E cls d H) (defBody s_lesser) _ := (pxb_cons (pxs_expr (px_callC (takes_of rfl rfl rfl rfl) Fc_check_worlds hr (Nat.le_refl _) bp_check_worlds rfl (pxc_fz (px_var 0) (pxc_fz (px_var 1) (pxc_fz (px_var 2) pxc_nil)))))
  (pxb_one (pxs_ret (px_callTy call_tuple_of c_tuple y_tuple rfl T.b_tuple rfl (pxa_cons (PD.mono (pd_lc (own := [("one", 3), ("two", 4)]) rfl sc_lesser.nd (PID.mono (pid_zip rfl T.b_zip (pxf_cons (px_var 1) (pxf_cons (px_var 2) pxf_nil))) w_zip) (blkOk_by (N := N_lesser) (sc := defScope s_lesser) (own := [("one", 3), ("two", 4)]) (by decide +kernel)) (fun _ => (w_tup (pgd_tup rfl (PGsD.mono (pgsd_cons (pxg_name (i := 3) sc_lesser.nd rfl (by first | exact Or.inl rfl | exact Or.inr rfl)) (PGsD.mono (pgsd_cons (pxg_name (i := 4) sc_lesser.nd rfl (by first | exact Or.inl rfl | exact Or.inr rfl)) pxgs_nil) wc_gs)) wc_gs) (ys_len (ysc_len (ysc_len ysn_len)))))) (fun _ => pxts_nil) (fun _ => (px_callB (cr_minA rfl) c_min y_min rfl T.b_min rfl (pxa_cons (px_var 3) (pxa_cons (px_var 4) pxa_nil))))) w_lc) pxa_nil)))))
  unfold x_lesser x_lesser_c1
  exact h
theorem dv_greater {w : World} {K : PySem.W.Frag} {mg : Str → Option Value} {base : Heap} {cl : String → Addr} {j : Nat} {cdv : Value} {f : Addr} {A : Around} {outer : List Env} {s : Shared} {H : Hp} {E : XK} (T : Tx K mg cl) (hr : Room j (A.deeper (envOfC "greater" (defScope s_greater) s.heap.objs.size f cdv)))
    (Fc_check_worlds : FnC PW w K mg base j "check_worlds" P_check_worlds s_check_worlds (spF cl F_check_worlds))
    : PXB (cxOf (L2.CX PW w) PW w K mg base N_greater "greater" (defScope s_greater) f cdv A outer s H E) cl (fun cls d _ H => E cls d H) (defBody s_greater) (x_greater) := by
  have h : PXB (cxOf (L2.CX PW w) PW w K mg base N_greater "greater" (defScope s_greater) f cdv A outer s H E) cl (fun cls d _ H => E cls d H) (defBody s_greater) _ := (pxb_cons (pxs_expr (px_callC (takes_of rfl rfl rfl rfl) Fc_check_worlds hr (Nat.le_refl _) bp_check_worlds rfl (pxc_fz (px_var 0) (pxc_fz (px_var 1) (pxc_fz (px_var 2) pxc_nil)))))
  (pxb_one (pxs_ret (px_callTy call_tuple_of c_tuple y_tuple rfl T.b_tuple rfl (pxa_cons (PD.mono (pd_lc (own := [("one", 3), ("two", 4)]) rfl sc_greater.nd (PID.mono (pid_zip rfl T.b_zip (pxf_cons (px_var 1) (pxf_cons (px_var 2) pxf_nil))) w_zip) (blkOk_by (N := N_greater) (sc := defScope s_greater) (own := [("one", 3), ("two", 4)]) (by decide +kernel)) (fun _ => (w_tup (pgd_tup rfl (PGsD.mono (pgsd_cons (pxg_name (i := 3) sc_greater.nd rfl (by first | exact Or.inl rfl | exact Or.inr rfl)) (PGsD.mono (pgsd_cons (pxg_name (i := 4) sc_greater.nd rfl (by first | exact Or.inl rfl | exact Or.inr rfl)) pxgs_nil) wc_gs)) wc_gs) (ys_len (ysc_len (ysc_len ysn_len)))))) (fun _ => pxts_nil) (fun _ => (px_callB (cr_maxA rfl) c_max y_max rfl T.b_max rfl (pxa_cons (px_var 3) (pxa_cons (px_var 4) pxa_nil))))) w_lc) pxa_nil)))))
  unfold x_greater x_greater_c1
  exact h
theorem dv_greatest_rise {w : World} {K : PySem.W.Frag} {mg : Str → Option Value} {base : Heap} {cl : String → Addr} {j : Nat} {cdv : Value} {f : Addr} {A : Around} {outer : List Env} {s : Shared} {H : Hp} {E : XK} (T : Tx K mg cl) (hr : Room j (A.deeper (envOfC "greatest_rise" (defScope s_greatest_rise) s.heap.objs.size f cdv)))
    : PXB (cxOf (L2.CX PW w) PW w K mg base N_greatest_rise "greatest_rise" (defScope s_greatest_rise) f cdv A outer s H E) cl (fun cls d _ H => E cls d H) (defBody s_greatest_rise) (x_greatest_rise) := by
  have h : PXB (cxOf (L2.CX PW w) PW w K mg base N_greatest_rise "greatest_rise" (defScope s_greatest_rise) f cdv A outer s H E) cl (fun cls d _ H => E cls d H) (defBody s_greatest_rise) _ := (pxb_one (pxs_ret (px_callB (cr_maxA rfl) c_max y_max rfl T.b_max rfl (pxa_cons (px_bin op_addA c_add y_add (px_lst (pxf_cons (px_c pd_int) pxf_nil)) (PD.mono (pd_lc (own := [("one", 2), ("two", 3)]) rfl sc_greatest_rise.nd (PID.mono (pid_zip rfl T.b_zip (pxf_cons (px_var 0) (pxf_cons (px_var 1) pxf_nil))) w_zip) (blkOk_by (N := N_greatest_rise) (sc := defScope s_greatest_rise) (own := [("one", 2), ("two", 3)]) (by decide +kernel)) (fun _ => (w_tup (pgd_tup rfl (PGsD.mono (pgsd_cons (pxg_name (i := 2) sc_greatest_rise.nd rfl (by first | exact Or.inl rfl | exact Or.inr rfl)) (PGsD.mono (pgsd_cons (pxg_name (i := 3) sc_greatest_rise.nd rfl (by first | exact Or.inl rfl | exact Or.inr rfl)) pxgs_nil) wc_gs)) wc_gs) (ys_len (ysc_len (ysc_len ysn_len)))))) (fun _ => pxts_nil) (fun _ => (px_bin op_sub c_sub y_sub (px_var 3) (px_var 2)))) w_lc)) pxa_nil))))
  unfold x_greatest_rise x_greatest_rise_c1
  exact h
theorem dv_moves_between {w : World} {K : PySem.W.Frag} {mg : Str → Option Value} {base : Heap} {cl : String → Addr} {j : Nat} {cdv : Value} {f : Addr} {A : Around} {outer : List Env} {s : Shared} {H : Hp} {E : XK} (T : Tx K mg cl) (hr : Room j (A.deeper (envOfC "moves_between" (defScope s_moves_between) s.heap.objs.size f cdv)))
    (Fc_greatest_rise : FnC PW w K mg base j "greatest_rise" P_greatest_rise s_greatest_rise (spF cl F_greatest_rise))
    (Fc_check_worlds : FnC PW w K mg base j "check_worlds" P_check_worlds s_check_worlds (spF cl F_check_worlds))
    : PXB (cxOf (L2.CX PW w) PW w K mg base N_moves_between "moves_between" (defScope s_moves_between) f cdv A outer s H E) cl (fun cls d _ H => E cls d H) (defBody s_moves_between) (x_moves_between) := by
  have h : PXB (cxOf (L2.CX PW w) PW w K mg base N_moves_between "moves_between" (defScope s_moves_between) f cdv A outer s H E) cl (fun cls d _ H => E cls d H) (defBody s_moves_between) _ := (pxb_cons (pxs_expr (px_callC (takes_of rfl rfl rfl rfl) Fc_check_worlds hr (Nat.le_refl _) bp_check_worlds rfl (pxc_fz (px_var 0) (pxc_fz (px_var 1) (pxc_fz (px_var 2) pxc_nil)))))
  (pxb_one (pxs_ret (px_bin op_addA c_add y_add (px_callC (takes_of rfl rfl rfl rfl) Fc_greatest_rise hr (Nat.le_refl _) bp_greatest_rise rfl (pxc_fz (px_var 1) (pxc_fz (px_var 2) pxc_nil))) (px_callC (takes_of rfl rfl rfl rfl) Fc_greatest_rise hr (Nat.le_refl _) bp_greatest_rise rfl (pxc_fz (px_var 2) (pxc_fz (px_var 1) pxc_nil)))))))
  unfold x_moves_between
  exact h
theorem dv_moved_up {w : World} {K : PySem.W.Frag} {mg : Str → Option Value} {base : Heap} {cl : String → Addr} {j : Nat} {cdv : Value} {f : Addr} {A : Around} {outer : List Env} {s : Shared} {H : Hp} {E : XK} (T : Tx K mg cl) (hr : Room j (A.deeper (envOfC "moved_up" (defScope s_moved_up) s.heap.objs.size f cdv)))
    : PXB (cxOf (L2.CX PW w) PW w K mg base N_moved_up "moved_up" (defScope s_moved_up) f cdv A outer s H E) cl (fun cls d _ H => E cls d H) (defBody s_moved_up) (x_moved_up) := by
  have h : PXB (cxOf (L2.CX PW w) PW w K mg base N_moved_up "moved_up" (defScope s_moved_up) f cdv A outer s H E) cl (fun cls d _ H => E cls d H) (defBody s_moved_up) _ := (pxb_one (pxs_ret (px_callTy call_tuple_of c_tuple y_tuple rfl T.b_tuple rfl (pxa_cons (PD.mono (pd_lc (own := [("one", 3), ("two", 4)]) rfl sc_moved_up.nd (PID.mono (pid_zip rfl T.b_zip (pxf_cons (px_var 0) (pxf_cons (px_var 1) pxf_nil))) w_zip) (blkOk_by (N := N_moved_up) (sc := defScope s_moved_up) (own := [("one", 3), ("two", 4)]) (by decide +kernel)) (fun _ => (w_tup (pgd_tup rfl (PGsD.mono (pgsd_cons (pxg_name (i := 3) sc_moved_up.nd rfl (by first | exact Or.inl rfl | exact Or.inr rfl)) (PGsD.mono (pgsd_cons (pxg_name (i := 4) sc_moved_up.nd rfl (by first | exact Or.inl rfl | exact Or.inr rfl)) pxgs_nil) wc_gs)) wc_gs) (ys_len (ysc_len (ysc_len ysn_len)))))) (fun _ => pxts_nil) (fun _ => (px_bin op_addA c_add y_add (px_var 3) (px_callTy call_int1 c_int y_int rfl T.b_int rfl (pxa_cons (px_cmp (op_eqD hr.units) c_eq y_eq (px_bin op_sub c_sub y_sub (px_var 4) (px_var 3)) (px_var 2) (nomark _)) pxa_nil))))) w_lc) pxa_nil))))
  unfold x_moved_up x_moved_up_c1
  exact h
theorem dv_moved_down {w : World} {K : PySem.W.Frag} {mg : Str → Option Value} {base : Heap} {cl : String → Addr} {j : Nat} {cdv : Value} {f : Addr} {A : Around} {outer : List Env} {s : Shared} {H : Hp} {E : XK} (T : Tx K mg cl) (hr : Room j (A.deeper (envOfC "moved_down" (defScope s_moved_down) s.heap.objs.size f cdv)))
    : PXB (cxOf (L2.CX PW w) PW w K mg base N_moved_down "moved_down" (defScope s_moved_down) f cdv A outer s H E) cl (fun cls d _ H => E cls d H) (defBody s_moved_down) (x_moved_down) := by
  have h : PXB (cxOf (L2.CX PW w) PW w K mg base N_moved_down "moved_down" (defScope s_moved_down) f cdv A outer s H E) cl (fun cls d _ H => E cls d H) (defBody s_moved_down) _ := (pxb_one (pxs_ret (px_callTy call_tuple_of c_tuple y_tuple rfl T.b_tuple rfl (pxa_cons (PD.mono (pd_lc (own := [("one", 3), ("two", 4)]) rfl sc_moved_down.nd (PID.mono (pid_zip rfl T.b_zip (pxf_cons (px_var 0) (pxf_cons (px_var 1) pxf_nil))) w_zip) (blkOk_by (N := N_moved_down) (sc := defScope s_moved_down) (own := [("one", 3), ("two", 4)]) (by decide +kernel)) (fun _ => (w_tup (pgd_tup rfl (PGsD.mono (pgsd_cons (pxg_name (i := 3) sc_moved_down.nd rfl (by first | exact Or.inl rfl | exact Or.inr rfl)) (PGsD.mono (pgsd_cons (pxg_name (i := 4) sc_moved_down.nd rfl (by first | exact Or.inl rfl | exact Or.inr rfl)) pxgs_nil) wc_gs)) wc_gs) (ys_len (ysc_len (ysc_len ysn_len)))))) (fun _ => pxts_nil) (fun _ => (px_bin op_sub c_sub y_sub (px_var 3) (px_callTy call_int1 c_int y_int rfl T.b_int rfl (pxa_cons (px_cmp (op_eqD hr.units) c_eq y_eq (px_bin op_sub c_sub y_sub (px_var 3) (px_var 4)) (px_var 2) (nomark _)) pxa_nil))))) w_lc) pxa_nil))))
  unfold x_moved_down x_moved_down_c1
  exact h
theorem dv_walk {w : World} {K : PySem.W.Frag} {mg : Str → Option Value} {base : Heap} {cl : String → Addr} {j : Nat} {cdv : Value} {f : Addr} {A : Around} {outer : List Env} {s : Shared} {H : Hp} {E : XK} (T : Tx K mg cl) (hr : Room j (A.deeper (envOfC "walk" (defScope s_walk) s.heap.objs.size f cdv)))
    (Fc_greatest_rise : FnC PW w K mg base j "greatest_rise" P_greatest_rise s_greatest_rise (spF cl F_greatest_rise))
    (Fc_moved_down : FnC PW w K mg base j "moved_down" P_moved_down s_moved_down (spF cl F_moved_down))
    (Fc_moved_up : FnC PW w K mg base j "moved_up" P_moved_up s_moved_up (spF cl F_moved_up))
    (Fc_check_worlds : FnC PW w K mg base j "check_worlds" P_check_worlds s_check_worlds (spF cl F_check_worlds))
    : PXB (cxOf (L2.CX PW w) PW w K mg base N_walk "walk" (defScope s_walk) f cdv A outer s H E) cl (fun cls d _ H => E cls d H) (defBody s_walk) (x_walk) := by
  have h : PXB (cxOf (L2.CX PW w) PW w K mg base N_walk "walk" (defScope s_walk) f cdv A outer s H E) cl (fun cls d _ H => E cls d H) (defBody s_walk) _ := (pxb_cons (pxs_expr (px_callC (takes_of rfl rfl rfl rfl) Fc_check_worlds hr (Nat.le_refl _) bp_check_worlds rfl (pxc_fz (px_var 0) (pxc_fz (px_var 1) (pxc_fz (px_var 2) pxc_nil)))))
  (pxb_cons (pxs_set 3 sc_walk.nd (px_lst (pxf_cons (px_var 1) pxf_nil)))
  (pxb_cons (pxs_for (passes_of rfl) rfl (PID.mono (pid_range3 rfl T.b_range (pxa_cons (px_callC (takes_of rfl rfl rfl rfl) Fc_greatest_rise hr (Nat.le_refl _) bp_greatest_rise rfl (pxc_fz (px_var 1) (pxc_fz (px_var 2) pxc_nil))) (pxa_cons (px_c pd_int) (pxa_cons (px_un un_neg c_neg y_neg (px_c pd_int)) pxa_nil)))) w_rg) (pxg_name (i := 4) sc_walk.nd rfl (by first | exact Or.inl rfl | exact Or.inr rfl)) (pxb_one (pxs_expr (PD.mono (pd_mt 3 mt_append cm_append PySem.F.slot_list_append PySem.F.type_list_append (pxf_cons (px_callC (takes_of rfl rfl rfl rfl) Fc_moved_up hr (Nat.le_refl _) bp_moved_up rfl (pxc_fz (px_ix ix_seq c_ix y_ix (px_var 3) (px_un un_neg c_neg y_neg (px_c pd_int)) (fun _ _ => rfl)) (pxc_fz (px_var 2) (pxc_fz (px_var 4) pxc_nil)))) pxf_nil)) (w_mt f_append)))))
  (pxb_cons (pxs_for (passes_of rfl) rfl (PID.mono (pid_range3 rfl T.b_range (pxa_cons (px_callC (takes_of rfl rfl rfl rfl) Fc_greatest_rise hr (Nat.le_refl _) bp_greatest_rise rfl (pxc_fz (px_var 2) (pxc_fz (px_var 1) pxc_nil))) (pxa_cons (px_c pd_int) (pxa_cons (px_un un_neg c_neg y_neg (px_c pd_int)) pxa_nil)))) w_rg) (pxg_name (i := 5) sc_walk.nd rfl (by first | exact Or.inl rfl | exact Or.inr rfl)) (pxb_one (pxs_expr (PD.mono (pd_mt 3 mt_append cm_append PySem.F.slot_list_append PySem.F.type_list_append (pxf_cons (px_callC (takes_of rfl rfl rfl rfl) Fc_moved_down hr (Nat.le_refl _) bp_moved_down rfl (pxc_fz (px_ix ix_seq c_ix y_ix (px_var 3) (px_un un_neg c_neg y_neg (px_c pd_int)) (fun _ _ => rfl)) (pxc_fz (px_var 2) (pxc_fz (px_var 5) pxc_nil)))) pxf_nil)) (w_mt f_append)))))
  (pxb_one (pxs_ret (px_var 3)))))))
  unfold x_walk x_walk_b2 x_walk_b1
  exact h
theorem dv__law_urn {w : World} {K : PySem.W.Frag} {mg : Str → Option Value} {base : Heap} {cl : String → Addr} {j : Nat} {cdv : Value} {f : Addr} {A : Around} {outer : List Env} {s : Shared} {H : Hp} {E : XK} (T : Tx K mg cl) (hr : Room j (A.deeper (envOfC "_law_urn" (defScope s__law_urn) s.heap.objs.size f cdv)))
    : PXB (cxOf (L2.CX PW w) PW w K mg base N__law_urn "_law_urn" (defScope s__law_urn) f cdv A outer s H E) cl (fun cls d _ H => E cls d H) (defBody s__law_urn) (x__law_urn) := by
  have h : PXB (cxOf (L2.CX PW w) PW w K mg base N__law_urn "_law_urn" (defScope s__law_urn) f cdv A outer s H E) cl (fun cls d _ H => E cls d H) (defBody s__law_urn) _ := (pxb_cons (pxs_set 2 sc__law_urn.nd (px_ifExp (pxt_cmp op_lt c_lt y_lt (px_var 1) (px_callB call_len c_len y_len rfl T.b_len rfl (pxa_cons (px_var 0) pxa_nil)) (nomark _)) (px_ix ix_seq c_ix y_ix (px_var 0) (px_var 1) (fun _ _ => rfl)) (px_bin op_addA c_add y_add (px_bin op_mulW c_mul y_mul (px_c pd_int) (px_var 1)) (px_c pd_int))))
  (pxb_one (pxs_ret (px_lst (pxf_cons (px_callB (cr_maxA rfl) c_max y_max rfl T.b_max rfl (pxa_cons (px_c pd_int) (pxa_cons (px_bin op_sub c_sub y_sub (px_callB call_abs c_abs y_abs rfl T.b_abs rfl (pxa_cons (px_var 2) pxa_nil)) (px_bin op_powW c_pow y_pow (px_c pd_int) (px_c pd_int))) pxa_nil))) (pxf_cons (px_bin op_addA c_add y_add (px_bin op_addA c_add y_add (px_bin op_mulW c_mul y_mul (px_bin op_mod c_mod y_mod (px_callTy call_int1 c_int y_int rfl T.b_int rfl (pxa_cons (px_var 2) pxa_nil)) (px_bin op_addA c_add y_add (px_bin op_powW c_pow y_pow (px_c pd_int) (px_c pd_int)) (px_c pd_int))) (px_c pd_int)) (px_bin op_mulW c_mul y_mul (px_c pd_int) (px_var 1))) (px_c pd_int)) (pxf_cons (px_c pd_int) pxf_nil)))))))
  unfold x__law_urn
  exact h
theorem dv__law_pick {w : World} {K : PySem.W.Frag} {mg : Str → Option Value} {base : Heap} {cl : String → Addr} {j : Nat} {cdv : Value} {f : Addr} {A : Around} {outer : List Env} {s : Shared} {H : Hp} {E : XK} (T : Tx K mg cl) (hr : Room j (A.deeper (envOfC "_law_pick" (defScope s__law_pick) s.heap.objs.size f cdv)))
    : PXB (cxOf (L2.CX PW w) PW w K mg base N__law_pick "_law_pick" (defScope s__law_pick) f cdv A outer s H E) cl (fun cls d _ H => E cls d H) (defBody s__law_pick) (x__law_pick) := by
  have h : PXB (cxOf (L2.CX PW w) PW w K mg base N__law_pick "_law_pick" (defScope s__law_pick) f cdv A outer s H E) cl (fun cls d _ H => E cls d H) (defBody s__law_pick) _ := (pxb_cons (pxs_if (pxt_cmp op_gt c_gt y_gt (px_ix ix_seq c_ix y_ix (px_var 0) (px_c pd_int) (fun _ _ => rfl)) (px_c pd_int) (nomark _)) (pxb_cons (pxs_set 3 sc__law_pick.nd (px_bin op_mod c_mod y_mod (px_callTy call_int1 c_int y_int rfl T.b_int rfl (pxa_cons (px_ix ix_seq c_ix y_ix (px_var 0) (px_c pd_int) (fun _ _ => rfl)) pxa_nil)) (px_var 1)))
  (pxb_cons (PSD.mono (psd_st 0 (px_bin op_fdivW c_div y_div (px_ix ix_seq c_ix y_ix (px_var 0) (px_c pd_int) (fun _ _ => rfl)) (px_var 1)) (px_c pd_int)) w_st)
  (pxb_one (pxs_ret (px_var 3))))) pxb_nil)
  (pxb_cons (PSD.mono (psd_st 0 (px_bin op_addA c_add y_add (px_ix ix_seq c_ix y_ix (px_var 0) (px_c pd_int) (fun _ _ => rfl)) (px_c pd_int)) (px_c pd_int)) w_st)
  (pxb_cons (pxs_set 2 sc__law_pick.nd (px_bin op_mod c_mod y_mod (px_bin op_powW c_pow y_pow (px_callTy call_int1 c_int y_int rfl T.b_int rfl (pxa_cons (px_bin op_addA c_add y_add (px_ix ix_seq c_ix y_ix (px_var 0) (px_c pd_int) (fun _ _ => rfl)) (px_bin op_mulW c_mul y_mul (px_c pd_int) (px_ix ix_seq c_ix y_ix (px_var 0) (px_c pd_int) (fun _ _ => rfl)))) pxa_nil)) (px_c pd_int)) (px_bin op_addA c_add y_add (px_bin op_powW c_pow y_pow (px_c pd_int) (px_c pd_int)) (px_c pd_int))))
  (pxb_cons (pxs_set 2 sc__law_pick.nd (px_bin op_mod c_mod y_mod (px_bin op_powW c_pow y_pow (px_callTy call_int1 c_int y_int rfl T.b_int rfl (pxa_cons (px_bin op_addA c_add y_add (px_var 2) (px_bin op_mulW c_mul y_mul (px_c pd_int) (px_ix ix_seq c_ix y_ix (px_var 0) (px_c pd_int) (fun _ _ => rfl)))) pxa_nil)) (px_c pd_int)) (px_bin op_addA c_add y_add (px_bin op_powW c_pow y_pow (px_c pd_int) (px_c pd_int)) (px_c pd_int))))
  (pxb_one (pxs_ret (px_bin op_mod c_mod y_mod (px_callTy call_int1 c_int y_int rfl T.b_int rfl (pxa_cons (px_bin op_fdivW c_div y_div (px_var 2) (px_c pd_int)) pxa_nil)) (px_var 1))))))))
  unfold x__law_pick
  exact h
theorem dv__law_reach {w : World} {K : PySem.W.Frag} {mg : Str → Option Value} {base : Heap} {cl : String → Addr} {j : Nat} {cdv : Value} {f : Addr} {A : Around} {outer : List Env} {s : Shared} {H : Hp} {E : XK} (T : Tx K mg cl) (hr : Room j (A.deeper (envOfC "_law_reach" (defScope s__law_reach) s.heap.objs.size f cdv)))
    (Fc__law_pick : FnC PW w K mg base j "_law_pick" P__law_pick s__law_pick (spF cl F__law_pick))
    : PXB (cxOf (L2.CX PW w) PW w K mg base N__law_reach "_law_reach" (defScope s__law_reach) f cdv A outer s H E) cl (fun cls d _ H => E cls d H) (defBody s__law_reach) (x__law_reach) := by
  have h : PXB (cxOf (L2.CX PW w) PW w K mg base N__law_reach "_law_reach" (defScope s__law_reach) f cdv A outer s H E) cl (fun cls d _ H => E cls d H) (defBody s__law_reach) _ := (pxb_cons (pxs_set 1 sc__law_reach.nd (px_lst (pxf_cons (px_callC (takes_of rfl rfl rfl rfl) Fc__law_pick hr (Nat.le_refl _) bp__law_pick rfl (pxc_an (px_var 0) (pxc_fz (px_c pd_int) pxc_nil))) (pxf_cons (px_callC (takes_of rfl rfl rfl rfl) Fc__law_pick hr (Nat.le_refl _) bp__law_pick rfl (pxc_an (px_var 0) (pxc_fz (px_c pd_int) pxc_nil))) (pxf_cons (px_bin op_addA c_add y_add (px_bin op_mulW c_mul y_mul (px_callC (takes_of rfl rfl rfl rfl) Fc__law_pick hr (Nat.le_refl _) bp__law_pick rfl (pxc_an (px_var 0) (pxc_fz (px_bin op_powW c_pow y_pow (px_c pd_int) (px_c pd_int)) pxc_nil))) (px_bin op_powW c_pow y_pow (px_c pd_int) (px_c pd_int))) (px_callC (takes_of rfl rfl rfl rfl) Fc__law_pick hr (Nat.le_refl _) bp__law_pick rfl (pxc_an (px_var 0) (pxc_fz (px_c pd_int) pxc_nil)))) pxf_nil)))))
  (pxb_cons (pxs_set 2 sc__law_reach.nd (px_ix ix_seq c_ix y_ix (px_var 1) (px_callC (takes_of rfl rfl rfl rfl) Fc__law_pick hr (Nat.le_refl _) bp__law_pick rfl (pxc_an (px_var 0) (pxc_fz (px_c pd_int) pxc_nil))) (fun _ _ => rfl)))
  (pxb_one (pxs_ret (px_ix ix_seq c_ix y_ix (px_lst (pxf_cons (px_var 2) (pxf_cons (px_un un_neg c_neg y_neg (px_var 2)) pxf_nil))) (px_callC (takes_of rfl rfl rfl rfl) Fc__law_pick hr (Nat.le_refl _) bp__law_pick rfl (pxc_an (px_var 0) (pxc_fz (px_c pd_int) pxc_nil))) (fun _ _ => rfl))))))
  unfold x__law_reach
  exact h
theorem dv__law_frame {w : World} {K : PySem.W.Frag} {mg : Str → Option Value} {base : Heap} {cl : String → Addr} {j : Nat} {cdv : Value} {f : Addr} {A : Around} {outer : List Env} {s : Shared} {H : Hp} {E : XK} (T : Tx K mg cl) (hr : Room j (A.deeper (envOfC "_law_frame" (defScope s__law_frame) s.heap.objs.size f cdv)))
    (Fc__law_pick : FnC PW w K mg base j "_law_pick" P__law_pick s__law_pick (spF cl F__law_pick))
    (Fc__law_reach : FnC PW w K mg base j "_law_reach" P__law_reach s__law_reach (spF cl F__law_reach))
    : PXB (cxOf (L2.CX PW w) PW w K mg base N__law_frame "_law_frame" (defScope s__law_frame) f cdv A outer s H E) cl (fun cls d _ H => E cls d H) (defBody s__law_frame) (x__law_frame) := by
  have h : PXB (cxOf (L2.CX PW w) PW w K mg base N__law_frame "_law_frame" (defScope s__law_frame) f cdv A outer s H E) cl (fun cls d _ H => E cls d H) (defBody s__law_frame) _ := (pxb_cons (pxs_set 3 sc__law_frame.nd (px_callTy call_tuple_of c_tuple y_tuple rfl T.b_tuple rfl (pxa_cons (px_bin op_addA c_add y_add (px_lst (pxf_cons (px_c pd_int) pxf_nil)) (PD.mono (pd_lc (own := [("point", 9)]) rfl sc__law_frame.nd (PID.mono (pid_range1 rfl T.b_range (pxa_cons (px_bin op_sub c_sub y_sub (px_var 1) (px_c pd_int)) pxa_nil)) w_rg) (blkOk_by (N := N__law_frame) (sc := defScope s__law_frame) (own := [("point", 9)]) (by decide +kernel)) (fun _ => (pxg_name (i := 9) sc__law_frame.nd rfl (by first | exact Or.inl rfl | exact Or.inr rfl))) (fun _ => pxts_nil) (fun _ => (px_callC takes0 Fc__law_reach hr (Nat.le_refl _) bp__law_reach rfl (pxc_an (px_var 0) pxc_nil)))) w_lc)) pxa_nil)))
  (pxb_cons (pxs_set 4 sc__law_frame.nd (px_lst pxf_nil))
  (pxb_cons (pxs_for (passes_of rfl) rfl (PID.mono (pid_range1 rfl T.b_range (pxa_cons (px_callC (takes_of rfl rfl rfl rfl) Fc__law_pick hr (Nat.le_refl _) bp__law_pick rfl (pxc_an (px_var 0) (pxc_fz (px_bin op_addA c_add y_add (px_var 2) (px_c pd_int)) pxc_nil))) pxa_nil)) w_rg) (pxg_name (i := 5) sc__law_frame.nd rfl (by first | exact Or.inl rfl | exact Or.inr rfl)) (pxb_one (pxs_if (pxt_cmp op_gt c_gt y_gt (px_var 1) (px_c pd_int) (nomark _)) (pxb_cons (pxs_set 6 sc__law_frame.nd (px_callC (takes_of rfl rfl rfl rfl) Fc__law_pick hr (Nat.le_refl _) bp__law_pick rfl (pxc_an (px_var 0) (pxc_fz (px_var 1) pxc_nil))))
  (pxb_cons (pxs_set 7 sc__law_frame.nd (px_bin op_mod c_mod y_mod (px_callTy call_int1 c_int y_int rfl T.b_int rfl (pxa_cons (px_bin op_addA c_add y_add (px_bin op_addA c_add y_add (px_var 6) (px_c pd_int)) (px_callC (takes_of rfl rfl rfl rfl) Fc__law_pick hr (Nat.le_refl _) bp__law_pick rfl (pxc_an (px_var 0) (pxc_fz (px_bin op_sub c_sub y_sub (px_var 1) (px_c pd_int)) pxc_nil)))) pxa_nil)) (px_var 1)))
  (pxb_cons (pxs_set 8 sc__law_frame.nd (px_ix ix_seq c_ix y_ix (px_lst (pxf_cons (px_c pd_int) (pxf_cons (px_callC (takes_of rfl rfl rfl rfl) Fc__law_pick hr (Nat.le_refl _) bp__law_pick rfl (pxc_an (px_var 0) (pxc_fz (px_c pd_int) pxc_nil))) (pxf_cons (px_callC (takes_of rfl rfl rfl rfl) Fc__law_pick hr (Nat.le_refl _) bp__law_pick rfl (pxc_an (px_var 0) (pxc_fz (px_c pd_int) pxc_nil))) pxf_nil)))) (px_callC (takes_of rfl rfl rfl rfl) Fc__law_pick hr (Nat.le_refl _) bp__law_pick rfl (pxc_an (px_var 0) (pxc_fz (px_c pd_int) pxc_nil))) (fun _ _ => rfl)))
  (pxb_one (pxs_expr (PD.mono (pd_mt 4 mt_append cm_append PySem.F.slot_list_append PySem.F.type_list_append (pxf_cons (px_tup (pxf_cons (px_var 6) (pxf_cons (px_var 7) (pxf_cons (px_bin op_addA c_add y_add (px_bin op_sub c_sub y_sub (px_ix ix_seq c_ix y_ix (px_var 3) (px_var 6) (fun _ _ => rfl)) (px_ix ix_seq c_ix y_ix (px_var 3) (px_var 7) (fun _ _ => rfl))) (px_var 8)) pxf_nil)))) pxf_nil)) (w_mt f_append))))))) pxb_nil)))
  (pxb_one (pxs_ret (px_tup (pxf_cons (px_tup (pxf_cons (px_var 1) (pxf_cons (px_callTy call_tuple_of c_tuple y_tuple rfl T.b_tuple rfl (pxa_cons (px_var 4) pxa_nil)) pxf_nil))) (pxf_cons (px_var 3) pxf_nil))))))))
  unfold x__law_frame x__law_frame_c2 x__law_frame_b1
  exact h
end T10
set_option Elab.async false
set_option linter.all false
set_option maxRecDepth 100000
set_option maxHeartbeats 4000000
namespace T10
open PySem PySem.Spec PyProof.Rows L2 DL FL FP
theorem dv__law_whole {w : World} {K : PySem.W.Frag} {mg : Str → Option Value} {base : Heap} {cl : String → Addr} {j : Nat} {cdv : Value} {f : Addr} {A : Around} {outer : List Env} {s : Shared} {H : Hp} {E : XK} (T : Tx K mg cl) (hr : Room j (A.deeper (envOfC "_law_whole" (defScope s__law_whole) s.heap.objs.size f cdv)))
    : PXB (cxOf (L2.CX PW w) PW w K mg base N__law_whole "_law_whole" (defScope s__law_whole) f cdv A outer s H E) cl (fun cls d _ H => E cls d H) (defBody s__law_whole) (x__law_whole) := by
  have h : PXB (cxOf (L2.CX PW w) PW w K mg base N__law_whole "_law_whole" (defScope s__law_whole) f cdv A outer s H E) cl (fun cls d _ H => E cls d H) (defBody s__law_whole) _ := (pxb_one (pxs_ret (px_and (PD.mono (pd_isX ist_int (by decide) (fun _ => rfl) rfl T.b_isinstance rfl T.b_int rfl (px_var 0)) w_is) (px_one (px_not (PD.mono (pd_isX ist_bool (by decide) (fun _ => rfl) rfl T.b_isinstance rfl T.b_bool rfl (px_var 0)) w_is))))))
  unfold x__law_whole
  exact h
theorem dv__law_moments {w : World} {K : PySem.W.Frag} {mg : Str → Option Value} {base : Heap} {cl : String → Addr} {j : Nat} {cdv : Value} {f : Addr} {A : Around} {outer : List Env} {s : Shared} {H : Hp} {E : XK} (T : Tx K mg cl) (hr : Room j (A.deeper (envOfC "_law_moments" (defScope s__law_moments) s.heap.objs.size f cdv)))
    (Fc__law_whole : FnC PW w K mg base j "_law_whole" P__law_whole s__law_whole (spF cl F__law_whole))
    : PXB (cxOf (L2.CX PW w) PW w K mg base N__law_moments "_law_moments" (defScope s__law_moments) f cdv A outer s H E) cl (fun cls d _ H => E cls d H) (defBody s__law_moments) (x__law_moments) := by
  have h : PXB (cxOf (L2.CX PW w) PW w K mg base N__law_moments "_law_moments" (defScope s__law_moments) f cdv A outer s H E) cl (fun cls d _ H => E cls d H) (defBody s__law_moments) _ := (pxb_cons (pxs_if (pxw_pt (pxw_or (pxt_not (pxt_val (PD.mono (pd_isX ist_tuple (by decide) (fun _ => rfl) rfl T.b_isinstance rfl T.b_tuple rfl (px_var 1)) w_is))) (pxw_or1 (pxt_cmp (op_neD hr.units) c_ne y_eq (px_callB call_len c_len y_len rfl T.b_len rfl (pxa_cons (px_var 1) pxa_nil)) (px_ix ix_seq c_ix y_ix (px_var 0) (px_c pd_int) (fun _ _ => rfl)) (nomark _))))) (pxb_one (pxs_ret (px_c pd_bl))) pxb_nil)
  (pxb_one (pxs_ret (px_and (px_cmp (op_eqD hr.units) c_eq y_eq (PD.mono (pd_lc (own := [("moment", 2)]) rfl sc__law_moments.nd (pxi_seq (px_var 1)) (blkOk_by (N := N__law_moments) (sc := defScope s__law_moments) (own := [("moment", 2)]) (by decide +kernel)) (fun _ => (pxg_name (i := 2) sc__law_moments.nd rfl (by first | exact Or.inl rfl | exact Or.inr rfl))) (fun _ => (pxts_one (pxt_not (pxt_val (px_callC takes0 Fc__law_whole hr (Nat.le_refl _) bp__law_whole rfl (pxc_fz (px_var 2) pxc_nil)))))) (fun _ => (px_var 2))) w_lc) (px_lst pxf_nil) (nomark _)) (px_one (px_cmp (op_eqD hr.units) c_eq y_eq (px_ix ix_seq c_ix y_ix (px_var 1) (px_c pd_int) (fun _ _ => rfl)) (px_c pd_int) (nomark _)))))))
  unfold x__law_moments x__law_moments_c2 x__law_moments_q1
  exact h
theorem dv__law_keeps {w : World} {K : PySem.W.Frag} {mg : Str → Option Value} {base : Heap} {cl : String → Addr} {j : Nat} {cdv : Value} {f : Addr} {A : Around} {outer : List Env} {s : Shared} {H : Hp} {E : XK} (T : Tx K mg cl) (hr : Room j (A.deeper (envOfC "_law_keeps" (defScope s__law_keeps) s.heap.objs.size f cdv)))
    : PXB (cxOf (L2.CX PW w) PW w K mg base N__law_keeps "_law_keeps" (defScope s__law_keeps) f cdv A outer s H E) cl (fun cls d _ H => E cls d H) (defBody s__law_keeps) (x__law_keeps) := by
  have h : PXB (cxOf (L2.CX PW w) PW w K mg base N__law_keeps "_law_keeps" (defScope s__law_keeps) f cdv A outer s H E) cl (fun cls d _ H => E cls d H) (defBody s__law_keeps) _ := (pxb_one (pxs_ret (px_cmp (op_eqD hr.units) c_eq y_eq (PD.mono (pd_lc (own := [("bound", 2)]) rfl sc__law_keeps.nd (pxi_seq (px_ix ix_seq c_ix y_ix (px_var 0) (px_c pd_int) (fun _ _ => rfl))) (blkOk_by (N := N__law_keeps) (sc := defScope s__law_keeps) (own := [("bound", 2)]) (by decide +kernel)) (fun _ => (pxg_name (i := 2) sc__law_keeps.nd rfl (by first | exact Or.inl rfl | exact Or.inr rfl))) (fun _ => (pxts_one (pxt_cmp op_gt c_gt y_gt (px_bin op_sub c_sub y_sub (px_ix ix_seq c_ix y_ix (px_var 1) (px_ix ix_seq c_ix y_ix (px_var 2) (px_c pd_int) (fun _ _ => rfl)) (fun _ _ => rfl)) (px_ix ix_seq c_ix y_ix (px_var 1) (px_ix ix_seq c_ix y_ix (px_var 2) (px_c pd_int) (fun _ _ => rfl)) (fun _ _ => rfl))) (px_ix ix_seq c_ix y_ix (px_var 2) (px_c pd_int) (fun _ _ => rfl)) (nomark _)))) (fun _ => (px_var 2))) w_lc) (px_lst pxf_nil) (nomark _))))
  unfold x__law_keeps x__law_keeps_c2 x__law_keeps_q1
  exact h
theorem dv__law_held {w : World} {K : PySem.W.Frag} {mg : Str → Option Value} {base : Heap} {cl : String → Addr} {j : Nat} {cdv : Value} {f : Addr} {A : Around} {outer : List Env} {s : Shared} {H : Hp} {E : XK} (T : Tx K mg cl) (hr : Room j (A.deeper (envOfC "_law_held" (defScope s__law_held) s.heap.objs.size f cdv)))
    (Fc__law_pick : FnC PW w K mg base j "_law_pick" P__law_pick s__law_pick (spF cl F__law_pick))
    (Fc__law_frame : FnC PW w K mg base j "_law_frame" P__law_frame s__law_frame (spF cl F__law_frame))
    : PXB (cxOf (L2.CX PW w) PW w K mg base N__law_held "_law_held" (defScope s__law_held) f cdv A outer s H E) cl (fun cls d _ H => E cls d H) (defBody s__law_held) (x__law_held) := by
  have h : PXB (cxOf (L2.CX PW w) PW w K mg base N__law_held "_law_held" (defScope s__law_held) f cdv A outer s H E) cl (fun cls d _ H => E cls d H) (defBody s__law_held) _ := (pxb_cons (pxs_asg (px_callC (takes_of rfl rfl rfl rfl) Fc__law_frame hr (Nat.le_refl _) bp__law_frame rfl (pxc_an (px_var 0) (pxc_fz (px_bin op_addA c_add y_add (px_c pd_int) (px_callC (takes_of rfl rfl rfl rfl) Fc__law_pick hr (Nat.le_refl _) bp__law_pick rfl (pxc_an (px_var 0) (pxc_fz (px_c pd_int) pxc_nil)))) (pxc_fz (px_c pd_int) pxc_nil)))) (w_tup (pgd_tup rfl (PGsD.mono (pgsd_cons (pxg_name (i := 3) sc__law_held.nd rfl (by first | exact Or.inl rfl | exact Or.inr rfl)) (PGsD.mono (pgsd_cons (pxg_name (i := 4) sc__law_held.nd rfl (by first | exact Or.inl rfl | exact Or.inr rfl)) pxgs_nil) wc_gs)) wc_gs) (ys_len (ysc_len (ysc_len ysn_len))))))
  (pxb_cons (pxs_set 1 sc__law_held.nd (px_callTy call_list_of c_list y_list rfl T.b_list rfl (pxa_cons (px_ix ix_seq c_ix y_ix (px_var 3) (px_c pd_int) (fun _ _ => rfl)) pxa_nil)))
  (pxb_cons (pxs_for (passes_of rfl) rfl (PID.mono (pid_range2 rfl T.b_range (pxa_cons (px_c pd_int) (pxa_cons (px_ix ix_seq c_ix y_ix (px_var 3) (px_c pd_int) (fun _ _ => rfl)) pxa_nil))) w_rg) (pxg_name (i := 2) sc__law_held.nd rfl (by first | exact Or.inl rfl | exact Or.inr rfl)) (pxb_one (pxs_set 1 sc__law_held.nd (px_bin op_addA c_add y_add (px_var 1) (px_lst (pxf_cons (px_tup (pxf_cons (px_var 2) (pxf_cons (px_c pd_int) (pxf_cons (px_bin op_addA c_add y_add (px_ix ix_seq c_ix y_ix (px_var 4) (px_var 2) (fun _ _ => rfl)) (px_callC (takes_of rfl rfl rfl rfl) Fc__law_pick hr (Nat.le_refl _) bp__law_pick rfl (pxc_an (px_var 0) (pxc_fz (px_c pd_int) pxc_nil)))) pxf_nil)))) (pxf_cons (px_tup (pxf_cons (px_c pd_int) (pxf_cons (px_var 2) (pxf_cons (px_bin op_sub c_sub y_sub (px_callC (takes_of rfl rfl rfl rfl) Fc__law_pick hr (Nat.le_refl _) bp__law_pick rfl (pxc_an (px_var 0) (pxc_fz (px_c pd_int) pxc_nil))) (px_ix ix_seq c_ix y_ix (px_var 4) (px_var 2) (fun _ _ => rfl))) pxf_nil)))) pxf_nil)))))))
  (pxb_one (pxs_ret (px_tup (pxf_cons (px_tup (pxf_cons (px_ix ix_seq c_ix y_ix (px_var 3) (px_c pd_int) (fun _ _ => rfl)) (pxf_cons (px_callTy call_tuple_of c_tuple y_tuple rfl T.b_tuple rfl (pxa_cons (px_var 1) pxa_nil)) pxf_nil))) (pxf_cons (px_var 4) pxf_nil))))))))
  unfold x__law_held x__law_held_b1
  exact h
theorem dv__law_other {w : World} {K : PySem.W.Frag} {mg : Str → Option Value} {base : Heap} {cl : String → Addr} {j : Nat} {cdv : Value} {f : Addr} {A : Around} {outer : List Env} {s : Shared} {H : Hp} {E : XK} (T : Tx K mg cl) (hr : Room j (A.deeper (envOfC "_law_other" (defScope s__law_other) s.heap.objs.size f cdv)))
    (Fc__law_keeps : FnC PW w K mg base j "_law_keeps" P__law_keeps s__law_keeps (spF cl F__law_keeps))
    (Fc__law_pick : FnC PW w K mg base j "_law_pick" P__law_pick s__law_pick (spF cl F__law_pick))
    : PXB (cxOf (L2.CX PW w) PW w K mg base N__law_other "_law_other" (defScope s__law_other) f cdv A outer s H E) cl (fun cls d _ H => E cls d H) (defBody s__law_other) (x__law_other) := by
  have h : PXB (cxOf (L2.CX PW w) PW w K mg base N__law_other "_law_other" (defScope s__law_other) f cdv A outer s H E) cl (fun cls d _ H => E cls d H) (defBody s__law_other) _ := (pxb_cons (pxs_set 3 sc__law_other.nd (px_callTy call_list_of c_list y_list rfl T.b_list rfl (pxa_cons (px_var 2) pxa_nil)))
  (pxb_cons (pxs_for (passes_of rfl) rfl (PID.mono (pid_range1 rfl T.b_range (pxa_cons (px_bin op_mulW c_mul y_mul (px_c pd_int) (px_ix ix_seq c_ix y_ix (px_var 1) (px_c pd_int) (fun _ _ => rfl))) pxa_nil)) w_rg) (pxg_name (i := 4) sc__law_other.nd rfl (by first | exact Or.inl rfl | exact Or.inr rfl)) (pxb_one (pxs_if (pxt_cmp op_gt c_gt y_gt (px_ix ix_seq c_ix y_ix (px_var 1) (px_c pd_int) (fun _ _ => rfl)) (px_c pd_int) (nomark _)) (pxb_cons (pxs_set 5 sc__law_other.nd (px_bin op_addA c_add y_add (px_c pd_int) (px_callC (takes_of rfl rfl rfl rfl) Fc__law_pick hr (Nat.le_refl _) bp__law_pick rfl (pxc_an (px_var 0) (pxc_fz (px_bin op_sub c_sub y_sub (px_ix ix_seq c_ix y_ix (px_var 1) (px_c pd_int) (fun _ _ => rfl)) (px_c pd_int)) pxc_nil)))))
  (pxb_cons (pxs_set 6 sc__law_other.nd (px_ix ix_seq c_ix y_ix (px_lst (pxf_cons (px_c pd_int) (pxf_cons (px_un un_neg c_neg y_neg (px_c pd_int)) (pxf_cons (px_c pd_int) (pxf_cons (px_un un_neg c_neg y_neg (px_c pd_int)) pxf_nil))))) (px_callC (takes_of rfl rfl rfl rfl) Fc__law_pick hr (Nat.le_refl _) bp__law_pick rfl (pxc_an (px_var 0) (pxc_fz (px_c pd_int) pxc_nil))) (fun _ _ => rfl)))
  (pxb_cons (pxs_set 7 sc__law_other.nd (px_bin op_addA c_add y_add (px_bin op_addA c_add y_add (px_slice (px_var 3) pxo_none (pxo_some (px_var 5))) (px_lst (pxf_cons (px_bin op_addA c_add y_add (px_ix ix_seq c_ix y_ix (px_var 3) (px_var 5) (fun _ _ => rfl)) (px_var 6)) pxf_nil))) (px_slice (px_var 3) (pxo_some (px_bin op_addA c_add y_add (px_var 5) (px_c pd_int))) pxo_none)))
  (pxb_one (pxs_if (pxt_val (px_callC (takes_of rfl rfl rfl rfl) Fc__law_keeps hr (Nat.le_refl _) bp__law_keeps rfl (pxc_fz (px_var 1) (pxc_fz (px_var 7) pxc_nil)))) (pxb_one (pxs_set 3 sc__law_other.nd (px_var 7))) pxb_nil))))) pxb_nil)))
  (pxb_one (pxs_ret (px_callTy call_tuple_of c_tuple y_tuple rfl T.b_tuple rfl (pxa_cons (px_var 3) pxa_nil))))))
  unfold x__law_other x__law_other_b1
  exact h
theorem dv__law_is_move {w : World} {K : PySem.W.Frag} {mg : Str → Option Value} {base : Heap} {cl : String → Addr} {j : Nat} {cdv : Value} {f : Addr} {A : Around} {outer : List Env} {s : Shared} {H : Hp} {E : XK} (T : Tx K mg cl) (hr : Room j (A.deeper (envOfC "_law_is_move" (defScope s__law_is_move) s.heap.objs.size f cdv)))
    : PXB (cxOf (L2.CX PW w) PW w K mg base N__law_is_move "_law_is_move" (defScope s__law_is_move) f cdv A outer s H E) cl (fun cls d _ H => E cls d H) (defBody s__law_is_move) (x__law_is_move) := by
  have h : PXB (cxOf (L2.CX PW w) PW w K mg base N__law_is_move "_law_is_move" (defScope s__law_is_move) f cdv A outer s H E) cl (fun cls d _ H => E cls d H) (defBody s__law_is_move) _ := (pxb_cons (PSD.mono (psd_setLc 2 (own := [("before", 3), ("later", 4)]) rfl sc__law_is_move.nd (PID.mono (pid_zip rfl T.b_zip (pxf_cons (px_var 0) (pxf_cons (px_var 1) pxf_nil))) w_zip) (blkOk_by (N := N__law_is_move) (sc := defScope s__law_is_move) (own := [("before", 3), ("later", 4)]) (by decide +kernel)) (fun _ => (w_tup (pgd_tup rfl (PGsD.mono (pgsd_cons (pxg_name (i := 3) sc__law_is_move.nd rfl (by first | exact Or.inl rfl | exact Or.inr rfl)) (PGsD.mono (pgsd_cons (pxg_name (i := 4) sc__law_is_move.nd rfl (by first | exact Or.inl rfl | exact Or.inr rfl)) pxgs_nil) wc_gs)) wc_gs) (ys_len (ysc_len (ysc_len ysn_len)))))) (fun _ => (pxts_one (pxt_cmp (op_neD hr.units) c_ne y_eq (px_var 4) (px_var 3) (nomark _)))) (fun _ => (px_bin op_sub c_sub y_sub (px_var 4) (px_var 3))) (sw_true rfl rfl rfl (by decide +kernel))) (w_set_of w_lc))
  (pxb_one (pxs_ret (px_and (px_cmp (op_neD hr.units) c_ne y_eq (px_var 2) (px_lst pxf_nil) (nomark _)) (px_and (px_cmp (op_eqD hr.units) c_eq y_eq (px_ix ix_seq c_ix y_ix (px_var 0) (px_c pd_int) (fun _ _ => rfl)) (px_ix ix_seq c_ix y_ix (px_var 1) (px_c pd_int) (fun _ _ => rfl)) (nomark _)) (px_and (px_cmp (op_eqD hr.units) c_eq y_eq (px_callB call_abs c_abs y_abs rfl T.b_abs rfl (pxa_cons (px_ix ix_seq c_ix y_ix (px_var 2) (px_c pd_int) (fun _ _ => rfl)) pxa_nil)) (px_c pd_int) (nomark _)) (px_one (px_cmp (op_eqD hr.units) c_eq y_eq (PD.mono (pd_mt 2 (mt_countD (u65 hr)) cm_count PySem.F.slot_list_count PySem.F.type_list_count (pxf_cons (px_ix ix_seq c_ix y_ix (px_var 2) (px_c pd_int) (fun _ _ => rfl)) pxf_nil)) (w_mt f_count)) (px_callB call_len c_len y_len rfl T.b_len rfl (pxa_cons (px_var 2) pxa_nil)) (nomark _)))))))))
  unfold x__law_is_move x__law_is_move_c2 x__law_is_move_q1
  exact h
theorem dv__law_walk_right {w : World} {K : PySem.W.Frag} {mg : Str → Option Value} {base : Heap} {cl : String → Addr} {j : Nat} {cdv : Value} {f : Addr} {A : Around} {outer : List Env} {s : Shared} {H : Hp} {E : XK} (T : Tx K mg cl) (hr : Room j (A.deeper (envOfC "_law_walk_right" (defScope s__law_walk_right) s.heap.objs.size f cdv)))
    (Fc_moves_between : FnC PW w K mg base j "moves_between" P_moves_between s_moves_between (spF cl F_moves_between))
    (Fc_walk : FnC PW w K mg base j "walk" P_walk s_walk (spF cl F_walk))
    (Fc__law_is_move : FnC PW w K mg base j "_law_is_move" P__law_is_move s__law_is_move (spF cl F__law_is_move))
    (Fc__law_moments : FnC PW w K mg base j "_law_moments" P__law_moments s__law_moments (spF cl F__law_moments))
    (Fc_is_world : FnC PW w K mg base j "is_world" P_is_world s_is_world (spF cl F_is_world))
    : PXB (cxOf (L2.CX PW w) PW w K mg base N__law_walk_right "_law_walk_right" (defScope s__law_walk_right) f cdv A outer s H E) cl (fun cls d _ H => E cls d H) (defBody s__law_walk_right) (x__law_walk_right) := by
  have h : PXB (cxOf (L2.CX PW w) PW w K mg base N__law_walk_right "_law_walk_right" (defScope s__law_walk_right) f cdv A outer s H E) cl (fun cls d _ H => E cls d H) (defBody s__law_walk_right) _ := (pxb_cons (pxs_set 3 sc__law_walk_right.nd (px_callB (cr_maxA rfl) c_max y_max rfl T.b_max rfl (pxa_cons (px_bin op_addA c_add y_add (px_lst (pxf_cons (px_c pd_int) pxf_nil)) (PD.mono (pd_lc (own := [("before", 8), ("later", 9)]) rfl sc__law_walk_right.nd (PID.mono (pid_zip rfl T.b_zip (pxf_cons (px_var 1) (pxf_cons (px_var 2) pxf_nil))) w_zip) (blkOk_by (N := N__law_walk_right) (sc := defScope s__law_walk_right) (own := [("before", 8), ("later", 9)]) (by decide +kernel)) (fun _ => (w_tup (pgd_tup rfl (PGsD.mono (pgsd_cons (pxg_name (i := 8) sc__law_walk_right.nd rfl (by first | exact Or.inl rfl | exact Or.inr rfl)) (PGsD.mono (pgsd_cons (pxg_name (i := 9) sc__law_walk_right.nd rfl (by first | exact Or.inl rfl | exact Or.inr rfl)) pxgs_nil) wc_gs)) wc_gs) (ys_len (ysc_len (ysc_len ysn_len)))))) (fun _ => pxts_nil) (fun _ => (px_bin op_sub c_sub y_sub (px_var 9) (px_var 8)))) w_lc)) pxa_nil)))
  (pxb_cons (pxs_set 4 sc__law_walk_right.nd (px_callB (cr_maxA rfl) c_max y_max rfl T.b_max rfl (pxa_cons (px_bin op_addA c_add y_add (px_lst (pxf_cons (px_c pd_int) pxf_nil)) (PD.mono (pd_lc (own := [("before", 8), ("later", 9)]) rfl sc__law_walk_right.nd (PID.mono (pid_zip rfl T.b_zip (pxf_cons (px_var 1) (pxf_cons (px_var 2) pxf_nil))) w_zip) (blkOk_by (N := N__law_walk_right) (sc := defScope s__law_walk_right) (own := [("before", 8), ("later", 9)]) (by decide +kernel)) (fun _ => (w_tup (pgd_tup rfl (PGsD.mono (pgsd_cons (pxg_name (i := 8) sc__law_walk_right.nd rfl (by first | exact Or.inl rfl | exact Or.inr rfl)) (PGsD.mono (pgsd_cons (pxg_name (i := 9) sc__law_walk_right.nd rfl (by first | exact Or.inl rfl | exact Or.inr rfl)) pxgs_nil) wc_gs)) wc_gs) (ys_len (ysc_len (ysc_len ysn_len)))))) (fun _ => pxts_nil) (fun _ => (px_bin op_sub c_sub y_sub (px_var 8) (px_var 9)))) w_lc)) pxa_nil)))
  (pxb_cons (pxs_if (pxt_cmp (op_neD hr.units) c_ne y_eq (px_callC (takes_of rfl rfl rfl rfl) Fc_moves_between hr (Nat.le_refl _) bp_moves_between rfl (pxc_fz (px_var 0) (pxc_fz (px_var 1) (pxc_fz (px_var 2) pxc_nil)))) (px_bin op_addA c_add y_add (px_var 3) (px_var 4)) (nomark _)) (pxb_one (pxs_ret (px_c pd_bl))) pxb_nil)
  (pxb_cons (pxs_set 5 sc__law_walk_right.nd (px_callC (takes_of rfl rfl rfl rfl) Fc_walk hr (Nat.le_refl _) bp_walk rfl (pxc_fz (px_var 0) (pxc_fz (px_var 1) (pxc_fz (px_var 2) pxc_nil)))))
  (pxb_cons (pxs_if (pxw_pt (pxw_or (pxt_not (pxt_val (PD.mono (pd_isX ist_list (by decide) (fun _ => rfl) rfl T.b_isinstance rfl T.b_list rfl (px_var 5)) w_is))) (pxw_or (pxt_cmp (op_neD hr.units) c_ne y_eq (px_callB call_len c_len y_len rfl T.b_len rfl (pxa_cons (px_var 5) pxa_nil)) (px_bin op_addA c_add y_add (px_bin op_addA c_add y_add (px_var 3) (px_var 4)) (px_c pd_int)) (nomark _)) (pxw_or (pxt_cmp (op_neD hr.units) c_ne y_eq (px_ix ix_seq c_ix y_ix (px_var 5) (px_c pd_int) (fun _ _ => rfl)) (px_var 1) (nomark _)) (pxw_or1 (pxt_cmp (op_neD hr.units) c_ne y_eq (px_ix ix_seq c_ix y_ix (px_var 5) (px_un un_neg c_neg y_neg (px_c pd_int)) (fun _ _ => rfl)) (px_var 2) (nomark _))))))) (pxb_one (pxs_ret (px_c pd_bl))) pxb_nil)
  (pxb_cons (pxs_if (pxt_cmp (op_neD hr.units) c_ne y_eq (PD.mono (PD.or (pd_lc (own := [("moments", 6)]) rfl sc__law_walk_right.nd (pxi_seq (px_var 5)) (blkOk_by (N := N__law_walk_right) (sc := defScope s__law_walk_right) (own := [("moments", 6)]) (by decide +kernel)) (fun _ => (pxg_name (i := 6) sc__law_walk_right.nd rfl (by first | exact Or.inl rfl | exact Or.inr rfl))) (fun _ => (pxts_one (pxw_pt (pxw_or (pxt_not (pxt_val (px_callC takes0 Fc_is_world hr (Nat.le_refl _) bp_is_world rfl (pxc_fz (px_var 0) (pxc_fz (px_var 6) pxc_nil))))) (pxw_or1 (pxt_not (pxt_val (px_callC takes0 Fc__law_moments hr (Nat.le_refl _) bp__law_moments rfl (pxc_fz (px_var 0) (pxc_fz (px_var 6) pxc_nil)))))))))) (fun _ => (px_var 6))) (pd_lcB 5 (own := [("moments", 6)]) rfl sc__law_walk_right.nd (blkOk_by (N := N__law_walk_right) (sc := defScope s__law_walk_right) (own := [("moments", 6)]) (by decide +kernel)) (fun _ => (pxg_name (i := 6) sc__law_walk_right.nd rfl (by first | exact Or.inl rfl | exact Or.inr rfl))) (fun _ => (pxts_one (pxw_pt (pxw_or (pxt_not (pxt_val (px_callC takes0 Fc_is_world hr (Nat.le_refl _) bp_is_world rfl (pxc_fz (px_var 0) (pxc_fz (px_var 6) pxc_nil))))) (pxw_or1 (pxt_not (pxt_val (px_callC takes0 Fc__law_moments hr (Nat.le_refl _) bp__law_moments rfl (pxc_fz (px_var 0) (pxc_fz (px_var 6) pxc_nil)))))))))) (fun _ => (px_var 6)))) w_lcN) (px_lst pxf_nil) (nomark _)) (pxb_one (pxs_ret (px_c pd_bl))) pxb_nil)
  (pxb_cons (pxs_if (pxt_cmp (op_neD hr.units) c_ne y_eq (PD.mono (pd_lc (own := [("k", 7)]) rfl sc__law_walk_right.nd (PID.mono (pid_range2 rfl T.b_range (pxa_cons (px_c pd_int) (pxa_cons (px_callB call_len c_len y_len rfl T.b_len rfl (pxa_cons (px_var 5) pxa_nil)) pxa_nil))) w_rg) (blkOk_by (N := N__law_walk_right) (sc := defScope s__law_walk_right) (own := [("k", 7)]) (by decide +kernel)) (fun _ => (pxg_name (i := 7) sc__law_walk_right.nd rfl (by first | exact Or.inl rfl | exact Or.inr rfl))) (fun _ => (pxts_one (pxt_not (pxt_val (px_callC takes0 Fc__law_is_move hr (Nat.le_refl _) bp__law_is_move rfl (pxc_fz (px_ix ix_seq c_ix y_ix (px_var 5) (px_bin op_sub c_sub y_sub (px_var 7) (px_c pd_int)) (fun _ _ => rfl)) (pxc_fz (px_ix ix_seq c_ix y_ix (px_var 5) (px_var 7) (fun _ _ => rfl)) pxc_nil))))))) (fun _ => (px_var 7))) w_lc) (px_lst pxf_nil) (nomark _)) (pxb_one (pxs_ret (px_c pd_bl))) pxb_nil)
  (pxb_cons (pxs_expr (PD.mono (pd_mt 5 mt_append cm_append PySem.F.slot_list_append PySem.F.type_list_append (pxf_cons (px_tup pxf_nil) pxf_nil)) (w_mt f_append)))
  (pxb_cons (pxs_if (pxt_cmp (op_neD hr.units) c_ne y_eq (px_callKw [2, 1, 0] (takes_of rfl rfl rfl rfl) Fc_walk hr (Nat.le_refl _) bk_walk_2_1_0 rfl (pxk_cons (px_var 2) (pxk_cons (px_var 1) (pxk_cons (px_var 0) pxk_nil))) (fun l hl => match l, hl with | [_, _, _], _ => rfl)) (px_slice (px_var 5) pxo_none (pxo_some (px_un un_neg c_neg y_neg (px_c pd_int)))) (nomark _)) (pxb_one (pxs_ret (px_c pd_bl))) pxb_nil)
  (pxb_one (pxs_ret (px_cmp (op_eqD hr.units) c_eq y_eq (px_callKw [2, 1, 0] (takes_of rfl rfl rfl rfl) Fc_moves_between hr (Nat.le_refl _) bk_moves_between_2_1_0 rfl (pxk_cons (px_var 1) (pxk_cons (px_var 2) (pxk_cons (px_var 0) pxk_nil))) (fun l hl => match l, hl with | [_, _, _], _ => rfl)) (px_bin op_addA c_add y_add (px_var 3) (px_var 4)) (nomark _)))))))))))))
  unfold x__law_walk_right x__law_walk_right_c6 x__law_walk_right_c5 x__law_walk_right_c4 x__law_walk_right_q3 x__law_walk_right_c2 x__law_walk_right_q1
  exact h
theorem dv__law_far_right {w : World} {K : PySem.W.Frag} {mg : Str → Option Value} {base : Heap} {cl : String → Addr} {j : Nat} {cdv : Value} {f : Addr} {A : Around} {outer : List Env} {s : Shared} {H : Hp} {E : XK} (T : Tx K mg cl) (hr : Room j (A.deeper (envOfC "_law_far_right" (defScope s__law_far_right) s.heap.objs.size f cdv)))
    (Fc_greater : FnC PW w K mg base j "greater" P_greater s_greater (spF cl F_greater))
    (Fc_lesser : FnC PW w K mg base j "lesser" P_lesser s_lesser (spF cl F_lesser))
    (Fc__law_whole : FnC PW w K mg base j "_law_whole" P__law_whole s__law_whole (spF cl F__law_whole))
    (Fc_moves_between : FnC PW w K mg base j "moves_between" P_moves_between s_moves_between (spF cl F_moves_between))
    (Fc__law_reach : FnC PW w K mg base j "_law_reach" P__law_reach s__law_reach (spF cl F__law_reach))
    : PXB (cxOf (L2.CX PW w) PW w K mg base N__law_far_right "_law_far_right" (defScope s__law_far_right) f cdv A outer s H E) cl (fun cls d _ H => E cls d H) (defBody s__law_far_right) (x__law_far_right) := by
  have h : PXB (cxOf (L2.CX PW w) PW w K mg base N__law_far_right "_law_far_right" (defScope s__law_far_right) f cdv A outer s H E) cl (fun cls d _ H => E cls d H) (defBody s__law_far_right) _ := (pxb_cons (pxs_set 3 sc__law_far_right.nd (px_tup (pxf_cons (px_ix ix_seq c_ix y_ix (px_var 1) (px_c pd_int) (fun _ _ => rfl)) (pxf_cons (px_tup pxf_nil) pxf_nil))))
  (pxb_cons (pxs_set 4 sc__law_far_right.nd (px_callTy call_tuple_of c_tuple y_tuple rfl T.b_tuple rfl (pxa_cons (px_bin op_addA c_add y_add (px_lst (pxf_cons (px_c pd_int) pxf_nil)) (PD.mono (pd_lc (own := [("point", 7)]) rfl sc__law_far_right.nd (PID.mono (pid_range1 rfl T.b_range (pxa_cons (px_bin op_sub c_sub y_sub (px_ix ix_seq c_ix y_ix (px_var 1) (px_c pd_int) (fun _ _ => rfl)) (px_c pd_int)) pxa_nil)) w_rg) (blkOk_by (N := N__law_far_right) (sc := defScope s__law_far_right) (own := [("point", 7)]) (by decide +kernel)) (fun _ => (pxg_name (i := 7) sc__law_far_right.nd rfl (by first | exact Or.inl rfl | exact Or.inr rfl))) (fun _ => pxts_nil) (fun _ => (px_callC takes0 Fc__law_reach hr (Nat.le_refl _) bp__law_reach rfl (pxc_an (px_var 0) pxc_nil)))) w_lc)) pxa_nil)))
  (pxb_cons (pxs_set 5 sc__law_far_right.nd (px_callB (cr_maxA rfl) c_max y_max rfl T.b_max rfl (pxa_cons (px_bin op_addA c_add y_add (px_lst (pxf_cons (px_c pd_int) pxf_nil)) (PD.mono (pd_lc (own := [("before", 8), ("later", 9)]) rfl sc__law_far_right.nd (PID.mono (pid_zip rfl T.b_zip (pxf_cons (px_var 2) (pxf_cons (px_var 4) pxf_nil))) w_zip) (blkOk_by (N := N__law_far_right) (sc := defScope s__law_far_right) (own := [("before", 8), ("later", 9)]) (by decide +kernel)) (fun _ => (w_tup (pgd_tup rfl (PGsD.mono (pgsd_cons (pxg_name (i := 8) sc__law_far_right.nd rfl (by first | exact Or.inl rfl | exact Or.inr rfl)) (PGsD.mono (pgsd_cons (pxg_name (i := 9) sc__law_far_right.nd rfl (by first | exact Or.inl rfl | exact Or.inr rfl)) pxgs_nil) wc_gs)) wc_gs) (ys_len (ysc_len (ysc_len ysn_len)))))) (fun _ => pxts_nil) (fun _ => (px_bin op_sub c_sub y_sub (px_var 9) (px_var 8)))) w_lc)) pxa_nil)))
  (pxb_cons (pxs_set 6 sc__law_far_right.nd (px_callB (cr_maxA rfl) c_max y_max rfl T.b_max rfl (pxa_cons (px_bin op_addA c_add y_add (px_lst (pxf_cons (px_c pd_int) pxf_nil)) (PD.mono (pd_lc (own := [("before", 8), ("later", 9)]) rfl sc__law_far_right.nd (PID.mono (pid_zip rfl T.b_zip (pxf_cons (px_var 2) (pxf_cons (px_var 4) pxf_nil))) w_zip) (blkOk_by (N := N__law_far_right) (sc := defScope s__law_far_right) (own := [("before", 8), ("later", 9)]) (by decide +kernel)) (fun _ => (w_tup (pgd_tup rfl (PGsD.mono (pgsd_cons (pxg_name (i := 8) sc__law_far_right.nd rfl (by first | exact Or.inl rfl | exact Or.inr rfl)) (PGsD.mono (pgsd_cons (pxg_name (i := 9) sc__law_far_right.nd rfl (by first | exact Or.inl rfl | exact Or.inr rfl)) pxgs_nil) wc_gs)) wc_gs) (ys_len (ysc_len (ysc_len ysn_len)))))) (fun _ => pxts_nil) (fun _ => (px_bin op_sub c_sub y_sub (px_var 8) (px_var 9)))) w_lc)) pxa_nil)))
  (pxb_cons (pxs_if (pxw_pt (pxw_or (pxt_cmp (op_neD hr.units) c_ne y_eq (px_callC (takes_of rfl rfl rfl rfl) Fc_moves_between hr (Nat.le_refl _) bp_moves_between rfl (pxc_fz (px_var 3) (pxc_fz (px_var 2) (pxc_fz (px_var 4) pxc_nil)))) (px_bin op_addA c_add y_add (px_var 5) (px_var 6)) (nomark _)) (pxw_or1 (pxt_not (pxt_val (px_callC (takes_of rfl rfl rfl rfl) Fc__law_whole hr (Nat.le_refl _) bp__law_whole rfl (pxc_fz (px_callC (takes_of rfl rfl rfl rfl) Fc_moves_between hr (Nat.le_refl _) bp_moves_between rfl (pxc_fz (px_var 3) (pxc_fz (px_var 4) (pxc_fz (px_var 2) pxc_nil)))) pxc_nil))))))) (pxb_one (pxs_ret (px_c pd_bl))) pxb_nil)
  (pxb_cons (pxs_if (pxt_cmp (op_neD hr.units) c_ne y_eq (px_callC (takes_of rfl rfl rfl rfl) Fc_lesser hr (Nat.le_refl _) bp_lesser rfl (pxc_fz (px_var 3) (pxc_fz (px_var 2) (pxc_fz (px_var 4) pxc_nil)))) (px_callTy call_tuple_of c_tuple y_tuple rfl T.b_tuple rfl (pxa_cons (PD.mono (pd_lc (own := [("before", 8), ("later", 9)]) rfl sc__law_far_right.nd (PID.mono (pid_zip rfl T.b_zip (pxf_cons (px_var 2) (pxf_cons (px_var 4) pxf_nil))) w_zip) (blkOk_by (N := N__law_far_right) (sc := defScope s__law_far_right) (own := [("before", 8), ("later", 9)]) (by decide +kernel)) (fun _ => (w_tup (pgd_tup rfl (PGsD.mono (pgsd_cons (pxg_name (i := 8) sc__law_far_right.nd rfl (by first | exact Or.inl rfl | exact Or.inr rfl)) (PGsD.mono (pgsd_cons (pxg_name (i := 9) sc__law_far_right.nd rfl (by first | exact Or.inl rfl | exact Or.inr rfl)) pxgs_nil) wc_gs)) wc_gs) (ys_len (ysc_len (ysc_len ysn_len)))))) (fun _ => pxts_nil) (fun _ => (px_callB (cr_minA rfl) c_min y_min rfl T.b_min rfl (pxa_cons (px_var 8) (pxa_cons (px_var 9) pxa_nil))))) w_lc) pxa_nil)) (nomark _)) (pxb_one (pxs_ret (px_c pd_bl))) pxb_nil)
  (pxb_one (pxs_ret (px_cmp (op_eqD hr.units) c_eq y_eq (px_callC (takes_of rfl rfl rfl rfl) Fc_greater hr (Nat.le_refl _) bp_greater rfl (pxc_fz (px_var 3) (pxc_fz (px_var 2) (pxc_fz (px_var 4) pxc_nil)))) (px_callTy call_tuple_of c_tuple y_tuple rfl T.b_tuple rfl (pxa_cons (PD.mono (pd_lc (own := [("before", 8), ("later", 9)]) rfl sc__law_far_right.nd (PID.mono (pid_zip rfl T.b_zip (pxf_cons (px_var 2) (pxf_cons (px_var 4) pxf_nil))) w_zip) (blkOk_by (N := N__law_far_right) (sc := defScope s__law_far_right) (own := [("before", 8), ("later", 9)]) (by decide +kernel)) (fun _ => (w_tup (pgd_tup rfl (PGsD.mono (pgsd_cons (pxg_name (i := 8) sc__law_far_right.nd rfl (by first | exact Or.inl rfl | exact Or.inr rfl)) (PGsD.mono (pgsd_cons (pxg_name (i := 9) sc__law_far_right.nd rfl (by first | exact Or.inl rfl | exact Or.inr rfl)) pxgs_nil) wc_gs)) wc_gs) (ys_len (ysc_len (ysc_len ysn_len)))))) (fun _ => pxts_nil) (fun _ => (px_callB (cr_maxA rfl) c_max y_max rfl T.b_max rfl (pxa_cons (px_var 8) (pxa_cons (px_var 9) pxa_nil))))) w_lc) pxa_nil)) (nomark _))))))))))
  unfold x__law_far_right x__law_far_right_c5 x__law_far_right_c4 x__law_far_right_c3 x__law_far_right_c2 x__law_far_right_c1
  exact h
theorem dv__law_long_right {w : World} {K : PySem.W.Frag} {mg : Str → Option Value} {base : Heap} {cl : String → Addr} {j : Nat} {cdv : Value} {f : Addr} {A : Around} {outer : List Env} {s : Shared} {H : Hp} {E : XK} (T : Tx K mg cl) (hr : Room j (A.deeper (envOfC "_law_long_right" (defScope s__law_long_right) s.heap.objs.size f cdv)))
    (Fc_walk : FnC PW w K mg base j "walk" P_walk s_walk (spF cl F_walk))
    (Fc__law_pick : FnC PW w K mg base j "_law_pick" P__law_pick s__law_pick (spF cl F__law_pick))
    (Fc__law_reach : FnC PW w K mg base j "_law_reach" P__law_reach s__law_reach (spF cl F__law_reach))
    : PXB (cxOf (L2.CX PW w) PW w K mg base N__law_long_right "_law_long_right" (defScope s__law_long_right) f cdv A outer s H E) cl (fun cls d _ H => E cls d H) (defBody s__law_long_right) (x__law_long_right) := by
  have h : PXB (cxOf (L2.CX PW w) PW w K mg base N__law_long_right "_law_long_right" (defScope s__law_long_right) f cdv A outer s H E) cl (fun cls d _ H => E cls d H) (defBody s__law_long_right) _ := (pxb_cons (pxs_asg (px_tup (pxf_cons (px_callC (takes_of rfl rfl rfl rfl) Fc__law_reach hr (Nat.le_refl _) bp__law_reach rfl (pxc_an (px_var 0) pxc_nil)) (pxf_cons (px_ix ix_seq c_ix y_ix (px_lst (pxf_cons (px_c pd_int) (pxf_cons (px_un un_neg c_neg y_neg (px_c pd_int)) pxf_nil))) (px_callC (takes_of rfl rfl rfl rfl) Fc__law_pick hr (Nat.le_refl _) bp__law_pick rfl (pxc_an (px_var 0) (pxc_fz (px_c pd_int) pxc_nil))) (fun _ _ => rfl)) pxf_nil))) (w_tup (pgd_tup rfl (PGsD.mono (pgsd_cons (pxg_name (i := 2) sc__law_long_right.nd rfl (by first | exact Or.inl rfl | exact Or.inr rfl)) (PGsD.mono (pgsd_cons (pxg_name (i := 3) sc__law_long_right.nd rfl (by first | exact Or.inl rfl | exact Or.inr rfl)) pxgs_nil) wc_gs)) wc_gs) (ys_len (ysc_len (ysc_len ysn_len))))))
  (pxb_cons (PSD.mono (psd_setLc 1 (own := [("k", 4)]) rfl sc__law_long_right.nd (PID.mono (pid_range1 rfl T.b_range (pxa_cons (px_c pd_int) pxa_nil)) w_rg) (blkOk_by (N := N__law_long_right) (sc := defScope s__law_long_right) (own := [("k", 4)]) (by decide +kernel)) (fun _ => (pxg_name (i := 4) sc__law_long_right.nd rfl (by first | exact Or.inl rfl | exact Or.inr rfl))) (fun _ => pxts_nil) (fun _ => (px_tup (pxf_cons (px_c pd_int) (pxf_cons (px_bin op_addA c_add y_add (px_var 2) (px_bin op_mulW c_mul y_mul (px_var 3) (px_var 4))) pxf_nil)))) (sw_true rfl rfl rfl (by decide +kernel))) (w_set_of w_lc))
  (pxb_one (pxs_ret (px_cmp (op_eqD hr.units) c_eq y_eq (px_callC (takes_of rfl rfl rfl rfl) Fc_walk hr (Nat.le_refl _) bp_walk rfl (pxc_fz (px_tup (pxf_cons (px_c pd_int) (pxf_cons (px_tup pxf_nil) pxf_nil))) (pxc_fz (px_ix ix_seq c_ix y_ix (px_var 1) (px_c pd_int) (fun _ _ => rfl)) (pxc_fz (px_ix ix_seq c_ix y_ix (px_var 1) (px_un un_neg c_neg y_neg (px_c pd_int)) (fun _ _ => rfl)) pxc_nil)))) (px_var 1) (nomark _))))))
  unfold x__law_long_right x__law_long_right_c1
  exact h
theorem dv__law_right {w : World} {K : PySem.W.Frag} {mg : Str → Option Value} {base : Heap} {cl : String → Addr} {j : Nat} {cdv : Value} {f : Addr} {A : Around} {outer : List Env} {s : Shared} {H : Hp} {E : XK} (T : Tx K mg cl) (hr : Room j (A.deeper (envOfC "_law_right" (defScope s__law_right) s.heap.objs.size f cdv)))
    (Fc_moves_between : FnC PW w K mg base j "moves_between" P_moves_between s_moves_between (spF cl F_moves_between))
    (Fc__law_pick : FnC PW w K mg base j "_law_pick" P__law_pick s__law_pick (spF cl F__law_pick))
    (Fc__law_walk_right : FnC PW w K mg base j "_law_walk_right" P__law_walk_right s__law_walk_right (spF cl F__law_walk_right))
    (Fc_is_world : FnC PW w K mg base j "is_world" P_is_world s_is_world (spF cl F_is_world))
    (Fc_greater : FnC PW w K mg base j "greater" P_greater s_greater (spF cl F_greater))
    (Fc_lesser : FnC PW w K mg base j "lesser" P_lesser s_lesser (spF cl F_lesser))
    (Fc__law_other : FnC PW w K mg base j "_law_other" P__law_other s__law_other (spF cl F__law_other))
    (Fc__law_long_right : FnC PW w K mg base j "_law_long_right" P__law_long_right s__law_long_right (spF cl F__law_long_right))
    (Fc__law_far_right : FnC PW w K mg base j "_law_far_right" P__law_far_right s__law_far_right (spF cl F__law_far_right))
    (Fc__law_held : FnC PW w K mg base j "_law_held" P__law_held s__law_held (spF cl F__law_held))
    : PXB (cxOf (L2.CX PW w) PW w K mg base N__law_right "_law_right" (defScope s__law_right) f cdv A outer s H E) cl (fun cls d _ H => E cls d H) (defBody s__law_right) (x__law_right) := by
  have h : PXB (cxOf (L2.CX PW w) PW w K mg base N__law_right "_law_right" (defScope s__law_right) f cdv A outer s H E) cl (fun cls d _ H => E cls d H) (defBody s__law_right) _ := (pxb_cons (pxs_asg (px_callC (takes_of rfl rfl rfl rfl) Fc__law_held hr (Nat.le_refl _) bp__law_held rfl (pxc_an (px_var 0) pxc_nil)) (w_tup (pgd_tup rfl (PGsD.mono (pgsd_cons (pxg_name (i := 3) sc__law_right.nd rfl (by first | exact Or.inl rfl | exact Or.inr rfl)) (PGsD.mono (pgsd_cons (pxg_name (i := 4) sc__law_right.nd rfl (by first | exact Or.inl rfl | exact Or.inr rfl)) pxgs_nil) wc_gs)) wc_gs) (ys_len (ysc_len (ysc_len ysn_len))))))
  (pxb_cons (pxs_if (pxt_not (pxt_val (px_callC (takes_of rfl rfl rfl rfl) Fc__law_far_right hr (Nat.le_refl _) bp__law_far_right rfl (pxc_an (px_var 0) (pxc_fz (px_var 3) (pxc_fz (px_var 4) pxc_nil)))))) (pxb_one (pxs_ret (px_c pd_bl))) pxb_nil)
  (pxb_cons (pxs_if (pxw_pt (pxw_and (pxt_cmp (op_eqD hr.units) c_eq y_eq (px_callC (takes_of rfl rfl rfl rfl) Fc__law_pick hr (Nat.le_refl _) bp__law_pick rfl (pxc_an (px_var 0) (pxc_fz (px_c pd_int) pxc_nil))) (px_c pd_int) (nomark _)) (pxw_and1 (pxt_not (pxt_val (px_callC (takes_of rfl rfl rfl rfl) Fc__law_long_right hr (Nat.le_refl _) bp__law_long_right rfl (pxc_an (px_var 0) pxc_nil))))))) (pxb_one (pxs_ret (px_c pd_bl))) pxb_nil)
  (pxb_cons (pxs_set 1 sc__law_right.nd (px_bin op_addA c_add y_add (px_lst (pxf_cons (px_var 4) pxf_nil)) (PD.mono (pd_lc (own := [("turn", 10)]) rfl sc__law_right.nd (PID.mono (pid_range1 rfl T.b_range (pxa_cons (px_c pd_int) pxa_nil)) w_rg) (blkOk_by (N := N__law_right) (sc := defScope s__law_right) (own := [("turn", 10)]) (by decide +kernel)) (fun _ => (pxg_name (i := 10) sc__law_right.nd rfl (by first | exact Or.inl rfl | exact Or.inr rfl))) (fun _ => pxts_nil) (fun _ => (px_callC takes0 Fc__law_other hr (Nat.le_refl _) bp__law_other rfl (pxc_an (px_var 0) (pxc_fz (px_var 3) (pxc_fz (px_var 4) pxc_nil)))))) w_lc)))
  (pxb_cons (pxs_for (passes_of rfl) rfl (pxi_seq (px_var 1)) (pxg_name (i := 2) sc__law_right.nd rfl (by first | exact Or.inl rfl | exact Or.inr rfl)) (pxb_one (pxs_for (passes_of rfl) rfl (pxi_seq (px_var 1)) (pxg_name (i := 5) sc__law_right.nd rfl (by first | exact Or.inl rfl | exact Or.inr rfl)) (pxb_cons (pxs_set 6 sc__law_right.nd (px_callTy call_tuple_of c_tuple y_tuple rfl T.b_tuple rfl (pxa_cons (PD.mono (pd_lc (own := [("before", 11), ("later", 12)]) rfl sc__law_right.nd (PID.mono (pid_zip rfl T.b_zip (pxf_cons (px_var 2) (pxf_cons (px_var 5) pxf_nil))) w_zip) (blkOk_by (N := N__law_right) (sc := defScope s__law_right) (own := [("before", 11), ("later", 12)]) (by decide +kernel)) (fun _ => (w_tup (pgd_tup rfl (PGsD.mono (pgsd_cons (pxg_name (i := 11) sc__law_right.nd rfl (by first | exact Or.inl rfl | exact Or.inr rfl)) (PGsD.mono (pgsd_cons (pxg_name (i := 12) sc__law_right.nd rfl (by first | exact Or.inl rfl | exact Or.inr rfl)) pxgs_nil) wc_gs)) wc_gs) (ys_len (ysc_len (ysc_len ysn_len)))))) (fun _ => pxts_nil) (fun _ => (px_callB (cr_minA rfl) c_min y_min rfl T.b_min rfl (pxa_cons (px_var 11) (pxa_cons (px_var 12) pxa_nil))))) w_lc) pxa_nil)))
  (pxb_cons (pxs_set 7 sc__law_right.nd (px_callTy call_tuple_of c_tuple y_tuple rfl T.b_tuple rfl (pxa_cons (PD.mono (pd_lc (own := [("before", 11), ("later", 12)]) rfl sc__law_right.nd (PID.mono (pid_zip rfl T.b_zip (pxf_cons (px_var 2) (pxf_cons (px_var 5) pxf_nil))) w_zip) (blkOk_by (N := N__law_right) (sc := defScope s__law_right) (own := [("before", 11), ("later", 12)]) (by decide +kernel)) (fun _ => (w_tup (pgd_tup rfl (PGsD.mono (pgsd_cons (pxg_name (i := 11) sc__law_right.nd rfl (by first | exact Or.inl rfl | exact Or.inr rfl)) (PGsD.mono (pgsd_cons (pxg_name (i := 12) sc__law_right.nd rfl (by first | exact Or.inl rfl | exact Or.inr rfl)) pxgs_nil) wc_gs)) wc_gs) (ys_len (ysc_len (ysc_len ysn_len)))))) (fun _ => pxts_nil) (fun _ => (px_callB (cr_maxA rfl) c_max y_max rfl T.b_max rfl (pxa_cons (px_var 11) (pxa_cons (px_var 12) pxa_nil))))) w_lc) pxa_nil)))
  (pxb_cons (pxs_if (pxw_pt (pxw_or (pxt_cmp (op_neD hr.units) c_ne y_eq (px_callC (takes_of rfl rfl rfl rfl) Fc_lesser hr (Nat.le_refl _) bp_lesser rfl (pxc_fz (px_var 3) (pxc_fz (px_var 2) (pxc_fz (px_var 5) pxc_nil)))) (px_var 6) (nomark _)) (pxw_or1 (pxt_cmp (op_neD hr.units) c_ne y_eq (px_callC (takes_of rfl rfl rfl rfl) Fc_greater hr (Nat.le_refl _) bp_greater rfl (pxc_fz (px_var 3) (pxc_fz (px_var 2) (pxc_fz (px_var 5) pxc_nil)))) (px_var 7) (nomark _))))) (pxb_one (pxs_ret (px_c pd_bl))) pxb_nil)
  (pxb_cons (pxs_if (pxt_cmp (op_neD hr.units) c_ne y_eq (px_callKw [2, 1, 0] (takes_of rfl rfl rfl rfl) Fc_lesser hr (Nat.le_refl _) bk_lesser_2_1_0 rfl (pxk_cons (px_var 5) (pxk_cons (px_var 2) (pxk_cons (px_var 3) pxk_nil))) (fun l hl => match l, hl with | [_, _, _], _ => rfl)) (px_var 6) (nomark _)) (pxb_one (pxs_ret (px_c pd_bl))) pxb_nil)
  (pxb_cons (pxs_if (pxt_cmp (op_neD hr.units) c_ne y_eq (px_callKw [2, 1, 0] (takes_of rfl rfl rfl rfl) Fc_greater hr (Nat.le_refl _) bk_greater_2_1_0 rfl (pxk_cons (px_var 5) (pxk_cons (px_var 2) (pxk_cons (px_var 3) pxk_nil))) (fun l hl => match l, hl with | [_, _, _], _ => rfl)) (px_var 7) (nomark _)) (pxb_one (pxs_ret (px_c pd_bl))) pxb_nil)
  (pxb_cons (pxs_if (pxw_pt (pxw_or (pxt_not (pxt_val (px_callC (takes_of rfl rfl rfl rfl) Fc_is_world hr (Nat.le_refl _) bp_is_world rfl (pxc_fz (px_var 3) (pxc_fz (px_var 6) pxc_nil))))) (pxw_or (pxt_not (pxt_val (px_callC (takes_of rfl rfl rfl rfl) Fc_is_world hr (Nat.le_refl _) bp_is_world rfl (pxc_fz (px_var 3) (pxc_fz (px_var 7) pxc_nil))))) (pxw_or1 (pxt_not (pxt_val (px_callC (takes_of rfl rfl rfl rfl) Fc__law_walk_right hr (Nat.le_refl _) bp__law_walk_right rfl (pxc_fz (px_var 3) (pxc_fz (px_var 2) (pxc_fz (px_var 5) pxc_nil)))))))))) (pxb_one (pxs_ret (px_c pd_bl))) pxb_nil)
  (pxb_cons (pxs_set 8 sc__law_right.nd (px_callC (takes_of rfl rfl rfl rfl) Fc_moves_between hr (Nat.le_refl _) bp_moves_between rfl (pxc_fz (px_var 3) (pxc_fz (px_var 2) (pxc_fz (px_var 5) pxc_nil)))))
  (pxb_cons (pxs_if (pxw_pt (pxw_and (pxt_cmp (op_inA (u65 hr)) (c_inn false) y_inn (px_var 6) (px_tup (pxf_cons (px_var 2) (pxf_cons (px_var 5) pxf_nil))) (by with_unfolding_all rfl)) (pxw_and1 (pxt_cmp (op_neD hr.units) c_ne y_eq (px_var 8) (px_callC (takes_of rfl rfl rfl rfl) Fc_moves_between hr (Nat.le_refl _) bp_moves_between rfl (pxc_fz (px_var 3) (pxc_fz (px_var 6) (pxc_fz (px_var 7) pxc_nil)))) (nomark _))))) (pxb_one (pxs_ret (px_c pd_bl))) pxb_nil)
  (pxb_cons (pxs_set 9 sc__law_right.nd (px_ix ix_seq c_ix y_ix (px_var 1) (px_callC (takes_of rfl rfl rfl rfl) Fc__law_pick hr (Nat.le_refl _) bp__law_pick rfl (pxc_an (px_var 0) (pxc_fz (px_c pd_int) pxc_nil))) (fun _ _ => rfl)))
  (pxb_one (pxs_if (pxt_cmp op_lt c_lt y_lt (px_bin op_addA c_add y_add (px_callC (takes_of rfl rfl rfl rfl) Fc_moves_between hr (Nat.le_refl _) bp_moves_between rfl (pxc_fz (px_var 3) (pxc_fz (px_var 2) (pxc_fz (px_var 9) pxc_nil)))) (px_callC (takes_of rfl rfl rfl rfl) Fc_moves_between hr (Nat.le_refl _) bp_moves_between rfl (pxc_fz (px_var 3) (pxc_fz (px_var 9) (pxc_fz (px_var 5) pxc_nil))))) (px_callC (takes_of rfl rfl rfl rfl) Fc_moves_between hr (Nat.le_refl _) bp_moves_between rfl (pxc_fz (px_var 3) (pxc_fz (px_var 2) (pxc_fz (px_var 5) pxc_nil)))) (nomark _)) (pxb_one (pxs_ret (px_c pd_bl))) pxb_nil))))))))))))))
  (pxb_one (pxs_ret (px_c pd_bl))))))))
  unfold x__law_right x__law_right_c5 x__law_right_b4 x__law_right_b3 x__law_right_c2 x__law_right_c1
  exact h
theorem dv_law {w : World} {K : PySem.W.Frag} {mg : Str → Option Value} {base : Heap} {cl : String → Addr} {j : Nat} {cdv : Value} {f : Addr} {A : Around} {outer : List Env} {s : Shared} {H : Hp} {E : XK} (T : Tx K mg cl) (hr : Room j (A.deeper (envOfC "law" (defScope s_law) s.heap.objs.size f cdv)))
    (Fc__law_right : FnC PW w K mg base j "_law_right" P__law_right s__law_right (spF cl F__law_right))
    (Fc__law_urn : FnC PW w K mg base j "_law_urn" P__law_urn s__law_urn (spF cl F__law_urn))
    : PXB (cxOf (L2.CX PW w) PW w K mg base N_law "law" (defScope s_law) f cdv A outer s H E) cl (fun cls d _ H => E cls d H) (defBody s_law) (x_law) := by
  have h : PXB (cxOf (L2.CX PW w) PW w K mg base N_law "law" (defScope s_law) f cdv A outer s H E) cl (fun cls d _ H => E cls d H) (defBody s_law) _ := (pxb_cons (pxs_for (passes_of rfl) rfl (PID.mono (pid_range1 rfl T.b_range (pxa_cons (px_callB (cr_maxA rfl) c_max y_max rfl T.b_max rfl (pxa_cons (px_c pd_int) (pxa_cons (px_callB (cr_minA rfl) c_min y_min rfl T.b_min rfl (pxa_cons (px_c pd_int) (pxa_cons (px_callB call_len c_len y_len rfl T.b_len rfl (pxa_cons (px_var 0) pxa_nil)) pxa_nil))) pxa_nil))) pxa_nil)) w_rg) (pxg_name (i := 1) sc_law.nd rfl (by first | exact Or.inl rfl | exact Or.inr rfl)) (pxb_one (pxs_if (pxt_not (pxt_val (px_callC (takes_of rfl rfl rfl rfl) Fc__law_right hr (Nat.le_refl _) bp__law_right rfl (pxc_ow (px_callC (takes_of rfl rfl rfl rfl) Fc__law_urn hr (Nat.le_refl _) bp__law_urn rfl (pxc_fz (px_var 0) (pxc_fz (px_var 1) pxc_nil))))))) (pxb_one (pxs_ret (px_c pd_bl))) pxb_nil)))
  (pxb_one (pxs_ret (px_c pd_bl))))
  unfold x_law x_law_b1
  exact h
end T10
set_option Elab.async false
set_option linter.all false
set_option maxRecDepth 100000
set_option maxHeartbeats 4000000
namespace FP
open PySem PySem.Spec PyProof.Rows L2 DL FL
/-! basics of proofs over the functions -/
theorem szl : (2000000 : Nat) ≤ sizeLine := by decide
theorem forF_gen {g : XG} {body : XS} {items : List D} {ρ : List Zl} (Inv : Nat → List Zl → Prop) (Post : Rs So → Prop) (h0 : Inv 0 ρ)
    (step : ∀ i d ρ, items[i]? = some d → Inv i ρ → ∃ ρ1, g d ρ = some ρ1 ∧ ((∃ ρ2, (body ρ1 = .ok .nx ρ2 ∨ body ρ1 = .ok .ct ρ2) ∧ Inv (i + 1) ρ2) ∨ (∃ ρ2, body ρ1 = .ok .bk ρ2 ∧ Post (.ok .nx ρ2)) ∨ (∃ r ρ2, body ρ1 = .ok (.rt r) ρ2 ∧ Post (.ok (.rt r) ρ2)) ∨ (∃ n ρ2, body ρ1 = .ex n ρ2 ∧ Post (.ex n ρ2))))
    (fin : ∀ ρ, Inv items.length ρ → Post (.ok .nx ρ)) : Post (forF g body items ρ) := by
  have key : ∀ (m i : Nat) (ρ : List Zl), items.length - i = m → i ≤ items.length → Inv i ρ → Post (forF g body (items.drop i) ρ) := by
    intro m
    induction m with
    | zero =>
      intro i ρ hm hi iv
      have : i = items.length := by omega
      subst this
      rw [List.drop_length]
      exact fin ρ iv
    | succ m ih =>
      intro i ρ hm hi iv
      have hl : i < items.length := by omega
      have hd : items[i]? = some items[i] := List.getElem?_eq_getElem hl
      rw [drop_at hd]
      obtain ⟨ρ1, e1, h⟩ := step i _ ρ hd iv
      unfold forF
      rw [e1]
      dsimp only
      rcases h with ⟨ρ2, e2 | e2, iv2⟩ | ⟨ρ2, e2, p⟩ | ⟨r, ρ2, e2, p⟩ | ⟨n, ρ2, e2, p⟩
      · rw [e2]; exact ih (i + 1) ρ2 (by omega) (by omega) iv2
      · rw [e2]; exact ih (i + 1) ρ2 (by omega) (by omega) iv2
      · rw [e2]; exact p
      · rw [e2]; exact p
      · rw [e2]; exact p
  exact key items.length 0 ρ (by omega) (by omega) h0
theorem forF_inv {g : XG} {body : XS} {items : List D} {ρ : List Zl} (Inv : Nat → List Zl → Prop) (h0 : Inv 0 ρ)
    (step : ∀ i d ρ, items[i]? = some d → Inv i ρ → ∃ ρ1, g d ρ = some ρ1 ∧ ∃ ρ2, (body ρ1 = .ok .nx ρ2 ∨ body ρ1 = .ok .ct ρ2) ∧ Inv (i + 1) ρ2) : ∃ ρ', forF g body items ρ = .ok .nx ρ' ∧ Inv items.length ρ' :=
  forF_gen (Post := fun r => ∃ ρ', r = .ok .nx ρ' ∧ Inv items.length ρ') Inv h0 (fun i d ρ hd iv => by
    obtain ⟨ρ1, e, ρ2, h, iv2⟩ := step i d ρ hd iv
    exact ⟨ρ1, e, .inl ⟨ρ2, h, iv2⟩⟩) fun ρ iv => ⟨ρ, rfl, iv⟩
theorem lcF_inv {g : XG} {tt : XM Bool} {te : XM VR} {vs : List Nat} {items : List D} {ρ : List Zl} (Inv : Nat → List D → List Zl → Prop) (h0 : Inv 0 [] ρ)
    (step : ∀ i d acc ρ, items[i]? = some d → Inv i acc ρ → ∃ ρ3, g d (nilsZ ρ vs) = some ρ3 ∧ ((∃ ρ4, tt ρ3 = .ok false ρ4 ∧ Inv (i + 1) acc (nilsZ ρ4 vs)) ∨ ∃ ρ4 rv ρ5 y ρ6, tt ρ3 = .ok true ρ4 ∧ te ρ4 = .ok rv ρ5 ∧ frzZ rv ρ5 = some (y, ρ6) ∧ Inv (i + 1) (acc ++ [y]) (nilsZ ρ6 vs))) :
    ∃ ys ρ', lcF g tt te vs items ρ = .ok ys ρ' ∧ Inv items.length ys ρ' := by
  have key : ∀ (m i : Nat) (acc : List D) (ρ : List Zl), items.length - i = m → i ≤ items.length → Inv i acc ρ → ∃ ys ρ', lcF g tt te vs (items.drop i) ρ = .ok ys ρ' ∧ Inv items.length (acc ++ ys) ρ' := by
    intro m
    induction m with
    | zero =>
      intro i acc ρ hm hi iv
      have : i = items.length := by omega
      subst this
      rw [List.drop_length]
      exact ⟨[], ρ, rfl, by rw [List.append_nil]; exact iv⟩
    | succ m ih =>
      intro i acc ρ hm hi iv
      have hl : i < items.length := by omega
      have hd : items[i]? = some items[i] := List.getElem?_eq_getElem hl
      rw [drop_at hd]
      obtain ⟨ρ3, e1, h⟩ := step i _ acc ρ hd iv
      unfold lcF
      rw [e1]
      dsimp only
      rcases h with ⟨ρ4, e2, iv2⟩ | ⟨ρ4, rv, ρ5, y, ρ6, e2, e3, e4, iv2⟩
      · rw [e2]; exact ih (i + 1) acc _ (by omega) (by omega) iv2
      · obtain ⟨ys, ρ', e5, iv3⟩ := ih (i + 1) _ _ (by omega) (by omega) iv2
        rw [e2]; dsimp only; rw [e3]; dsimp only; rw [e4]; dsimp only; rw [e5]
        exact ⟨y :: ys, ρ', rfl, by rw [List.append_assoc] at iv3; exact iv3⟩
  obtain ⟨ys, ρ', e, iv⟩ := key items.length 0 [] ρ (by omega) (by omega) h0
  exact ⟨ys, ρ', e, iv⟩
theorem lcF_map {α : Type} {g : XG} {te : XM VR} {vs : List Nat} {ρ : List Zl} (enc h : α → D) : ∀ (xs : List α), (∀ x ∈ xs, ∃ ρ3, g (enc x) (nilsZ ρ vs) = some ρ3 ∧ te ρ3 = .ok (.fz (h x)) ρ3 ∧ nilsZ ρ3 vs = ρ) →
    lcF g xYes te vs (xs.map enc) ρ = .ok (xs.map h) ρ
  | [], _ => rfl
  | x :: xs, hh => by
    obtain ⟨ρ3, e1, e2, e3⟩ := hh x (by simp)
    rw [List.map_cons, List.map_cons]
    unfold lcF
    rw [e1]
    dsimp only
    rw [e2]
    dsimp only
    rw [e3, lcF_map enc h xs fun y hy => hh y (by simp [hy])]
theorem lcF_filt {α : Type} {g : XG} {tt : XM Bool} {te : XM VR} {vs : List Nat} {ρ : List Zl} (enc h : α → D) (p : α → Bool) : ∀ (xs : List α), (∀ x ∈ xs, ∃ ρ3, g (enc x) (nilsZ ρ vs) = some ρ3 ∧ tt ρ3 = .ok (p x) ρ3 ∧ (p x = true → te ρ3 = .ok (.fz (h x)) ρ3) ∧ nilsZ ρ3 vs = ρ) →
    lcF g tt te vs (xs.map enc) ρ = .ok ((xs.filter p).map h) ρ
  | [], _ => rfl
  | x :: xs, hh => by
    obtain ⟨ρ3, e1, e2, e3, e4⟩ := hh x (by simp)
    rw [List.map_cons]
    unfold lcF
    rw [e1]
    dsimp only
    rw [e2]
    have ih := lcF_filt enc h p xs fun y hy => hh y (by simp [hy])
    cases hp : p x with
    | false =>
      dsimp only
      rw [e4, ih, List.filter_cons, hp]; rfl
    | true =>
      dsimp only
      rw [e3 hp]
      dsimp only
      rw [e4, ih, List.filter_cons, hp]; rfl
/-! shapes -/
def lay (n : Nat) (d : D) : Prop := d.canLay0 = true ∧ d.depth ≤ n
theorem shaped_lay {n : Nat} {d : D} (h : lay n d) (hn : n ≤ 64) : SeqAt.shaped d = true := by
  unfold SeqAt.shaped
  rw [h.1, decide_eq_true (Nat.le_trans h.2 hn)]; rfl
theorem lay_int (i : Int) : lay 0 (.int i) := ⟨rfl, Nat.le_refl _⟩
theorem lay_bool (i : Bool) : lay 0 (.bool i) := ⟨rfl, Nat.le_refl _⟩
theorem lay_str {i : Str} (h : (PyData.str i).canLay0 = true) : lay 0 (.str i) := ⟨h, Nat.le_refl _⟩
theorem lay_none : lay 0 .none := ⟨rfl, Nat.le_refl _⟩
theorem lay_le {n m : Nat} {d : D} (h : lay n d) (l : n ≤ m) : lay m d := ⟨h.1, Nat.le_trans h.2 l⟩
theorem layAll {n : Nat} : ∀ {ds : List D}, (∀ d ∈ ds, lay n d) → PyData.canLayAll0 ds = true ∧ PyData.depthAll ds ≤ n
  | [], _ => ⟨rfl, Nat.zero_le _⟩
  | d :: ds, h => by
    obtain ⟨h1, h2⟩ := layAll (ds := ds) fun e he => h e (by simp [he])
    obtain ⟨h3, h4⟩ := h d (by simp)
    refine ⟨by unfold PyData.canLayAll0; rw [h3, h1]; rfl, ?_⟩
    unfold PyData.depthAll
    exact Nat.max_le.mpr ⟨h4, h2⟩
theorem lay_tuple {n : Nat} {ds : List D} (h : ∀ d ∈ ds, lay n d) : lay (n + 1) (.tuple ds) := by
  obtain ⟨h1, h2⟩ := layAll h
  exact ⟨by simpa [PyData.canLay0] using h1, by show PyData.depthAll ds + 1 ≤ n + 1; omega⟩
theorem lay_list {n : Nat} {ds : List D} (h : ∀ d ∈ ds, lay n d) : lay (n + 1) (.list ds) := by
  obtain ⟨h1, h2⟩ := layAll h
  exact ⟨by simpa [PyData.canLay0] using h1, by show PyData.depthAll ds + 1 ≤ n + 1; omega⟩
theorem sh_int (i : Int) : SeqAt.shaped (.int i) = true := shaped_lay (lay_int i) (by decide)
theorem sh_bool (i : Bool) : SeqAt.shaped (.bool i) = true := shaped_lay (lay_bool i) (by decide)
theorem sh_str {i : Str} (h : (PyData.str i).canLay0 = true) : SeqAt.shaped (.str i) = true := shaped_lay (lay_str h) (by decide)
theorem sh_none : SeqAt.shaped .none = true := shaped_lay lay_none (by decide)
theorem sh_nil : SeqAt.shaped (.list []) = true := by decide
theorem eqv_int (a b : Int) : PyData.eqv (.int a) (.int b) = decide (a = b) := by
  show (a == b) = _
  by_cases h : a = b
  · subst h; simp
  · simp [h]
theorem eqv_nil (l : List D) : PyData.eqv (.list l) (.list []) = l.isEmpty := by cases l <;> rfl
theorem modpos (a : Int) {b : Int} (h : 0 < b) : 0 ≤ a % b ∧ a % b < b := ⟨Int.emod_nonneg a (by omega), Int.emod_lt_of_pos a h⟩
theorem atI_ex {α : Type} {xs : List α} {i : Int} (h0 : 0 ≤ i) (h1 : i < xs.length) : ∃ x, atI xs i = some x ∧ x ∈ xs ∧ xs[i.toNat]? = some x := by
  have hl : i.toNat < xs.length := by omega
  refine ⟨xs[i.toNat], ?_, List.getElem_mem hl, List.getElem?_eq_getElem hl⟩
  unfold atI ixN
  rw [if_pos h0, if_pos h1]
  show xs[i.toNat]? = _
  exact List.getElem?_eq_getElem hl
theorem atI_of {α : Type} {xs : List α} {i : Int} {x : α} (h0 : 0 ≤ i) (h : xs[i.toNat]? = some x) : atI xs i = some x := by
  have hl := (List.getElem?_eq_some_iff.mp h).1
  unfold atI ixN
  rw [if_pos h0, if_pos (by omega)]
  exact h
theorem atI_last {α : Type} {xs : List α} {x : α} (h : xs.getLast? = some x) : atI xs (-1) = some x := by
  have hl : 0 < xs.length := by
    cases xs with
    | nil => cases h
    | cons _ _ => simp
  unfold atI ixN
  rw [if_neg (by decide), if_pos (by omega)]
  show xs[((xs.length : Int) + -1).toNat]? = some x
  rw [List.getLast?_eq_getElem?] at h
  rw [← h]; congr 1; omega
def isIntg : D → Bool
  | .int _ => true
  | _ => false
theorem map_inj {α : Type} {f : α → D} (hf : ∀ a b, f a = f b → a = b) : ∀ {l m : List α}, l.map f = m.map f → l = m
  | [], [], _ => rfl
  | [], _ :: _, h => by simp at h
  | _ :: _, [], h => by simp at h
  | a :: l, b :: m, h => by
    rw [List.map_cons, List.map_cons, List.cons.injEq] at h
    rw [hf _ _ h.1, map_inj hf h.2]
theorem boolsOf_map {α : Type} (f : α → Bool) (xs : List α) : boolsOf (xs.map fun x => .bool (f x)) = some (xs.map f) := by
  induction xs with
  | nil => rfl
  | cons x xs ih => show (boolsOf (xs.map fun x => .bool (f x))).map _ = _; rw [ih]; rfl
theorem intsOf_map {α : Type} (f : α → Int) (xs : List α) : intsOf (xs.map fun x => .int (f x)) = some (xs.map f) := by
  induction xs with
  | nil => rfl
  | cons x xs ih => show (intsOf (xs.map fun x => .int (f x))).map _ = _; rw [ih]; rfl
theorem intsOf_ints (ms : List Int) : intsOf (ms.map .int) = some ms := by
  induction ms with
  | nil => rfl
  | cons m ms ih => show (intsOf (ms.map PyData.int)).map (m :: ·) = _; rw [ih]; rfl
theorem rgD_map (lo c : Int) (n : Nat) : rgD lo c n = (List.range n).map fun i => .int (lo + (i : Nat) * c) := rfl
theorem rg_1 {j : Int} (h : -(2305843009213693952 : Int) ≤ j ∧ j ≤ 16777216) : rgZ [SD.d (.int j)] = some (rgD 0 1 j.toNat) := if_pos h
theorem rg_2 {i j : Int} (h : -(2305843009213693952 : Int) ≤ i ∧ i ≤ 2305843009213693952 ∧ j - i ≤ 16777216 ∧ -(2305843009213693952 : Int) ≤ j ∧ j ≤ 2305843009213693952) : rgZ [SD.d (.int i), .d (.int j)] = some (rgD i 1 (j - i).toNat) := if_pos h
theorem rg_3 {i j : Int} (h : -(2305843009213693952 : Int) ≤ i ∧ i ≤ 2305843009213693952 ∧ i - j ≤ 16777216 ∧ -(2305843009213693952 : Int) ≤ j ∧ j ≤ 2305843009213693952) : rgZ [SD.d (.int i), .d (.int j), .d (.int (-1))] = some (rgD i (-1) (i - j).toNat) := if_pos ⟨rfl, h⟩
/-! systems and worlds as data -/
abbrev Bd := Int × Int × Int
abbrev bD (b : Bd) : D := .tuple [.int b.1, .int b.2.1, .int b.2.2]
abbrev bsD (bs : List Bd) : D := .tuple (bs.map bD)
abbrev sysD (n : Int) (bs : List Bd) : D := .tuple [.int n, bsD bs]
def okB (n : Int) (b : Bd) : Prop := 0 ≤ b.1 ∧ b.1 < n ∧ 0 ≤ b.2.1 ∧ b.2.1 < n ∧ b.1 ≠ b.2.1
def okS (n : Int) (bs : List Bd) : Prop := 1 ≤ n ∧ n ≤ 1000 ∧ bs.length ≤ 1000 ∧ ∀ b ∈ bs, okB n b
/-- moments, as they may come -/
def hasM (n : Int) : D → Bool
  | .tuple ds => decide ((ds.length : Int) = n) && ds.all isIntg && (match ds with | .int i :: _ => decide (i = 0) | _ => false)
  | _ => false
abbrev msD (ms : List Int) : D := .tuple (ms.map .int)
def mAt (ms : List Int) (i : Int) : Int := ms.getD i.toNat 0
def keepB (ms : List Int) (b : Bd) : Bool := decide (mAt ms b.1 - mAt ms b.2.1 ≤ b.2.2)
theorem ints_all {ds : List D} (h : ds.all isIntg = true) : ∃ ms : List Int, ds = ms.map .int := by
  induction ds with
  | nil => exact ⟨[], rfl⟩
  | cons d ds ih =>
    rw [List.all_cons, Bool.and_eq_true] at h
    obtain ⟨ms, rfl⟩ := ih h.2
    cases d with
    | int i => exact ⟨i :: ms, rfl⟩
    | _ => exact absurd h.1 (by simp [isIntg])
theorem all_ints (ms : List Int) : (ms.map PyData.int).all isIntg = true := by
  induction ms with
  | nil => rfl
  | cons m ms ih => rw [List.map_cons, List.all_cons, ih]; rfl
theorem hasM_iff {n : Int} (hn : 1 ≤ n) {d : D} : hasM n d = true ↔ ∃ ms : List Int, d = msD (0 :: ms) ∧ (ms.length : Int) + 1 = n := by
  constructor
  · intro h
    cases d with
    | tuple ds =>
      simp only [hasM, Bool.and_eq_true, decide_eq_true_eq] at h
      obtain ⟨⟨h1, h2⟩, h3⟩ := h
      obtain ⟨ms, rfl⟩ := ints_all h2
      cases ms with
      | nil => exfalso; simp at h1 <;> omega
      | cons m ms =>
        have h3 : decide (m = 0) = true := h3
        have : m = 0 := of_decide_eq_true h3
        subst this
        exact ⟨ms, rfl, by simpa using h1⟩
    | _ => cases h
  · rintro ⟨ms, rfl, h⟩
    simp only [hasM, Bool.and_eq_true, decide_eq_true_eq]
    exact ⟨⟨by simpa using h, all_ints _⟩, rfl⟩
theorem ms_get {ms : List Int} {i : Int} (h0 : 0 ≤ i) (h1 : i < ms.length) : ms[i.toNat]? = some (mAt ms i) := by
  have hl : i.toNat < ms.length := by omega
  unfold mAt
  rw [List.getD_eq_getElem?_getD, List.getElem?_eq_getElem hl]; rfl
theorem at_ms {ms : List Int} {i : Int} (h0 : 0 ≤ i) (h1 : i < ms.length) : atI (ms.map PyData.int) i = some (.int (mAt ms i)) :=
  atI_of h0 (by rw [List.getElem?_map, ms_get h0 h1]; rfl)
theorem bD_inj {b b' : Bd} (h : bD b = bD b') : b = b' := by
  obtain ⟨x, y, z⟩ := b
  obtain ⟨x', y', z'⟩ := b'
  simpa using h
theorem filt_nil {ds : List D} : (ds.filter fun d => !isIntg d) = [] ↔ ds.all isIntg = true := by
  induction ds with
  | nil => simp
  | cons d ds ih =>
    rw [List.filter_cons, List.all_cons]
    cases h : isIntg d with
    | true => simpa using ih
    | false => simp
theorem lay_ms (ms : List Int) : lay 1 (msD ms) := lay_tuple fun d hd => by
  obtain ⟨x, _, rfl⟩ := List.mem_map.mp hd
  exact lay_int x
theorem lay_b (b : Bd) : lay 1 (bD b) := lay_tuple fun d hd => by
  simp only [List.mem_cons, List.mem_nil_iff, or_false] at hd
  rcases hd with rfl | rfl | rfl <;> exact lay_int _
theorem sh_ms (ms : List Int) : SeqAt.shaped (msD ms) = true := shaped_lay (lay_ms ms) (by decide)
/-- is it a world? -/
def isW (n : Int) (bs : List Bd) (ms : List Int) : Bool := bs.all (keepB ms)
/-! forms.py -/
theorem e_is_integer (d : D) : F_is_integer [.fz d] = .ok (.fz (.bool (isIntg d))) [.fz d] := by
  cases d <;> rfl
theorem e_is_from (l i : Int) : F_is_from [.fz (.int l), .fz (.int i)] = .ok (.fz (.bool (decide (l ≤ i)))) [.fz (.int l), .fz (.int i)] := by
  unfold F_is_from x_is_from
  simp only [FL.runD, FL.startZ, FL.outsZ, FL.finZ, FL.endZ, List.replicate, List.cons_append, List.nil_append, List.append_nil, FL.zSeq, FL.zIf, FL.zRet, FL.zRetN, FL.zNext, FL.zDrop, FL.zSet, FL.zAsg, FL.zPar, FL.zRaise, FL.zSt, FL.zFor, FL.zBreak, FL.zCont, FL.asgZ, FL.xVar, FL.xC, FL.xOp, FL.xUn, FL.xB, FL.xAnd, FL.xOr, FL.xNot, FL.xAndE, FL.xOrE, FL.xNotE, FL.xIf, FL.xChain, FL.xaNil, FL.xaCons, FL.peeksZ, FL.xCB, FL.frzB, FL.frzZ, FL.xfNil, FL.xfCons, FL.xTup, FL.xLst, FL.xoNone, FL.xoSome, FL.xSl, FL.xLc, FL.xYes, FL.xiSeq, FL.xiRg, FL.xiEnum, FL.xiZip, FL.xMt, FL.xCall, FL.xcNil, FL.xcFz, FL.xcBw, FL.xcAn, FL.zForN, FL.xLcN, FL.bkZ, FL.xcOw, FL.xcPerm, FL.resZ, FL.backZ, FL.toPwZ, FL.xIs, FL.xIs2, FL.xExc, FL.Rs.bind, FL.getZ, FL.setZ, FL.nilsZ, FL.zlD, FL.peekZ, FL.boolZ, FL.opZ, FL.conZ, FL.wrZ, DL.stl, DL.RR.vr, DL.Cn.d, DL.noOw, DL.permR, DL.nthR, DL.isInt, DL.isBool, DL.isStr, DL.isList, DL.isTuple, DL.isNoneD, FL.yN, FL.ysNil, FL.ysCons, FL.yT, FL.yI, FL.yIc, FL.ySub, FL.yLt, FL.yLe, FL.yGt, FL.yGe, FL.yMul, FL.yDiv, FL.yMod, FL.yPow, FL.yNeg, FL.yAdd, FL.yIsN, FL.yIsB, FL.yEq, FL.yInn, FL.yIx, FL.yLen, FL.yInt, FL.yAbs, FL.yMax, FL.yMin, FL.ySum, FL.yAll, FL.yAny, FL.yDivmod, FL.yList, FL.yTuple, FL.yMulS, FL.ySl, FL.fAppend, FL.fPop, FL.fPopAt, FL.fInsert, FL.fExtend, FL.fReverse, FL.fCount, FL.fIndex, if_pos, if_neg, Bool.not_true, Bool.not_false, Bool.xor_false, Bool.false_xor, Bool.xor_true, Bool.true_xor, if_true, if_false, Bool.false_eq_true, and_true, true_and, and_self, Option.isSome_some, Option.isSome_none, reduceIte, e_is_integer, isIntg]
theorem e_is_between (l i h : Int) : F_is_between [.fz (.int l), .fz (.int i), .fz (.int h)] = .ok (.fz (.bool (decide (l ≤ i) && decide (i ≤ h)))) [.fz (.int l), .fz (.int i), .fz (.int h)] := by
  unfold F_is_between x_is_between
  simp only [FL.runD, FL.startZ, FL.outsZ, FL.finZ, FL.endZ, List.replicate, List.cons_append, List.nil_append, List.append_nil, FL.zSeq, FL.zIf, FL.zRet, FL.zRetN, FL.zNext, FL.zDrop, FL.zSet, FL.zAsg, FL.zPar, FL.zRaise, FL.zSt, FL.zFor, FL.zBreak, FL.zCont, FL.asgZ, FL.xVar, FL.xC, FL.xOp, FL.xUn, FL.xB, FL.xAnd, FL.xOr, FL.xNot, FL.xAndE, FL.xOrE, FL.xNotE, FL.xIf, FL.xChain, FL.xaNil, FL.xaCons, FL.peeksZ, FL.xCB, FL.frzB, FL.frzZ, FL.xfNil, FL.xfCons, FL.xTup, FL.xLst, FL.xoNone, FL.xoSome, FL.xSl, FL.xLc, FL.xYes, FL.xiSeq, FL.xiRg, FL.xiEnum, FL.xiZip, FL.xMt, FL.xCall, FL.xcNil, FL.xcFz, FL.xcBw, FL.xcAn, FL.zForN, FL.xLcN, FL.bkZ, FL.xcOw, FL.xcPerm, FL.resZ, FL.backZ, FL.toPwZ, FL.xIs, FL.xIs2, FL.xExc, FL.Rs.bind, FL.getZ, FL.setZ, FL.nilsZ, FL.zlD, FL.peekZ, FL.boolZ, FL.opZ, FL.conZ, FL.wrZ, DL.stl, DL.RR.vr, DL.Cn.d, DL.noOw, DL.permR, DL.nthR, DL.isInt, DL.isBool, DL.isStr, DL.isList, DL.isTuple, DL.isNoneD, FL.yN, FL.ysNil, FL.ysCons, FL.yT, FL.yI, FL.yIc, FL.ySub, FL.yLt, FL.yLe, FL.yGt, FL.yGe, FL.yMul, FL.yDiv, FL.yMod, FL.yPow, FL.yNeg, FL.yAdd, FL.yIsN, FL.yIsB, FL.yEq, FL.yInn, FL.yIx, FL.yLen, FL.yInt, FL.yAbs, FL.yMax, FL.yMin, FL.ySum, FL.yAll, FL.yAny, FL.yDivmod, FL.yList, FL.yTuple, FL.yMulS, FL.ySl, FL.fAppend, FL.fPop, FL.fPopAt, FL.fInsert, FL.fExtend, FL.fReverse, FL.fCount, FL.fIndex, if_pos, if_neg, Bool.not_true, Bool.not_false, Bool.xor_false, Bool.false_xor, Bool.xor_true, Bool.true_xor, if_true, if_false, Bool.false_eq_true, and_true, true_and, and_self, Option.isSome_some, Option.isSome_none, reduceIte, e_is_integer, isIntg]
  cases h1 : decide (l ≤ i) <;> simp only [FL.runD, FL.startZ, FL.outsZ, FL.finZ, FL.endZ, List.replicate, List.cons_append, List.nil_append, List.append_nil, FL.zSeq, FL.zIf, FL.zRet, FL.zRetN, FL.zNext, FL.zDrop, FL.zSet, FL.zAsg, FL.zPar, FL.zRaise, FL.zSt, FL.zFor, FL.zBreak, FL.zCont, FL.asgZ, FL.xVar, FL.xC, FL.xOp, FL.xUn, FL.xB, FL.xAnd, FL.xOr, FL.xNot, FL.xAndE, FL.xOrE, FL.xNotE, FL.xIf, FL.xChain, FL.xaNil, FL.xaCons, FL.peeksZ, FL.xCB, FL.frzB, FL.frzZ, FL.xfNil, FL.xfCons, FL.xTup, FL.xLst, FL.xoNone, FL.xoSome, FL.xSl, FL.xLc, FL.xYes, FL.xiSeq, FL.xiRg, FL.xiEnum, FL.xiZip, FL.xMt, FL.xCall, FL.xcNil, FL.xcFz, FL.xcBw, FL.xcAn, FL.zForN, FL.xLcN, FL.bkZ, FL.xcOw, FL.xcPerm, FL.resZ, FL.backZ, FL.toPwZ, FL.xIs, FL.xIs2, FL.xExc, FL.Rs.bind, FL.getZ, FL.setZ, FL.nilsZ, FL.zlD, FL.peekZ, FL.boolZ, FL.opZ, FL.conZ, FL.wrZ, DL.stl, DL.RR.vr, DL.Cn.d, DL.noOw, DL.permR, DL.nthR, DL.isInt, DL.isBool, DL.isStr, DL.isList, DL.isTuple, DL.isNoneD, FL.yN, FL.ysNil, FL.ysCons, FL.yT, FL.yI, FL.yIc, FL.ySub, FL.yLt, FL.yLe, FL.yGt, FL.yGe, FL.yMul, FL.yDiv, FL.yMod, FL.yPow, FL.yNeg, FL.yAdd, FL.yIsN, FL.yIsB, FL.yEq, FL.yInn, FL.yIx, FL.yLen, FL.yInt, FL.yAbs, FL.yMax, FL.yMin, FL.ySum, FL.yAll, FL.yAny, FL.yDivmod, FL.yList, FL.yTuple, FL.yMulS, FL.ySl, FL.fAppend, FL.fPop, FL.fPopAt, FL.fInsert, FL.fExtend, FL.fReverse, FL.fCount, FL.fIndex, if_pos, if_neg, Bool.not_true, Bool.not_false, Bool.xor_false, Bool.false_xor, Bool.xor_true, Bool.true_xor, if_true, if_false, Bool.false_eq_true, and_true, true_and, and_self, Option.isSome_some, Option.isSome_none, reduceIte, Bool.true_and, Bool.false_and]
theorem e_is_index (n i : Int) : F_is_index [.fz (.int n), .fz (.int i)] = .ok (.fz (.bool (decide (0 ≤ i) && decide (i ≤ n - 1)))) [.fz (.int n), .fz (.int i)] := by
  unfold F_is_index x_is_index
  simp only [FL.runD, FL.startZ, FL.outsZ, FL.finZ, FL.endZ, List.replicate, List.cons_append, List.nil_append, List.append_nil, FL.zSeq, FL.zIf, FL.zRet, FL.zRetN, FL.zNext, FL.zDrop, FL.zSet, FL.zAsg, FL.zPar, FL.zRaise, FL.zSt, FL.zFor, FL.zBreak, FL.zCont, FL.asgZ, FL.xVar, FL.xC, FL.xOp, FL.xUn, FL.xB, FL.xAnd, FL.xOr, FL.xNot, FL.xAndE, FL.xOrE, FL.xNotE, FL.xIf, FL.xChain, FL.xaNil, FL.xaCons, FL.peeksZ, FL.xCB, FL.frzB, FL.frzZ, FL.xfNil, FL.xfCons, FL.xTup, FL.xLst, FL.xoNone, FL.xoSome, FL.xSl, FL.xLc, FL.xYes, FL.xiSeq, FL.xiRg, FL.xiEnum, FL.xiZip, FL.xMt, FL.xCall, FL.xcNil, FL.xcFz, FL.xcBw, FL.xcAn, FL.zForN, FL.xLcN, FL.bkZ, FL.xcOw, FL.xcPerm, FL.resZ, FL.backZ, FL.toPwZ, FL.xIs, FL.xIs2, FL.xExc, FL.Rs.bind, FL.getZ, FL.setZ, FL.nilsZ, FL.zlD, FL.peekZ, FL.boolZ, FL.opZ, FL.conZ, FL.wrZ, DL.stl, DL.RR.vr, DL.Cn.d, DL.noOw, DL.permR, DL.nthR, DL.isInt, DL.isBool, DL.isStr, DL.isList, DL.isTuple, DL.isNoneD, FL.yN, FL.ysNil, FL.ysCons, FL.yT, FL.yI, FL.yIc, FL.ySub, FL.yLt, FL.yLe, FL.yGt, FL.yGe, FL.yMul, FL.yDiv, FL.yMod, FL.yPow, FL.yNeg, FL.yAdd, FL.yIsN, FL.yIsB, FL.yEq, FL.yInn, FL.yIx, FL.yLen, FL.yInt, FL.yAbs, FL.yMax, FL.yMin, FL.ySum, FL.yAll, FL.yAny, FL.yDivmod, FL.yList, FL.yTuple, FL.yMulS, FL.ySl, FL.fAppend, FL.fPop, FL.fPopAt, FL.fInsert, FL.fExtend, FL.fReverse, FL.fCount, FL.fIndex, if_pos, if_neg, Bool.not_true, Bool.not_false, Bool.xor_false, Bool.false_xor, Bool.xor_true, Bool.true_xor, if_true, if_false, Bool.false_eq_true, and_true, true_and, and_self, Option.isSome_some, Option.isSome_none, reduceIte, e_is_between]
theorem e_is_bound {n : Int} {b : Bd} (h : okB n b) : F_is_bound [.fz (.int n), .fz (bD b)] = .ok (.fz (.bool true)) [.fz (.int n), .fz (bD b)] := by
  obtain ⟨h1, h2, h3, h4, h5⟩ := h
  have a0 : atI [PyData.int b.1, .int b.2.1, .int b.2.2] 0 = some (.int b.1) := rfl
  have a1 : atI [PyData.int b.1, .int b.2.1, .int b.2.2] 1 = some (.int b.2.1) := rfl
  have a2 : atI [PyData.int b.1, .int b.2.1, .int b.2.2] 2 = some (.int b.2.2) := rfl
  have e : PyData.eqv (.int ((([PyData.int b.1, .int b.2.1, .int b.2.2] : List D).length : Nat) : Int)) (.int 3) = true := rfl
  unfold F_is_bound x_is_bound
  simp only [FL.runD, FL.startZ, FL.outsZ, FL.finZ, FL.endZ, List.replicate, List.cons_append, List.nil_append, List.append_nil, FL.zSeq, FL.zIf, FL.zRet, FL.zRetN, FL.zNext, FL.zDrop, FL.zSet, FL.zAsg, FL.zPar, FL.zRaise, FL.zSt, FL.zFor, FL.zBreak, FL.zCont, FL.asgZ, FL.xVar, FL.xC, FL.xOp, FL.xUn, FL.xB, FL.xAnd, FL.xOr, FL.xNot, FL.xAndE, FL.xOrE, FL.xNotE, FL.xIf, FL.xChain, FL.xaNil, FL.xaCons, FL.peeksZ, FL.xCB, FL.frzB, FL.frzZ, FL.xfNil, FL.xfCons, FL.xTup, FL.xLst, FL.xoNone, FL.xoSome, FL.xSl, FL.xLc, FL.xYes, FL.xiSeq, FL.xiRg, FL.xiEnum, FL.xiZip, FL.xMt, FL.xCall, FL.xcNil, FL.xcFz, FL.xcBw, FL.xcAn, FL.zForN, FL.xLcN, FL.bkZ, FL.xcOw, FL.xcPerm, FL.resZ, FL.backZ, FL.toPwZ, FL.xIs, FL.xIs2, FL.xExc, FL.Rs.bind, FL.getZ, FL.setZ, FL.nilsZ, FL.zlD, FL.peekZ, FL.boolZ, FL.opZ, FL.conZ, FL.wrZ, DL.stl, DL.RR.vr, DL.Cn.d, DL.noOw, DL.permR, DL.nthR, DL.isInt, DL.isBool, DL.isStr, DL.isList, DL.isTuple, DL.isNoneD, FL.yN, FL.ysNil, FL.ysCons, FL.yT, FL.yI, FL.yIc, FL.ySub, FL.yLt, FL.yLe, FL.yGt, FL.yGe, FL.yMul, FL.yDiv, FL.yMod, FL.yPow, FL.yNeg, FL.yAdd, FL.yIsN, FL.yIsB, FL.yEq, FL.yInn, FL.yIx, FL.yLen, FL.yInt, FL.yAbs, FL.yMax, FL.yMin, FL.ySum, FL.yAll, FL.yAny, FL.yDivmod, FL.yList, FL.yTuple, FL.yMulS, FL.ySl, FL.fAppend, FL.fPop, FL.fPopAt, FL.fInsert, FL.fExtend, FL.fReverse, FL.fCount, FL.fIndex, if_pos, if_neg, Bool.not_true, Bool.not_false, Bool.xor_false, Bool.false_xor, Bool.xor_true, Bool.true_xor, if_true, if_false, Bool.false_eq_true, and_true, true_and, and_self, Option.isSome_some, Option.isSome_none, reduceIte, a0, a1, a2, e_is_integer, isIntg, sh_int, and_self, e, e_is_index, decide_eq_true h1, decide_eq_true h3, decide_eq_true (show b.1 ≤ n - 1 by omega), decide_eq_true (show b.2.1 ≤ n - 1 by omega), Bool.and_self, eqv_int, decide_eq_false h5]
theorem e_is_system_form {n : Int} {bs : List Bd} (h : okS n bs) : F_is_system_form [.fz (sysD n bs)] = .ok (.fz (.bool true)) [.fz (sysD n bs)] := by
  obtain ⟨h1, h2, h3, h4⟩ := h
  have a0 : atI [PyData.int n, bsD bs] 0 = some (.int n) := rfl
  have a1 : atI [PyData.int n, bsD bs] 1 = some (bsD bs) := rfl
  have e : PyData.eqv (.int ((([PyData.int n, bsD bs] : List D).length : Nat) : Int)) (.int 2) = true := rfl
  have lc : lcF (yN 1) xYes x_is_system_form_c1 [1] (bs.map bD) [.fz (sysD n bs), .nil] = .ok (bs.map fun _ => .bool true) [.fz (sysD n bs), .nil] :=
    lcF_map bD (fun _ => .bool true) bs fun b hb => ⟨_, rfl, by
      unfold x_is_system_form_c1
      simp only [FL.runD, FL.startZ, FL.outsZ, FL.finZ, FL.endZ, List.replicate, List.cons_append, List.nil_append, List.append_nil, FL.zSeq, FL.zIf, FL.zRet, FL.zRetN, FL.zNext, FL.zDrop, FL.zSet, FL.zAsg, FL.zPar, FL.zRaise, FL.zSt, FL.zFor, FL.zBreak, FL.zCont, FL.asgZ, FL.xVar, FL.xC, FL.xOp, FL.xUn, FL.xB, FL.xAnd, FL.xOr, FL.xNot, FL.xAndE, FL.xOrE, FL.xNotE, FL.xIf, FL.xChain, FL.xaNil, FL.xaCons, FL.peeksZ, FL.xCB, FL.frzB, FL.frzZ, FL.xfNil, FL.xfCons, FL.xTup, FL.xLst, FL.xoNone, FL.xoSome, FL.xSl, FL.xLc, FL.xYes, FL.xiSeq, FL.xiRg, FL.xiEnum, FL.xiZip, FL.xMt, FL.xCall, FL.xcNil, FL.xcFz, FL.xcBw, FL.xcAn, FL.zForN, FL.xLcN, FL.bkZ, FL.xcOw, FL.xcPerm, FL.resZ, FL.backZ, FL.toPwZ, FL.xIs, FL.xIs2, FL.xExc, FL.Rs.bind, FL.getZ, FL.setZ, FL.nilsZ, FL.zlD, FL.peekZ, FL.boolZ, FL.opZ, FL.conZ, FL.wrZ, DL.stl, DL.RR.vr, DL.Cn.d, DL.noOw, DL.permR, DL.nthR, DL.isInt, DL.isBool, DL.isStr, DL.isList, DL.isTuple, DL.isNoneD, FL.yN, FL.ysNil, FL.ysCons, FL.yT, FL.yI, FL.yIc, FL.ySub, FL.yLt, FL.yLe, FL.yGt, FL.yGe, FL.yMul, FL.yDiv, FL.yMod, FL.yPow, FL.yNeg, FL.yAdd, FL.yIsN, FL.yIsB, FL.yEq, FL.yInn, FL.yIx, FL.yLen, FL.yInt, FL.yAbs, FL.yMax, FL.yMin, FL.ySum, FL.yAll, FL.yAny, FL.yDivmod, FL.yList, FL.yTuple, FL.yMulS, FL.ySl, FL.fAppend, FL.fPop, FL.fPopAt, FL.fInsert, FL.fExtend, FL.fReverse, FL.fCount, FL.fIndex, if_pos, if_neg, Bool.not_true, Bool.not_false, Bool.xor_false, Bool.false_xor, Bool.xor_true, Bool.true_xor, if_true, if_false, Bool.false_eq_true, and_true, true_and, and_self, Option.isSome_some, Option.isSome_none, reduceIte, a0, e_is_bound (h4 b hb)], rfl⟩
  have al : ((bs.map fun _ => true).all id) = true := by rw [List.all_map]; simp
  unfold F_is_system_form x_is_system_form
  simp only [FL.runD, FL.startZ, FL.outsZ, FL.finZ, FL.endZ, List.replicate, List.cons_append, List.nil_append, List.append_nil, FL.zSeq, FL.zIf, FL.zRet, FL.zRetN, FL.zNext, FL.zDrop, FL.zSet, FL.zAsg, FL.zPar, FL.zRaise, FL.zSt, FL.zFor, FL.zBreak, FL.zCont, FL.asgZ, FL.xVar, FL.xC, FL.xOp, FL.xUn, FL.xB, FL.xAnd, FL.xOr, FL.xNot, FL.xAndE, FL.xOrE, FL.xNotE, FL.xIf, FL.xChain, FL.xaNil, FL.xaCons, FL.peeksZ, FL.xCB, FL.frzB, FL.frzZ, FL.xfNil, FL.xfCons, FL.xTup, FL.xLst, FL.xoNone, FL.xoSome, FL.xSl, FL.xLc, FL.xYes, FL.xiSeq, FL.xiRg, FL.xiEnum, FL.xiZip, FL.xMt, FL.xCall, FL.xcNil, FL.xcFz, FL.xcBw, FL.xcAn, FL.zForN, FL.xLcN, FL.bkZ, FL.xcOw, FL.xcPerm, FL.resZ, FL.backZ, FL.toPwZ, FL.xIs, FL.xIs2, FL.xExc, FL.Rs.bind, FL.getZ, FL.setZ, FL.nilsZ, FL.zlD, FL.peekZ, FL.boolZ, FL.opZ, FL.conZ, FL.wrZ, DL.stl, DL.RR.vr, DL.Cn.d, DL.noOw, DL.permR, DL.nthR, DL.isInt, DL.isBool, DL.isStr, DL.isList, DL.isTuple, DL.isNoneD, FL.yN, FL.ysNil, FL.ysCons, FL.yT, FL.yI, FL.yIc, FL.ySub, FL.yLt, FL.yLe, FL.yGt, FL.yGe, FL.yMul, FL.yDiv, FL.yMod, FL.yPow, FL.yNeg, FL.yAdd, FL.yIsN, FL.yIsB, FL.yEq, FL.yInn, FL.yIx, FL.yLen, FL.yInt, FL.yAbs, FL.yMax, FL.yMin, FL.ySum, FL.yAll, FL.yAny, FL.yDivmod, FL.yList, FL.yTuple, FL.yMulS, FL.ySl, FL.fAppend, FL.fPop, FL.fPopAt, FL.fInsert, FL.fExtend, FL.fReverse, FL.fCount, FL.fIndex, if_pos, if_neg, Bool.not_true, Bool.not_false, Bool.xor_false, Bool.false_xor, Bool.xor_true, Bool.true_xor, if_true, if_false, Bool.false_eq_true, and_true, true_and, and_self, Option.isSome_some, Option.isSome_none, reduceIte, a0, a1, e, sh_int, and_self, e_is_from, decide_eq_true h1, lc, boolsOf_map, al]
theorem e_check_system {n : Int} {bs : List Bd} (h : okS n bs) : F_check_system [.fz (sysD n bs)] = .ok (.fz .none) [.fz (sysD n bs)] := by
  unfold F_check_system x_check_system
  simp only [FL.runD, FL.startZ, FL.outsZ, FL.finZ, FL.endZ, List.replicate, List.cons_append, List.nil_append, List.append_nil, FL.zSeq, FL.zIf, FL.zRet, FL.zRetN, FL.zNext, FL.zDrop, FL.zSet, FL.zAsg, FL.zPar, FL.zRaise, FL.zSt, FL.zFor, FL.zBreak, FL.zCont, FL.asgZ, FL.xVar, FL.xC, FL.xOp, FL.xUn, FL.xB, FL.xAnd, FL.xOr, FL.xNot, FL.xAndE, FL.xOrE, FL.xNotE, FL.xIf, FL.xChain, FL.xaNil, FL.xaCons, FL.peeksZ, FL.xCB, FL.frzB, FL.frzZ, FL.xfNil, FL.xfCons, FL.xTup, FL.xLst, FL.xoNone, FL.xoSome, FL.xSl, FL.xLc, FL.xYes, FL.xiSeq, FL.xiRg, FL.xiEnum, FL.xiZip, FL.xMt, FL.xCall, FL.xcNil, FL.xcFz, FL.xcBw, FL.xcAn, FL.zForN, FL.xLcN, FL.bkZ, FL.xcOw, FL.xcPerm, FL.resZ, FL.backZ, FL.toPwZ, FL.xIs, FL.xIs2, FL.xExc, FL.Rs.bind, FL.getZ, FL.setZ, FL.nilsZ, FL.zlD, FL.peekZ, FL.boolZ, FL.opZ, FL.conZ, FL.wrZ, DL.stl, DL.RR.vr, DL.Cn.d, DL.noOw, DL.permR, DL.nthR, DL.isInt, DL.isBool, DL.isStr, DL.isList, DL.isTuple, DL.isNoneD, FL.yN, FL.ysNil, FL.ysCons, FL.yT, FL.yI, FL.yIc, FL.ySub, FL.yLt, FL.yLe, FL.yGt, FL.yGe, FL.yMul, FL.yDiv, FL.yMod, FL.yPow, FL.yNeg, FL.yAdd, FL.yIsN, FL.yIsB, FL.yEq, FL.yInn, FL.yIx, FL.yLen, FL.yInt, FL.yAbs, FL.yMax, FL.yMin, FL.ySum, FL.yAll, FL.yAny, FL.yDivmod, FL.yList, FL.yTuple, FL.yMulS, FL.ySl, FL.fAppend, FL.fPop, FL.fPopAt, FL.fInsert, FL.fExtend, FL.fReverse, FL.fCount, FL.fIndex, if_pos, if_neg, Bool.not_true, Bool.not_false, Bool.xor_false, Bool.false_xor, Bool.xor_true, Bool.true_xor, if_true, if_false, Bool.false_eq_true, and_true, true_and, and_self, Option.isSome_some, Option.isSome_none, reduceIte, e_is_system_form h]
theorem e_keeps_bound {ms : List Int} {n : Int} {b : Bd} (h : okB n b) (hl : (ms.length : Int) = n) : F_keeps_bound [.fz (msD ms), .fz (bD b)] = .ok (.fz (.bool (keepB ms b))) [.fz (msD ms), .fz (bD b)] := by
  obtain ⟨h1, h2, h3, h4, h5⟩ := h
  unfold F_keeps_bound x_keeps_bound
  simp only [FL.runD, FL.startZ, FL.outsZ, FL.finZ, FL.endZ, List.replicate, List.cons_append, List.nil_append, List.append_nil, FL.zSeq, FL.zIf, FL.zRet, FL.zRetN, FL.zNext, FL.zDrop, FL.zSet, FL.zAsg, FL.zPar, FL.zRaise, FL.zSt, FL.zFor, FL.zBreak, FL.zCont, FL.asgZ, FL.xVar, FL.xC, FL.xOp, FL.xUn, FL.xB, FL.xAnd, FL.xOr, FL.xNot, FL.xAndE, FL.xOrE, FL.xNotE, FL.xIf, FL.xChain, FL.xaNil, FL.xaCons, FL.peeksZ, FL.xCB, FL.frzB, FL.frzZ, FL.xfNil, FL.xfCons, FL.xTup, FL.xLst, FL.xoNone, FL.xoSome, FL.xSl, FL.xLc, FL.xYes, FL.xiSeq, FL.xiRg, FL.xiEnum, FL.xiZip, FL.xMt, FL.xCall, FL.xcNil, FL.xcFz, FL.xcBw, FL.xcAn, FL.zForN, FL.xLcN, FL.bkZ, FL.xcOw, FL.xcPerm, FL.resZ, FL.backZ, FL.toPwZ, FL.xIs, FL.xIs2, FL.xExc, FL.Rs.bind, FL.getZ, FL.setZ, FL.nilsZ, FL.zlD, FL.peekZ, FL.boolZ, FL.opZ, FL.conZ, FL.wrZ, DL.stl, DL.RR.vr, DL.Cn.d, DL.noOw, DL.permR, DL.nthR, DL.isInt, DL.isBool, DL.isStr, DL.isList, DL.isTuple, DL.isNoneD, FL.yN, FL.ysNil, FL.ysCons, FL.yT, FL.yI, FL.yIc, FL.ySub, FL.yLt, FL.yLe, FL.yGt, FL.yGe, FL.yMul, FL.yDiv, FL.yMod, FL.yPow, FL.yNeg, FL.yAdd, FL.yIsN, FL.yIsB, FL.yEq, FL.yInn, FL.yIx, FL.yLen, FL.yInt, FL.yAbs, FL.yMax, FL.yMin, FL.ySum, FL.yAll, FL.yAny, FL.yDivmod, FL.yList, FL.yTuple, FL.yMulS, FL.ySl, FL.fAppend, FL.fPop, FL.fPopAt, FL.fInsert, FL.fExtend, FL.fReverse, FL.fCount, FL.fIndex, if_pos, if_neg, Bool.not_true, Bool.not_false, Bool.xor_false, Bool.false_xor, Bool.xor_true, Bool.true_xor, if_true, if_false, Bool.false_eq_true, and_true, true_and, and_self, Option.isSome_some, Option.isSome_none, reduceIte, at_ms (ms := ms) h1 (by omega), at_ms (ms := ms) h3 (by omega)]
  rfl
/-- all that may be asked: data of any form that can be compared -/
theorem e_has_moments {n : Int} {bs : List Bd} {d : D} (hn : 1 ≤ n) : F_has_moments [.fz (sysD n bs), .fz d] = .ok (.fz (.bool (hasM n d))) [.fz (sysD n bs), .fz d] := by
  have a0 : atI [PyData.int n, bsD bs] 0 = some (.int n) := rfl
  unfold F_has_moments x_has_moments
  cases d with
  | tuple ds =>
    have lc : lcF (yN 2) xYes x_has_moments_c1 [2] ds [.fz (sysD n bs), .fz (.tuple ds), .nil] = .ok (ds.map fun d => .bool (isIntg d)) [.fz (sysD n bs), .fz (.tuple ds), .nil] := by
      have := lcF_map (g := yN 2) (te := x_has_moments_c1) (vs := [2]) (ρ := [.fz (sysD n bs), .fz (.tuple ds), .nil]) (fun d => d) (fun d => .bool (isIntg d)) ds fun b hb => ⟨_, rfl, by
        unfold x_has_moments_c1
        simp only [FL.runD, FL.startZ, FL.outsZ, FL.finZ, FL.endZ, List.replicate, List.cons_append, List.nil_append, List.append_nil, FL.zSeq, FL.zIf, FL.zRet, FL.zRetN, FL.zNext, FL.zDrop, FL.zSet, FL.zAsg, FL.zPar, FL.zRaise, FL.zSt, FL.zFor, FL.zBreak, FL.zCont, FL.asgZ, FL.xVar, FL.xC, FL.xOp, FL.xUn, FL.xB, FL.xAnd, FL.xOr, FL.xNot, FL.xAndE, FL.xOrE, FL.xNotE, FL.xIf, FL.xChain, FL.xaNil, FL.xaCons, FL.peeksZ, FL.xCB, FL.frzB, FL.frzZ, FL.xfNil, FL.xfCons, FL.xTup, FL.xLst, FL.xoNone, FL.xoSome, FL.xSl, FL.xLc, FL.xYes, FL.xiSeq, FL.xiRg, FL.xiEnum, FL.xiZip, FL.xMt, FL.xCall, FL.xcNil, FL.xcFz, FL.xcBw, FL.xcAn, FL.zForN, FL.xLcN, FL.bkZ, FL.xcOw, FL.xcPerm, FL.resZ, FL.backZ, FL.toPwZ, FL.xIs, FL.xIs2, FL.xExc, FL.Rs.bind, FL.getZ, FL.setZ, FL.nilsZ, FL.zlD, FL.peekZ, FL.boolZ, FL.opZ, FL.conZ, FL.wrZ, DL.stl, DL.RR.vr, DL.Cn.d, DL.noOw, DL.permR, DL.nthR, DL.isInt, DL.isBool, DL.isStr, DL.isList, DL.isTuple, DL.isNoneD, FL.yN, FL.ysNil, FL.ysCons, FL.yT, FL.yI, FL.yIc, FL.ySub, FL.yLt, FL.yLe, FL.yGt, FL.yGe, FL.yMul, FL.yDiv, FL.yMod, FL.yPow, FL.yNeg, FL.yAdd, FL.yIsN, FL.yIsB, FL.yEq, FL.yInn, FL.yIx, FL.yLen, FL.yInt, FL.yAbs, FL.yMax, FL.yMin, FL.ySum, FL.yAll, FL.yAny, FL.yDivmod, FL.yList, FL.yTuple, FL.yMulS, FL.ySl, FL.fAppend, FL.fPop, FL.fPopAt, FL.fInsert, FL.fExtend, FL.fReverse, FL.fCount, FL.fIndex, if_pos, if_neg, Bool.not_true, Bool.not_false, Bool.xor_false, Bool.false_xor, Bool.xor_true, Bool.true_xor, if_true, if_false, Bool.false_eq_true, and_true, true_and, and_self, Option.isSome_some, Option.isSome_none, reduceIte, e_is_integer], rfl⟩
      rw [List.map_id''] at this
      · exact this
      · intro; rfl
    have al : ((ds.map isIntg).all id) = ds.all isIntg := by rw [List.all_map]; rfl
    simp only [FL.runD, FL.startZ, FL.outsZ, FL.finZ, FL.endZ, List.replicate, List.cons_append, List.nil_append, List.append_nil, FL.zSeq, FL.zIf, FL.zRet, FL.zRetN, FL.zNext, FL.zDrop, FL.zSet, FL.zAsg, FL.zPar, FL.zRaise, FL.zSt, FL.zFor, FL.zBreak, FL.zCont, FL.asgZ, FL.xVar, FL.xC, FL.xOp, FL.xUn, FL.xB, FL.xAnd, FL.xOr, FL.xNot, FL.xAndE, FL.xOrE, FL.xNotE, FL.xIf, FL.xChain, FL.xaNil, FL.xaCons, FL.peeksZ, FL.xCB, FL.frzB, FL.frzZ, FL.xfNil, FL.xfCons, FL.xTup, FL.xLst, FL.xoNone, FL.xoSome, FL.xSl, FL.xLc, FL.xYes, FL.xiSeq, FL.xiRg, FL.xiEnum, FL.xiZip, FL.xMt, FL.xCall, FL.xcNil, FL.xcFz, FL.xcBw, FL.xcAn, FL.zForN, FL.xLcN, FL.bkZ, FL.xcOw, FL.xcPerm, FL.resZ, FL.backZ, FL.toPwZ, FL.xIs, FL.xIs2, FL.xExc, FL.Rs.bind, FL.getZ, FL.setZ, FL.nilsZ, FL.zlD, FL.peekZ, FL.boolZ, FL.opZ, FL.conZ, FL.wrZ, DL.stl, DL.RR.vr, DL.Cn.d, DL.noOw, DL.permR, DL.nthR, DL.isInt, DL.isBool, DL.isStr, DL.isList, DL.isTuple, DL.isNoneD, FL.yN, FL.ysNil, FL.ysCons, FL.yT, FL.yI, FL.yIc, FL.ySub, FL.yLt, FL.yLe, FL.yGt, FL.yGe, FL.yMul, FL.yDiv, FL.yMod, FL.yPow, FL.yNeg, FL.yAdd, FL.yIsN, FL.yIsB, FL.yEq, FL.yInn, FL.yIx, FL.yLen, FL.yInt, FL.yAbs, FL.yMax, FL.yMin, FL.ySum, FL.yAll, FL.yAny, FL.yDivmod, FL.yList, FL.yTuple, FL.yMulS, FL.ySl, FL.fAppend, FL.fPop, FL.fPopAt, FL.fInsert, FL.fExtend, FL.fReverse, FL.fCount, FL.fIndex, if_pos, if_neg, Bool.not_true, Bool.not_false, Bool.xor_false, Bool.false_xor, Bool.xor_true, Bool.true_xor, if_true, if_false, Bool.false_eq_true, and_true, true_and, and_self, Option.isSome_some, Option.isSome_none, reduceIte, a0, sh_int, and_self, eqv_int]
    by_cases hl : (ds.length : Int) = n
    · simp only [decide_eq_true hl, FL.runD, FL.startZ, FL.outsZ, FL.finZ, FL.endZ, List.replicate, List.cons_append, List.nil_append, List.append_nil, FL.zSeq, FL.zIf, FL.zRet, FL.zRetN, FL.zNext, FL.zDrop, FL.zSet, FL.zAsg, FL.zPar, FL.zRaise, FL.zSt, FL.zFor, FL.zBreak, FL.zCont, FL.asgZ, FL.xVar, FL.xC, FL.xOp, FL.xUn, FL.xB, FL.xAnd, FL.xOr, FL.xNot, FL.xAndE, FL.xOrE, FL.xNotE, FL.xIf, FL.xChain, FL.xaNil, FL.xaCons, FL.peeksZ, FL.xCB, FL.frzB, FL.frzZ, FL.xfNil, FL.xfCons, FL.xTup, FL.xLst, FL.xoNone, FL.xoSome, FL.xSl, FL.xLc, FL.xYes, FL.xiSeq, FL.xiRg, FL.xiEnum, FL.xiZip, FL.xMt, FL.xCall, FL.xcNil, FL.xcFz, FL.xcBw, FL.xcAn, FL.zForN, FL.xLcN, FL.bkZ, FL.xcOw, FL.xcPerm, FL.resZ, FL.backZ, FL.toPwZ, FL.xIs, FL.xIs2, FL.xExc, FL.Rs.bind, FL.getZ, FL.setZ, FL.nilsZ, FL.zlD, FL.peekZ, FL.boolZ, FL.opZ, FL.conZ, FL.wrZ, DL.stl, DL.RR.vr, DL.Cn.d, DL.noOw, DL.permR, DL.nthR, DL.isInt, DL.isBool, DL.isStr, DL.isList, DL.isTuple, DL.isNoneD, FL.yN, FL.ysNil, FL.ysCons, FL.yT, FL.yI, FL.yIc, FL.ySub, FL.yLt, FL.yLe, FL.yGt, FL.yGe, FL.yMul, FL.yDiv, FL.yMod, FL.yPow, FL.yNeg, FL.yAdd, FL.yIsN, FL.yIsB, FL.yEq, FL.yInn, FL.yIx, FL.yLen, FL.yInt, FL.yAbs, FL.yMax, FL.yMin, FL.ySum, FL.yAll, FL.yAny, FL.yDivmod, FL.yList, FL.yTuple, FL.yMulS, FL.ySl, FL.fAppend, FL.fPop, FL.fPopAt, FL.fInsert, FL.fExtend, FL.fReverse, FL.fCount, FL.fIndex, if_pos, if_neg, Bool.not_true, Bool.not_false, Bool.xor_false, Bool.false_xor, Bool.xor_true, Bool.true_xor, if_true, if_false, Bool.false_eq_true, and_true, true_and, and_self, Option.isSome_some, Option.isSome_none, reduceIte, lc, boolsOf_map, al]
      cases hall : ds.all isIntg with
      | false =>
        have : hasM n (.tuple ds) = false := by simp only [hasM]; rw [hall]; simp
        simp only [FL.runD, FL.startZ, FL.outsZ, FL.finZ, FL.endZ, List.replicate, List.cons_append, List.nil_append, List.append_nil, FL.zSeq, FL.zIf, FL.zRet, FL.zRetN, FL.zNext, FL.zDrop, FL.zSet, FL.zAsg, FL.zPar, FL.zRaise, FL.zSt, FL.zFor, FL.zBreak, FL.zCont, FL.asgZ, FL.xVar, FL.xC, FL.xOp, FL.xUn, FL.xB, FL.xAnd, FL.xOr, FL.xNot, FL.xAndE, FL.xOrE, FL.xNotE, FL.xIf, FL.xChain, FL.xaNil, FL.xaCons, FL.peeksZ, FL.xCB, FL.frzB, FL.frzZ, FL.xfNil, FL.xfCons, FL.xTup, FL.xLst, FL.xoNone, FL.xoSome, FL.xSl, FL.xLc, FL.xYes, FL.xiSeq, FL.xiRg, FL.xiEnum, FL.xiZip, FL.xMt, FL.xCall, FL.xcNil, FL.xcFz, FL.xcBw, FL.xcAn, FL.zForN, FL.xLcN, FL.bkZ, FL.xcOw, FL.xcPerm, FL.resZ, FL.backZ, FL.toPwZ, FL.xIs, FL.xIs2, FL.xExc, FL.Rs.bind, FL.getZ, FL.setZ, FL.nilsZ, FL.zlD, FL.peekZ, FL.boolZ, FL.opZ, FL.conZ, FL.wrZ, DL.stl, DL.RR.vr, DL.Cn.d, DL.noOw, DL.permR, DL.nthR, DL.isInt, DL.isBool, DL.isStr, DL.isList, DL.isTuple, DL.isNoneD, FL.yN, FL.ysNil, FL.ysCons, FL.yT, FL.yI, FL.yIc, FL.ySub, FL.yLt, FL.yLe, FL.yGt, FL.yGe, FL.yMul, FL.yDiv, FL.yMod, FL.yPow, FL.yNeg, FL.yAdd, FL.yIsN, FL.yIsB, FL.yEq, FL.yInn, FL.yIx, FL.yLen, FL.yInt, FL.yAbs, FL.yMax, FL.yMin, FL.ySum, FL.yAll, FL.yAny, FL.yDivmod, FL.yList, FL.yTuple, FL.yMulS, FL.ySl, FL.fAppend, FL.fPop, FL.fPopAt, FL.fInsert, FL.fExtend, FL.fReverse, FL.fCount, FL.fIndex, if_pos, if_neg, Bool.not_true, Bool.not_false, Bool.xor_false, Bool.false_xor, Bool.xor_true, Bool.true_xor, if_true, if_false, Bool.false_eq_true, and_true, true_and, and_self, Option.isSome_some, Option.isSome_none, reduceIte, this]
      | true =>
        obtain ⟨ms, rfl⟩ := ints_all hall
        obtain ⟨m, ms', rfl⟩ : ∃ m ms', ms = m :: ms' := by
          cases ms with
          | nil => exfalso; simp at hl; omega
          | cons m ms' => exact ⟨m, ms', rfl⟩
        have at0 : atI (List.map PyData.int (m :: ms')) 0 = some (.int m) := atI_of (Int.le_refl _) rfl
        simp only [FL.runD, FL.startZ, FL.outsZ, FL.finZ, FL.endZ, List.replicate, List.cons_append, List.nil_append, List.append_nil, FL.zSeq, FL.zIf, FL.zRet, FL.zRetN, FL.zNext, FL.zDrop, FL.zSet, FL.zAsg, FL.zPar, FL.zRaise, FL.zSt, FL.zFor, FL.zBreak, FL.zCont, FL.asgZ, FL.xVar, FL.xC, FL.xOp, FL.xUn, FL.xB, FL.xAnd, FL.xOr, FL.xNot, FL.xAndE, FL.xOrE, FL.xNotE, FL.xIf, FL.xChain, FL.xaNil, FL.xaCons, FL.peeksZ, FL.xCB, FL.frzB, FL.frzZ, FL.xfNil, FL.xfCons, FL.xTup, FL.xLst, FL.xoNone, FL.xoSome, FL.xSl, FL.xLc, FL.xYes, FL.xiSeq, FL.xiRg, FL.xiEnum, FL.xiZip, FL.xMt, FL.xCall, FL.xcNil, FL.xcFz, FL.xcBw, FL.xcAn, FL.zForN, FL.xLcN, FL.bkZ, FL.xcOw, FL.xcPerm, FL.resZ, FL.backZ, FL.toPwZ, FL.xIs, FL.xIs2, FL.xExc, FL.Rs.bind, FL.getZ, FL.setZ, FL.nilsZ, FL.zlD, FL.peekZ, FL.boolZ, FL.opZ, FL.conZ, FL.wrZ, DL.stl, DL.RR.vr, DL.Cn.d, DL.noOw, DL.permR, DL.nthR, DL.isInt, DL.isBool, DL.isStr, DL.isList, DL.isTuple, DL.isNoneD, FL.yN, FL.ysNil, FL.ysCons, FL.yT, FL.yI, FL.yIc, FL.ySub, FL.yLt, FL.yLe, FL.yGt, FL.yGe, FL.yMul, FL.yDiv, FL.yMod, FL.yPow, FL.yNeg, FL.yAdd, FL.yIsN, FL.yIsB, FL.yEq, FL.yInn, FL.yIx, FL.yLen, FL.yInt, FL.yAbs, FL.yMax, FL.yMin, FL.ySum, FL.yAll, FL.yAny, FL.yDivmod, FL.yList, FL.yTuple, FL.yMulS, FL.ySl, FL.fAppend, FL.fPop, FL.fPopAt, FL.fInsert, FL.fExtend, FL.fReverse, FL.fCount, FL.fIndex, if_pos, if_neg, Bool.not_true, Bool.not_false, Bool.xor_false, Bool.false_xor, Bool.xor_true, Bool.true_xor, if_true, if_false, Bool.false_eq_true, and_true, true_and, and_self, Option.isSome_some, Option.isSome_none, reduceIte, at0, sh_int, and_self, eqv_int]
        have : hasM n (.tuple (List.map PyData.int (m :: ms'))) = decide (m = 0) := by simp only [hasM]; rw [hall, decide_eq_true hl]; simp
        rw [this]
    · have : hasM n (.tuple ds) = false := by simp only [hasM]; rw [decide_eq_false hl]; rfl
      simp only [decide_eq_false hl, FL.runD, FL.startZ, FL.outsZ, FL.finZ, FL.endZ, List.replicate, List.cons_append, List.nil_append, List.append_nil, FL.zSeq, FL.zIf, FL.zRet, FL.zRetN, FL.zNext, FL.zDrop, FL.zSet, FL.zAsg, FL.zPar, FL.zRaise, FL.zSt, FL.zFor, FL.zBreak, FL.zCont, FL.asgZ, FL.xVar, FL.xC, FL.xOp, FL.xUn, FL.xB, FL.xAnd, FL.xOr, FL.xNot, FL.xAndE, FL.xOrE, FL.xNotE, FL.xIf, FL.xChain, FL.xaNil, FL.xaCons, FL.peeksZ, FL.xCB, FL.frzB, FL.frzZ, FL.xfNil, FL.xfCons, FL.xTup, FL.xLst, FL.xoNone, FL.xoSome, FL.xSl, FL.xLc, FL.xYes, FL.xiSeq, FL.xiRg, FL.xiEnum, FL.xiZip, FL.xMt, FL.xCall, FL.xcNil, FL.xcFz, FL.xcBw, FL.xcAn, FL.zForN, FL.xLcN, FL.bkZ, FL.xcOw, FL.xcPerm, FL.resZ, FL.backZ, FL.toPwZ, FL.xIs, FL.xIs2, FL.xExc, FL.Rs.bind, FL.getZ, FL.setZ, FL.nilsZ, FL.zlD, FL.peekZ, FL.boolZ, FL.opZ, FL.conZ, FL.wrZ, DL.stl, DL.RR.vr, DL.Cn.d, DL.noOw, DL.permR, DL.nthR, DL.isInt, DL.isBool, DL.isStr, DL.isList, DL.isTuple, DL.isNoneD, FL.yN, FL.ysNil, FL.ysCons, FL.yT, FL.yI, FL.yIc, FL.ySub, FL.yLt, FL.yLe, FL.yGt, FL.yGe, FL.yMul, FL.yDiv, FL.yMod, FL.yPow, FL.yNeg, FL.yAdd, FL.yIsN, FL.yIsB, FL.yEq, FL.yInn, FL.yIx, FL.yLen, FL.yInt, FL.yAbs, FL.yMax, FL.yMin, FL.ySum, FL.yAll, FL.yAny, FL.yDivmod, FL.yList, FL.yTuple, FL.yMulS, FL.ySl, FL.fAppend, FL.fPop, FL.fPopAt, FL.fInsert, FL.fExtend, FL.fReverse, FL.fCount, FL.fIndex, if_pos, if_neg, Bool.not_true, Bool.not_false, Bool.xor_false, Bool.false_xor, Bool.xor_true, Bool.true_xor, if_true, if_false, Bool.false_eq_true, and_true, true_and, and_self, Option.isSome_some, Option.isSome_none, reduceIte, this]
  | _ => simp only [FL.runD, FL.startZ, FL.outsZ, FL.finZ, FL.endZ, List.replicate, List.cons_append, List.nil_append, List.append_nil, FL.zSeq, FL.zIf, FL.zRet, FL.zRetN, FL.zNext, FL.zDrop, FL.zSet, FL.zAsg, FL.zPar, FL.zRaise, FL.zSt, FL.zFor, FL.zBreak, FL.zCont, FL.asgZ, FL.xVar, FL.xC, FL.xOp, FL.xUn, FL.xB, FL.xAnd, FL.xOr, FL.xNot, FL.xAndE, FL.xOrE, FL.xNotE, FL.xIf, FL.xChain, FL.xaNil, FL.xaCons, FL.peeksZ, FL.xCB, FL.frzB, FL.frzZ, FL.xfNil, FL.xfCons, FL.xTup, FL.xLst, FL.xoNone, FL.xoSome, FL.xSl, FL.xLc, FL.xYes, FL.xiSeq, FL.xiRg, FL.xiEnum, FL.xiZip, FL.xMt, FL.xCall, FL.xcNil, FL.xcFz, FL.xcBw, FL.xcAn, FL.zForN, FL.xLcN, FL.bkZ, FL.xcOw, FL.xcPerm, FL.resZ, FL.backZ, FL.toPwZ, FL.xIs, FL.xIs2, FL.xExc, FL.Rs.bind, FL.getZ, FL.setZ, FL.nilsZ, FL.zlD, FL.peekZ, FL.boolZ, FL.opZ, FL.conZ, FL.wrZ, DL.stl, DL.RR.vr, DL.Cn.d, DL.noOw, DL.permR, DL.nthR, DL.isInt, DL.isBool, DL.isStr, DL.isList, DL.isTuple, DL.isNoneD, FL.yN, FL.ysNil, FL.ysCons, FL.yT, FL.yI, FL.yIc, FL.ySub, FL.yLt, FL.yLe, FL.yGt, FL.yGe, FL.yMul, FL.yDiv, FL.yMod, FL.yPow, FL.yNeg, FL.yAdd, FL.yIsN, FL.yIsB, FL.yEq, FL.yInn, FL.yIx, FL.yLen, FL.yInt, FL.yAbs, FL.yMax, FL.yMin, FL.ySum, FL.yAll, FL.yAny, FL.yDivmod, FL.yList, FL.yTuple, FL.yMulS, FL.ySl, FL.fAppend, FL.fPop, FL.fPopAt, FL.fInsert, FL.fExtend, FL.fReverse, FL.fCount, FL.fIndex, if_pos, if_neg, Bool.not_true, Bool.not_false, Bool.xor_false, Bool.false_xor, Bool.xor_true, Bool.true_xor, if_true, if_false, Bool.false_eq_true, and_true, true_and, and_self, Option.isSome_some, Option.isSome_none, reduceIte]; rfl
theorem e_has_ms {n : Int} {bs : List Bd} {ms : List Int} (hn : 1 ≤ n) (hl : (ms.length : Int) + 1 = n) : F_has_moments [.fz (sysD n bs), .fz (msD (0 :: ms))] = .ok (.fz (.bool true)) [.fz (sysD n bs), .fz (msD (0 :: ms))] := by
  rw [e_has_moments hn, (hasM_iff hn).mpr ⟨ms, rfl, hl⟩]
theorem e_is_world_of {n : Int} {bs : List Bd} {ms : List Int} (hs : okS n bs) (hl : (ms.length : Int) + 1 = n) : F_is_world_of [.fz (sysD n bs), .fz (msD (0 :: ms))] = .ok (.fz (.bool (bs.all (keepB (0 :: ms))))) [.fz (sysD n bs), .fz (msD (0 :: ms))] := by
  have a1 : atI [PyData.int n, bsD bs] 1 = some (bsD bs) := rfl
  have lc : lcF (yN 2) xYes x_is_world_of_c1 [2] (bs.map bD) [.fz (sysD n bs), .fz (msD (0 :: ms)), .nil] = .ok (bs.map fun b => .bool (keepB (0 :: ms) b)) [.fz (sysD n bs), .fz (msD (0 :: ms)), .nil] :=
    lcF_map bD (fun b => .bool (keepB (0 :: ms) b)) bs fun b hb => ⟨_, rfl, by
      unfold x_is_world_of_c1
      simp only [FL.runD, FL.startZ, FL.outsZ, FL.finZ, FL.endZ, List.replicate, List.cons_append, List.nil_append, List.append_nil, FL.zSeq, FL.zIf, FL.zRet, FL.zRetN, FL.zNext, FL.zDrop, FL.zSet, FL.zAsg, FL.zPar, FL.zRaise, FL.zSt, FL.zFor, FL.zBreak, FL.zCont, FL.asgZ, FL.xVar, FL.xC, FL.xOp, FL.xUn, FL.xB, FL.xAnd, FL.xOr, FL.xNot, FL.xAndE, FL.xOrE, FL.xNotE, FL.xIf, FL.xChain, FL.xaNil, FL.xaCons, FL.peeksZ, FL.xCB, FL.frzB, FL.frzZ, FL.xfNil, FL.xfCons, FL.xTup, FL.xLst, FL.xoNone, FL.xoSome, FL.xSl, FL.xLc, FL.xYes, FL.xiSeq, FL.xiRg, FL.xiEnum, FL.xiZip, FL.xMt, FL.xCall, FL.xcNil, FL.xcFz, FL.xcBw, FL.xcAn, FL.zForN, FL.xLcN, FL.bkZ, FL.xcOw, FL.xcPerm, FL.resZ, FL.backZ, FL.toPwZ, FL.xIs, FL.xIs2, FL.xExc, FL.Rs.bind, FL.getZ, FL.setZ, FL.nilsZ, FL.zlD, FL.peekZ, FL.boolZ, FL.opZ, FL.conZ, FL.wrZ, DL.stl, DL.RR.vr, DL.Cn.d, DL.noOw, DL.permR, DL.nthR, DL.isInt, DL.isBool, DL.isStr, DL.isList, DL.isTuple, DL.isNoneD, FL.yN, FL.ysNil, FL.ysCons, FL.yT, FL.yI, FL.yIc, FL.ySub, FL.yLt, FL.yLe, FL.yGt, FL.yGe, FL.yMul, FL.yDiv, FL.yMod, FL.yPow, FL.yNeg, FL.yAdd, FL.yIsN, FL.yIsB, FL.yEq, FL.yInn, FL.yIx, FL.yLen, FL.yInt, FL.yAbs, FL.yMax, FL.yMin, FL.ySum, FL.yAll, FL.yAny, FL.yDivmod, FL.yList, FL.yTuple, FL.yMulS, FL.ySl, FL.fAppend, FL.fPop, FL.fPopAt, FL.fInsert, FL.fExtend, FL.fReverse, FL.fCount, FL.fIndex, if_pos, if_neg, Bool.not_true, Bool.not_false, Bool.xor_false, Bool.false_xor, Bool.xor_true, Bool.true_xor, if_true, if_false, Bool.false_eq_true, and_true, true_and, and_self, Option.isSome_some, Option.isSome_none, reduceIte, e_keeps_bound (hs.2.2.2 b hb) (show ((0 :: ms).length : Int) = n by rw [List.length_cons]; omega)], rfl⟩
  have al : ((bs.map (keepB (0 :: ms))).all id) = bs.all (keepB (0 :: ms)) := by rw [List.all_map]; rfl
  unfold F_is_world_of x_is_world_of
  simp only [FL.runD, FL.startZ, FL.outsZ, FL.finZ, FL.endZ, List.replicate, List.cons_append, List.nil_append, List.append_nil, FL.zSeq, FL.zIf, FL.zRet, FL.zRetN, FL.zNext, FL.zDrop, FL.zSet, FL.zAsg, FL.zPar, FL.zRaise, FL.zSt, FL.zFor, FL.zBreak, FL.zCont, FL.asgZ, FL.xVar, FL.xC, FL.xOp, FL.xUn, FL.xB, FL.xAnd, FL.xOr, FL.xNot, FL.xAndE, FL.xOrE, FL.xNotE, FL.xIf, FL.xChain, FL.xaNil, FL.xaCons, FL.peeksZ, FL.xCB, FL.frzB, FL.frzZ, FL.xfNil, FL.xfCons, FL.xTup, FL.xLst, FL.xoNone, FL.xoSome, FL.xSl, FL.xLc, FL.xYes, FL.xiSeq, FL.xiRg, FL.xiEnum, FL.xiZip, FL.xMt, FL.xCall, FL.xcNil, FL.xcFz, FL.xcBw, FL.xcAn, FL.zForN, FL.xLcN, FL.bkZ, FL.xcOw, FL.xcPerm, FL.resZ, FL.backZ, FL.toPwZ, FL.xIs, FL.xIs2, FL.xExc, FL.Rs.bind, FL.getZ, FL.setZ, FL.nilsZ, FL.zlD, FL.peekZ, FL.boolZ, FL.opZ, FL.conZ, FL.wrZ, DL.stl, DL.RR.vr, DL.Cn.d, DL.noOw, DL.permR, DL.nthR, DL.isInt, DL.isBool, DL.isStr, DL.isList, DL.isTuple, DL.isNoneD, FL.yN, FL.ysNil, FL.ysCons, FL.yT, FL.yI, FL.yIc, FL.ySub, FL.yLt, FL.yLe, FL.yGt, FL.yGe, FL.yMul, FL.yDiv, FL.yMod, FL.yPow, FL.yNeg, FL.yAdd, FL.yIsN, FL.yIsB, FL.yEq, FL.yInn, FL.yIx, FL.yLen, FL.yInt, FL.yAbs, FL.yMax, FL.yMin, FL.ySum, FL.yAll, FL.yAny, FL.yDivmod, FL.yList, FL.yTuple, FL.yMulS, FL.ySl, FL.fAppend, FL.fPop, FL.fPopAt, FL.fInsert, FL.fExtend, FL.fReverse, FL.fCount, FL.fIndex, if_pos, if_neg, Bool.not_true, Bool.not_false, Bool.xor_false, Bool.false_xor, Bool.xor_true, Bool.true_xor, if_true, if_false, Bool.false_eq_true, and_true, true_and, and_self, Option.isSome_some, Option.isSome_none, reduceIte, a1, e_has_ms hs.1 hl, lc, boolsOf_map, al]
end FP
set_option Elab.async false
set_option linter.all false
set_option maxRecDepth 100000
set_option maxHeartbeats 4000000
namespace FP
open PySem PySem.Spec PyProof.Rows L2 DL FL
/-! the urn -/
def okU (N : Int) (u : Cn) : Prop := ∃ a b c : Int, u = .l [.int a, .int b, .int c] ∧ 0 ≤ b ∧ b < 10 ^ 40 ∧ 0 ≤ c ∧ c + N ≤ 10 ^ 60
theorem okU_le {N M : Int} {u : Cn} (h : okU N u) (l : M ≤ N) : okU M u := by
  obtain ⟨a, b, c, e, h1, h2, h3, h4⟩ := h
  exact ⟨a, b, c, e, h1, h2, h3, by omega⟩
theorem wide_of {i : Int} (h1 : -(10 ^ 100) < i) (h2 : i < 10 ^ 100) : wide i := by
  constructor <;> omega
theorem at2 {p q : D} {v : Int} (h : 0 ≤ v ∧ v < 2) : ∃ w, atI [p, q] v = some w ∧ (w = p ∨ w = q) := by
  rcases (by omega : v = 0 ∨ v = 1) with rfl | rfl
  · exact ⟨p, rfl, .inl rfl⟩
  · exact ⟨q, rfl, .inr rfl⟩
theorem at3 {p q r : D} {v : Int} (h : 0 ≤ v ∧ v < 3) : ∃ w, atI [p, q, r] v = some w ∧ (w = p ∨ w = q ∨ w = r) := by
  rcases (by omega : v = 0 ∨ v = 1 ∨ v = 2) with rfl | rfl | rfl
  · exact ⟨p, rfl, .inl rfl⟩
  · exact ⟨q, rfl, .inr (.inl rfl)⟩
  · exact ⟨r, rfl, .inr (.inr rfl)⟩
theorem at4 {p q r s : D} {v : Int} (h : 0 ≤ v ∧ v < 4) : ∃ w, atI [p, q, r, s] v = some w ∧ (w = p ∨ w = q ∨ w = r ∨ w = s) := by
  rcases (by omega : v = 0 ∨ v = 1 ∨ v = 2 ∨ v = 3) with rfl | rfl | rfl | rfl
  · exact ⟨p, rfl, .inl rfl⟩
  · exact ⟨q, rfl, .inr (.inl rfl)⟩
  · exact ⟨r, rfl, .inr (.inr (.inl rfl))⟩
  · exact ⟨s, rfl, .inr (.inr (.inr rfl))⟩
theorem at2i {p q : Int} {v : Int} (h : 0 ≤ v ∧ v < 2) : ∃ w : Int, atI [PyData.int p, .int q] v = some (.int w) ∧ (w = p ∨ w = q) := by
  obtain ⟨w, e, rfl | rfl⟩ := at2 (p := .int p) (q := .int q) h
  · exact ⟨p, e, .inl rfl⟩
  · exact ⟨q, e, .inr rfl⟩
theorem at3i {p q r : Int} {v : Int} (h : 0 ≤ v ∧ v < 3) : ∃ w : Int, atI [PyData.int p, .int q, .int r] v = some (.int w) ∧ (w = p ∨ w = q ∨ w = r) := by
  obtain ⟨w, e, rfl | rfl | rfl⟩ := at3 (p := .int p) (q := .int q) (r := .int r) h
  · exact ⟨p, e, .inl rfl⟩
  · exact ⟨q, e, .inr (.inl rfl)⟩
  · exact ⟨r, e, .inr (.inr rfl)⟩
theorem at4i {p q r s : Int} {v : Int} (h : 0 ≤ v ∧ v < 4) : ∃ w : Int, atI [PyData.int p, .int q, .int r, .int s] v = some (.int w) ∧ (w = p ∨ w = q ∨ w = r ∨ w = s) := by
  obtain ⟨w, e, rfl | rfl | rfl | rfl⟩ := at4 (p := .int p) (q := .int q) (r := .int r) (s := .int s) h
  · exact ⟨p, e, .inl rfl⟩
  · exact ⟨q, e, .inr (.inl rfl)⟩
  · exact ⟨r, e, .inr (.inr (.inl rfl))⟩
  · exact ⟨s, e, .inr (.inr (.inr rfl))⟩
theorem w10 : wide 10 := by constructor <;> decide
theorem e_urn {ns : List Int} {t : Int} (h1 : 0 ≤ t) (h2 : t < 100) : ∃ u, F__law_urn [.sc ns, .fz (.int t)] = .ok (.ow u) [.sc ns, .fz (.int t)] ∧ okU (10 ^ 50) u := by
  have p18 : wide 10 ∧ (0 : Int) ≤ 18 ∧ (18 : Int) ≤ 1000 := ⟨w10, by decide, by decide⟩
  have p26 : wide 10 ∧ (0 : Int) ≤ 26 ∧ (26 : Int) ≤ 1000 := ⟨w10, by decide, by decide⟩
  have e26 : (10 : Int) ^ Int.toNat 26 + 67 = 10 ^ 26 + 67 := rfl
  have w53 : wide 53 ∧ wide t := ⟨wide_of (by decide) (by decide), wide_of (by omega) (by omega)⟩
  have w2 : wide 2 ∧ wide t := ⟨wide_of (by decide) (by decide), wide_of (by omega) (by omega)⟩
  have hp : (0 : Int) < 10 ^ 26 + 67 := by decide
  have fin : ∀ x : Int, ∃ y : Int, x % (10 ^ 26 + 67) = y ∧ 0 ≤ y ∧ y < 10 ^ 26 + 67 := fun x => ⟨_, rfl, modpos x hp⟩
  unfold F__law_urn x__law_urn
  by_cases h : t < (ns.length : Int)
  · obtain ⟨x, hx, _⟩ := atI_ex (xs := ns) h1 h
    obtain ⟨y, ey, hy⟩ := fin x
    have w5 : wide y ∧ wide 5 := ⟨wide_of (by omega) (by omega), wide_of (by decide) (by decide)⟩
    simp only [FL.runD, FL.startZ, FL.outsZ, FL.finZ, FL.endZ, List.replicate, List.cons_append, List.nil_append, List.append_nil, FL.zSeq, FL.zIf, FL.zRet, FL.zRetN, FL.zNext, FL.zDrop, FL.zSet, FL.zAsg, FL.zPar, FL.zRaise, FL.zSt, FL.zFor, FL.zBreak, FL.zCont, FL.asgZ, FL.xVar, FL.xC, FL.xOp, FL.xUn, FL.xB, FL.xAnd, FL.xOr, FL.xNot, FL.xAndE, FL.xOrE, FL.xNotE, FL.xIf, FL.xChain, FL.xaNil, FL.xaCons, FL.peeksZ, FL.xCB, FL.frzB, FL.frzZ, FL.xfNil, FL.xfCons, FL.xTup, FL.xLst, FL.xoNone, FL.xoSome, FL.xSl, FL.xLc, FL.xYes, FL.xiSeq, FL.xiRg, FL.xiEnum, FL.xiZip, FL.xMt, FL.xCall, FL.xcNil, FL.xcFz, FL.xcBw, FL.xcAn, FL.zForN, FL.xLcN, FL.bkZ, FL.xcOw, FL.xcPerm, FL.resZ, FL.backZ, FL.toPwZ, FL.xIs, FL.xIs2, FL.xExc, FL.Rs.bind, FL.getZ, FL.setZ, FL.nilsZ, FL.zlD, FL.peekZ, FL.boolZ, FL.opZ, FL.conZ, FL.wrZ, DL.stl, DL.RR.vr, DL.Cn.d, DL.noOw, DL.permR, DL.nthR, DL.isInt, DL.isBool, DL.isStr, DL.isList, DL.isTuple, DL.isNoneD, FL.yN, FL.ysNil, FL.ysCons, FL.yT, FL.yI, FL.yIc, FL.ySub, FL.yLt, FL.yLe, FL.yGt, FL.yGe, FL.yMul, FL.yDiv, FL.yMod, FL.yPow, FL.yNeg, FL.yAdd, FL.yIsN, FL.yIsB, FL.yEq, FL.yInn, FL.yIx, FL.yLen, FL.yInt, FL.yAbs, FL.yMax, FL.yMin, FL.ySum, FL.yAll, FL.yAny, FL.yDivmod, FL.yList, FL.yTuple, FL.yMulS, FL.ySl, FL.fAppend, FL.fPop, FL.fPopAt, FL.fInsert, FL.fExtend, FL.fReverse, FL.fCount, FL.fIndex, if_pos, if_neg, Bool.not_true, Bool.not_false, Bool.xor_false, Bool.false_xor, Bool.xor_true, Bool.true_xor, if_true, if_false, Bool.false_eq_true, and_true, true_and, and_self, Option.isSome_some, Option.isSome_none, reduceIte, decide_eq_true h, hx, p18, p26, e26, hp, ey, w5, w2]
    exact ⟨_, rfl, _, _, _, rfl, by omega, by omega, by decide, by decide⟩
  · obtain ⟨y, ey, hy⟩ := fin (53 * t + 29)
    have w5 : wide y ∧ wide 5 := ⟨wide_of (by omega) (by omega), wide_of (by decide) (by decide)⟩
    simp only [FL.runD, FL.startZ, FL.outsZ, FL.finZ, FL.endZ, List.replicate, List.cons_append, List.nil_append, List.append_nil, FL.zSeq, FL.zIf, FL.zRet, FL.zRetN, FL.zNext, FL.zDrop, FL.zSet, FL.zAsg, FL.zPar, FL.zRaise, FL.zSt, FL.zFor, FL.zBreak, FL.zCont, FL.asgZ, FL.xVar, FL.xC, FL.xOp, FL.xUn, FL.xB, FL.xAnd, FL.xOr, FL.xNot, FL.xAndE, FL.xOrE, FL.xNotE, FL.xIf, FL.xChain, FL.xaNil, FL.xaCons, FL.peeksZ, FL.xCB, FL.frzB, FL.frzZ, FL.xfNil, FL.xfCons, FL.xTup, FL.xLst, FL.xoNone, FL.xoSome, FL.xSl, FL.xLc, FL.xYes, FL.xiSeq, FL.xiRg, FL.xiEnum, FL.xiZip, FL.xMt, FL.xCall, FL.xcNil, FL.xcFz, FL.xcBw, FL.xcAn, FL.zForN, FL.xLcN, FL.bkZ, FL.xcOw, FL.xcPerm, FL.resZ, FL.backZ, FL.toPwZ, FL.xIs, FL.xIs2, FL.xExc, FL.Rs.bind, FL.getZ, FL.setZ, FL.nilsZ, FL.zlD, FL.peekZ, FL.boolZ, FL.opZ, FL.conZ, FL.wrZ, DL.stl, DL.RR.vr, DL.Cn.d, DL.noOw, DL.permR, DL.nthR, DL.isInt, DL.isBool, DL.isStr, DL.isList, DL.isTuple, DL.isNoneD, FL.yN, FL.ysNil, FL.ysCons, FL.yT, FL.yI, FL.yIc, FL.ySub, FL.yLt, FL.yLe, FL.yGt, FL.yGe, FL.yMul, FL.yDiv, FL.yMod, FL.yPow, FL.yNeg, FL.yAdd, FL.yIsN, FL.yIsB, FL.yEq, FL.yInn, FL.yIx, FL.yLen, FL.yInt, FL.yAbs, FL.yMax, FL.yMin, FL.ySum, FL.yAll, FL.yAny, FL.yDivmod, FL.yList, FL.yTuple, FL.yMulS, FL.ySl, FL.fAppend, FL.fPop, FL.fPopAt, FL.fInsert, FL.fExtend, FL.fReverse, FL.fCount, FL.fIndex, if_pos, if_neg, Bool.not_true, Bool.not_false, Bool.xor_false, Bool.false_xor, Bool.xor_true, Bool.true_xor, if_true, if_false, Bool.false_eq_true, and_true, true_and, and_self, Option.isSome_some, Option.isSome_none, reduceIte, decide_eq_false h, w53, p18, p26, e26, hp, ey, w5, w2]
    exact ⟨_, rfl, _, _, _, rfl, by omega, by omega, by decide, by decide⟩
theorem e_pick {N n : Int} {u : Cn} (h : okU N u) (hN : 1 ≤ N) (hn : 0 < n) (hn2 : n < 10 ^ 60) :
    ∃ u' v, F__law_pick [.ow u, .fz (.int n)] = .ok (.fz (.int v)) [.ow u', .fz (.int n)] ∧ okU (N - 1) u' ∧ 0 ≤ v ∧ v < n := by
  obtain ⟨a, b, c, rfl, h1, h2, h3, h4⟩ := h
  unfold F__law_pick x__law_pick
  have hd : 0 < n ∧ n < 10 ^ 250 := ⟨hn, by omega⟩
  have a0 : atI [PyData.int a, .int b, .int c] 0 = some (.int a) := rfl
  have a2 : atI [PyData.int a, .int b, .int c] 2 = some (.int c) := rfl
  have i0 : ixN ([PyData.int a, .int b, .int c] : List D).length 0 = some 0 := rfl
  have i2 : ixN ([PyData.int a, .int b, .int c] : List D).length 2 = some 2 := rfl
  have s0 : ∀ x : D, ([PyData.int a, .int b, .int c] : List D).set 0 x = [x, .int b, .int c] := fun _ => rfl
  have s2 : ∀ x : D, ([PyData.int a, .int b, .int c] : List D).set 2 x = [.int a, .int b, x] := fun _ => rfl
  have b1 : atI [PyData.int a, .int b, .int (c + 1)] 1 = some (.int b) := rfl
  have b2 : atI [PyData.int a, .int b, .int (c + 1)] 2 = some (.int (c + 1)) := rfl
  by_cases h : 0 < a
  · simp only [FL.runD, FL.startZ, FL.outsZ, FL.finZ, FL.endZ, List.replicate, List.cons_append, List.nil_append, List.append_nil, FL.zSeq, FL.zIf, FL.zRet, FL.zRetN, FL.zNext, FL.zDrop, FL.zSet, FL.zAsg, FL.zPar, FL.zRaise, FL.zSt, FL.zFor, FL.zBreak, FL.zCont, FL.asgZ, FL.xVar, FL.xC, FL.xOp, FL.xUn, FL.xB, FL.xAnd, FL.xOr, FL.xNot, FL.xAndE, FL.xOrE, FL.xNotE, FL.xIf, FL.xChain, FL.xaNil, FL.xaCons, FL.peeksZ, FL.xCB, FL.frzB, FL.frzZ, FL.xfNil, FL.xfCons, FL.xTup, FL.xLst, FL.xoNone, FL.xoSome, FL.xSl, FL.xLc, FL.xYes, FL.xiSeq, FL.xiRg, FL.xiEnum, FL.xiZip, FL.xMt, FL.xCall, FL.xcNil, FL.xcFz, FL.xcBw, FL.xcAn, FL.zForN, FL.xLcN, FL.bkZ, FL.xcOw, FL.xcPerm, FL.resZ, FL.backZ, FL.toPwZ, FL.xIs, FL.xIs2, FL.xExc, FL.Rs.bind, FL.getZ, FL.setZ, FL.nilsZ, FL.zlD, FL.peekZ, FL.boolZ, FL.opZ, FL.conZ, FL.wrZ, DL.stl, DL.RR.vr, DL.Cn.d, DL.noOw, DL.permR, DL.nthR, DL.isInt, DL.isBool, DL.isStr, DL.isList, DL.isTuple, DL.isNoneD, FL.yN, FL.ysNil, FL.ysCons, FL.yT, FL.yI, FL.yIc, FL.ySub, FL.yLt, FL.yLe, FL.yGt, FL.yGe, FL.yMul, FL.yDiv, FL.yMod, FL.yPow, FL.yNeg, FL.yAdd, FL.yIsN, FL.yIsB, FL.yEq, FL.yInn, FL.yIx, FL.yLen, FL.yInt, FL.yAbs, FL.yMax, FL.yMin, FL.ySum, FL.yAll, FL.yAny, FL.yDivmod, FL.yList, FL.yTuple, FL.yMulS, FL.ySl, FL.fAppend, FL.fPop, FL.fPopAt, FL.fInsert, FL.fExtend, FL.fReverse, FL.fCount, FL.fIndex, if_pos, if_neg, Bool.not_true, Bool.not_false, Bool.xor_false, Bool.false_xor, Bool.xor_true, Bool.true_xor, if_true, if_false, Bool.false_eq_true, and_true, true_and, and_self, Option.isSome_some, Option.isSome_none, reduceIte, a0, decide_eq_true h, hn, hd, i0, s0]
    exact ⟨_, _, rfl, ⟨_, _, _, rfl, by omega, by omega, by omega, by omega⟩, modpos a hn⟩
  · have w1 : wide 90001 ∧ wide (c + 1) := ⟨wide_of (by decide) (by decide), wide_of (by omega) (by omega)⟩
    have w2 : wide 50021 ∧ wide (c + 1) := ⟨wide_of (by decide) (by decide), wide_of (by omega) (by omega)⟩
    have w3 : wide (b + 90001 * (c + 1)) ∧ (0 : Int) ≤ 2 ∧ (2 : Int) ≤ 1000 := ⟨wide_of (by omega) (by omega), by decide, by decide⟩
    have p31 : wide 10 ∧ (0 : Int) ≤ 31 ∧ (31 : Int) ≤ 1000 := ⟨w10, by decide, by decide⟩
    have p33 : wide 10 ∧ (0 : Int) ≤ 33 ∧ (33 : Int) ≤ 1000 := ⟨w10, by decide, by decide⟩
    have q31 : (0 : Int) < 10 ^ Int.toNat 31 + 33 := by decide
    have q33 : (0 : Int) < 10 ^ Int.toNat 33 + 61 := by decide
    obtain ⟨y, ey, hy⟩ : ∃ y : Int, (b + 90001 * (c + 1)) ^ Int.toNat 2 % (10 ^ Int.toNat 31 + 33) = y ∧ 0 ≤ y ∧ y < 10 ^ Int.toNat 31 + 33 := ⟨_, rfl, modpos _ q31⟩
    have hy2 : y < 10 ^ 31 + 33 := hy.2
    have w4 : wide (y + 50021 * (c + 1)) ∧ (0 : Int) ≤ 3 ∧ (3 : Int) ≤ 1000 := ⟨wide_of (by omega) (by omega), by decide, by decide⟩
    have d26 : (0 : Int) < 262144 ∧ (262144 : Int) < 10 ^ 250 := by decide
    simp only [FL.runD, FL.startZ, FL.outsZ, FL.finZ, FL.endZ, List.replicate, List.cons_append, List.nil_append, List.append_nil, FL.zSeq, FL.zIf, FL.zRet, FL.zRetN, FL.zNext, FL.zDrop, FL.zSet, FL.zAsg, FL.zPar, FL.zRaise, FL.zSt, FL.zFor, FL.zBreak, FL.zCont, FL.asgZ, FL.xVar, FL.xC, FL.xOp, FL.xUn, FL.xB, FL.xAnd, FL.xOr, FL.xNot, FL.xAndE, FL.xOrE, FL.xNotE, FL.xIf, FL.xChain, FL.xaNil, FL.xaCons, FL.peeksZ, FL.xCB, FL.frzB, FL.frzZ, FL.xfNil, FL.xfCons, FL.xTup, FL.xLst, FL.xoNone, FL.xoSome, FL.xSl, FL.xLc, FL.xYes, FL.xiSeq, FL.xiRg, FL.xiEnum, FL.xiZip, FL.xMt, FL.xCall, FL.xcNil, FL.xcFz, FL.xcBw, FL.xcAn, FL.zForN, FL.xLcN, FL.bkZ, FL.xcOw, FL.xcPerm, FL.resZ, FL.backZ, FL.toPwZ, FL.xIs, FL.xIs2, FL.xExc, FL.Rs.bind, FL.getZ, FL.setZ, FL.nilsZ, FL.zlD, FL.peekZ, FL.boolZ, FL.opZ, FL.conZ, FL.wrZ, DL.stl, DL.RR.vr, DL.Cn.d, DL.noOw, DL.permR, DL.nthR, DL.isInt, DL.isBool, DL.isStr, DL.isList, DL.isTuple, DL.isNoneD, FL.yN, FL.ysNil, FL.ysCons, FL.yT, FL.yI, FL.yIc, FL.ySub, FL.yLt, FL.yLe, FL.yGt, FL.yGe, FL.yMul, FL.yDiv, FL.yMod, FL.yPow, FL.yNeg, FL.yAdd, FL.yIsN, FL.yIsB, FL.yEq, FL.yInn, FL.yIx, FL.yLen, FL.yInt, FL.yAbs, FL.yMax, FL.yMin, FL.ySum, FL.yAll, FL.yAny, FL.yDivmod, FL.yList, FL.yTuple, FL.yMulS, FL.ySl, FL.fAppend, FL.fPop, FL.fPopAt, FL.fInsert, FL.fExtend, FL.fReverse, FL.fCount, FL.fIndex, if_pos, if_neg, Bool.not_true, Bool.not_false, Bool.xor_false, Bool.false_xor, Bool.xor_true, Bool.true_xor, if_true, if_false, Bool.false_eq_true, and_true, true_and, and_self, Option.isSome_some, Option.isSome_none, reduceIte, a0, a2, decide_eq_false h, i2, s2, b1, b2, w1, w2, w3, p31, p33, q31, q33, ey, w4, d26, hn]
    exact ⟨_, _, rfl, ⟨_, _, _, rfl, by omega, by omega, by omega, by omega⟩, modpos _ hn⟩
theorem e_reach {N : Int} {u : Cn} (h : okU N u) (hN : 10 ≤ N) : ∃ u' v, F__law_reach [.ow u] = .ok (.fz (.int v)) [.ow u'] ∧ okU (N - 10) u' ∧ -(10 ^ 40) < v ∧ v < 10 ^ 40 := by
  obtain ⟨u1, v1, e1, h1, k1⟩ := e_pick (n := 12) h (by omega) (by decide) (by decide)
  obtain ⟨u2, v2, e2, h2, k2⟩ := e_pick (n := 12) h1 (by omega) (by decide) (by decide)
  obtain ⟨u3, v3, e3, h3, k3⟩ := e_pick (n := 10 ^ Int.toNat 6) h2 (by omega) (by decide) (by decide)
  obtain ⟨u4, v4, e4, h4, k4⟩ := e_pick (n := 12) h3 (by omega) (by decide) (by decide)
  obtain ⟨u5, v5, e5, h5, k5⟩ := e_pick (n := 3) h4 (by omega) (by decide) (by decide)
  obtain ⟨u6, v6, e6, h6, k6⟩ := e_pick (n := 2) h5 (by omega) (by decide) (by decide)
  have p6 : wide 10 ∧ (0 : Int) ≤ 6 ∧ (6 : Int) ≤ 1000 := ⟨w10, by decide, by decide⟩
  have p23 : wide 10 ∧ (0 : Int) ≤ 23 ∧ (23 : Int) ≤ 1000 := ⟨w10, by decide, by decide⟩
  have l6 : (10 : Int) ^ Int.toNat 6 = 10 ^ 6 := rfl
  have l23 : (10 : Int) ^ Int.toNat 23 = 10 ^ 23 := rfl
  rw [l6] at k3
  have w3 : wide v3 ∧ wide (10 ^ Int.toNat 23) := ⟨wide_of (by omega) (by omega), wide_of (by decide) (by decide)⟩
  obtain ⟨w, ew, hw⟩ := at3i (p := v1) (q := v2) (r := v3 * 10 ^ Int.toNat 23 + v4) k5
  obtain ⟨z, ez, hz⟩ := at2i (p := w) (q := -w) k6
  unfold F__law_reach x__law_reach
  simp only [FL.runD, FL.startZ, FL.outsZ, FL.finZ, FL.endZ, List.replicate, List.cons_append, List.nil_append, List.append_nil, FL.zSeq, FL.zIf, FL.zRet, FL.zRetN, FL.zNext, FL.zDrop, FL.zSet, FL.zAsg, FL.zPar, FL.zRaise, FL.zSt, FL.zFor, FL.zBreak, FL.zCont, FL.asgZ, FL.xVar, FL.xC, FL.xOp, FL.xUn, FL.xB, FL.xAnd, FL.xOr, FL.xNot, FL.xAndE, FL.xOrE, FL.xNotE, FL.xIf, FL.xChain, FL.xaNil, FL.xaCons, FL.peeksZ, FL.xCB, FL.frzB, FL.frzZ, FL.xfNil, FL.xfCons, FL.xTup, FL.xLst, FL.xoNone, FL.xoSome, FL.xSl, FL.xLc, FL.xYes, FL.xiSeq, FL.xiRg, FL.xiEnum, FL.xiZip, FL.xMt, FL.xCall, FL.xcNil, FL.xcFz, FL.xcBw, FL.xcAn, FL.zForN, FL.xLcN, FL.bkZ, FL.xcOw, FL.xcPerm, FL.resZ, FL.backZ, FL.toPwZ, FL.xIs, FL.xIs2, FL.xExc, FL.Rs.bind, FL.getZ, FL.setZ, FL.nilsZ, FL.zlD, FL.peekZ, FL.boolZ, FL.opZ, FL.conZ, FL.wrZ, DL.stl, DL.RR.vr, DL.Cn.d, DL.noOw, DL.permR, DL.nthR, DL.isInt, DL.isBool, DL.isStr, DL.isList, DL.isTuple, DL.isNoneD, FL.yN, FL.ysNil, FL.ysCons, FL.yT, FL.yI, FL.yIc, FL.ySub, FL.yLt, FL.yLe, FL.yGt, FL.yGe, FL.yMul, FL.yDiv, FL.yMod, FL.yPow, FL.yNeg, FL.yAdd, FL.yIsN, FL.yIsB, FL.yEq, FL.yInn, FL.yIx, FL.yLen, FL.yInt, FL.yAbs, FL.yMax, FL.yMin, FL.ySum, FL.yAll, FL.yAny, FL.yDivmod, FL.yList, FL.yTuple, FL.yMulS, FL.ySl, FL.fAppend, FL.fPop, FL.fPopAt, FL.fInsert, FL.fExtend, FL.fReverse, FL.fCount, FL.fIndex, if_pos, if_neg, Bool.not_true, Bool.not_false, Bool.xor_false, Bool.false_xor, Bool.xor_true, Bool.true_xor, if_true, if_false, Bool.false_eq_true, and_true, true_and, and_self, Option.isSome_some, Option.isSome_none, reduceIte, e1, e2, e3, e4, e5, e6, p6, p23, w3, ew, ez]
  rw [l23] at hw
  exact ⟨u6, z, rfl, okU_le h6 (by omega), by omega, by omega⟩
end FP
set_option Elab.async false
set_option linter.all false
set_option maxRecDepth 100000
set_option maxHeartbeats 4000000
namespace FP
open PySem PySem.Spec PyProof.Rows L2 DL FL
/-! a system drawn round a world -/
theorem okB_new {n i v : Int} (hi : 0 ≤ i ∧ i < n) (hv : 0 ≤ v ∧ v < n - 1) : 0 ≤ (i + 1 + v) % n ∧ (i + 1 + v) % n < n ∧ i ≠ (i + 1 + v) % n := by
  have hj := modpos (i + 1 + v) (b := n) (by omega)
  refine ⟨hj.1, hj.2, fun e => ?_⟩
  rcases Int.lt_or_le (i + 1 + v) n with z | z
  · rw [Int.emod_eq_of_lt (by omega) z] at e; omega
  · have : (i + 1 + v) % n = i + 1 + v - n := by
      rw [← Int.sub_emod_right, Int.emod_eq_of_lt (by omega) (by omega)]
    omega
theorem e_frame {N n m : Int} {u : Cn} (h : okU N u) (hN : 20000 ≤ N) (hn : 1 ≤ n) (hn2 : n ≤ 100) (hm : 0 ≤ m) (hm2 : m ≤ 500) :
    ∃ u' bs ms, F__law_frame [.ow u, .fz (.int n), .fz (.int m)] = .ok (.fz (.tuple [sysD n bs, msD (0 :: ms)])) [.ow u', .fz (.int n), .fz (.int m)] ∧ okU (N - 20000) u' ∧ okS n bs ∧ bs.length ≤ m ∧ (ms.length : Int) + 1 = n ∧ bs.all (keepB (0 :: ms)) = true ∧ ∀ x ∈ ms, -(10 ^ 40) < x ∧ x < 10 ^ 40 := by
  have rg : rgZ [SD.d (.int (n - 1))] = some (rgD 0 1 (n - 1).toNat) := by simp only [rgZ]; rw [if_pos (by omega)]
  obtain ⟨ys, ρ', e1, u1, ms, rfl, rfl, hu1, hl1, hms⟩ := lcF_inv (g := yN 9) (tt := xYes) (te := x__law_frame_c2) (vs := [9]) (items := rgD 0 1 (n - 1).toNat) (ρ := [.pw u, .fz (.int n), .fz (.int m), .nil, .nil, .nil, .nil, .nil, .nil, .nil])
    (fun i acc ρ => ∃ u' ms, acc = ms.map .int ∧ ρ = [.pw u', .fz (.int n), .fz (.int m), .nil, .nil, .nil, .nil, .nil, .nil, .nil] ∧ okU (N - 10 * (i : Int)) u' ∧ ms.length = i ∧ ∀ x ∈ ms, -(10 ^ 40 : Int) < x ∧ x < 10 ^ 40) ⟨u, [], rfl, rfl, okU_le h (by omega), rfl, fun x hx => by cases hx⟩ (by
      rintro i d acc ρ hd ⟨u1, ms, rfl, rfl, hu, hl, hms⟩
      have hlt := (List.getElem?_eq_some_iff.mp hd).1
      rw [rgD_len] at hlt
      obtain ⟨u2, v, e, h2, hv⟩ := e_reach hu (by omega)
      refine ⟨_, rfl, .inr ⟨_, .fz (.int v), [.pw u2, .fz (.int n), .fz (.int m), .nil, .nil, .nil, .nil, .nil, .nil, .fz d], .int v, _, rfl, ?_, rfl, u2, ms ++ [v], by rw [List.map_append]; rfl, rfl, okU_le h2 (by omega), by rw [List.length_append, hl]; rfl, fun x hx => ?_⟩⟩
      · unfold x__law_frame_c2
        simp only [FL.runD, FL.startZ, FL.outsZ, FL.finZ, FL.endZ, List.replicate, List.cons_append, List.nil_append, List.append_nil, FL.zSeq, FL.zIf, FL.zRet, FL.zRetN, FL.zNext, FL.zDrop, FL.zSet, FL.zAsg, FL.zPar, FL.zRaise, FL.zSt, FL.zFor, FL.zBreak, FL.zCont, FL.asgZ, FL.xVar, FL.xC, FL.xOp, FL.xUn, FL.xB, FL.xAnd, FL.xOr, FL.xNot, FL.xAndE, FL.xOrE, FL.xNotE, FL.xIf, FL.xChain, FL.xaNil, FL.xaCons, FL.peeksZ, FL.xCB, FL.frzB, FL.frzZ, FL.xfNil, FL.xfCons, FL.xTup, FL.xLst, FL.xoNone, FL.xoSome, FL.xSl, FL.xLc, FL.xYes, FL.xiSeq, FL.xiRg, FL.xiEnum, FL.xiZip, FL.xMt, FL.xCall, FL.xcNil, FL.xcFz, FL.xcBw, FL.xcAn, FL.zForN, FL.xLcN, FL.bkZ, FL.xcOw, FL.xcPerm, FL.resZ, FL.backZ, FL.toPwZ, FL.xIs, FL.xIs2, FL.xExc, FL.Rs.bind, FL.getZ, FL.setZ, FL.nilsZ, FL.zlD, FL.peekZ, FL.boolZ, FL.opZ, FL.conZ, FL.wrZ, DL.stl, DL.RR.vr, DL.Cn.d, DL.noOw, DL.permR, DL.nthR, DL.isInt, DL.isBool, DL.isStr, DL.isList, DL.isTuple, DL.isNoneD, FL.yN, FL.ysNil, FL.ysCons, FL.yT, FL.yI, FL.yIc, FL.ySub, FL.yLt, FL.yLe, FL.yGt, FL.yGe, FL.yMul, FL.yDiv, FL.yMod, FL.yPow, FL.yNeg, FL.yAdd, FL.yIsN, FL.yIsB, FL.yEq, FL.yInn, FL.yIx, FL.yLen, FL.yInt, FL.yAbs, FL.yMax, FL.yMin, FL.ySum, FL.yAll, FL.yAny, FL.yDivmod, FL.yList, FL.yTuple, FL.yMulS, FL.ySl, FL.fAppend, FL.fPop, FL.fPopAt, FL.fInsert, FL.fExtend, FL.fReverse, FL.fCount, FL.fIndex, if_pos, if_neg, Bool.not_true, Bool.not_false, Bool.xor_false, Bool.false_xor, Bool.xor_true, Bool.true_xor, if_true, if_false, Bool.false_eq_true, and_true, true_and, and_self, Option.isSome_some, Option.isSome_none, reduceIte, e]
      · rcases List.mem_append.mp hx with hx | hx
        · exact hms x hx
        · rw [List.mem_singleton.mp hx]; exact hv)
  rw [rgD_len] at hu1 hl1
  have hz := szl
  have sz : [PyData.int 0].length + (List.map PyData.int ms).length ≤ sizeLine := by rw [List.length_map]; simp only [List.length_cons, List.length_nil]; omega
  obtain ⟨u2, cnt, e2, hu2, hc⟩ := e_pick (n := m + 1) hu1 (by omega) (by omega) (by omega)
  have rg2 : rgZ [SD.d (.int cnt)] = some (rgD 0 1 cnt.toNat) := by simp only [rgZ]; rw [if_pos (by omega)]
  obtain ⟨ρ3, e3, u3, bs, s5, s6, s7, s8, rfl, hu3, hl3, hb, hk⟩ := forF_inv (g := yN 5) (body := x__law_frame_b1) (items := rgD 0 1 cnt.toNat) (ρ := [.pw u2, .fz (.int n), .fz (.int m), .fz (msD (0 :: ms)), .ow (.l []), .nil, .nil, .nil, .nil, .nil])
    (fun i ρ => ∃ u' bs s5 s6 s7 s8, ρ = [.pw u', .fz (.int n), .fz (.int m), .fz (msD (0 :: ms)), .ow (.l (bs.map bD)), s5, s6, s7, s8, .nil] ∧ okU (N - 10 * (n - 1) - 1 - 10 * (i : Int)) u' ∧ bs.length ≤ i ∧ (∀ b ∈ bs, okB n b) ∧ bs.all (keepB (0 :: ms)) = true)
    ⟨u2, [], _, _, _, _, rfl, okU_le hu2 (by omega), Nat.le_refl _, (fun b hb => by cases hb), rfl⟩ (by
      rintro i d ρ hd ⟨u3, bs, s5, s6, s7, s8, rfl, hu, hl, hb, hk⟩
      have hlt := (List.getElem?_eq_some_iff.mp hd).1
      rw [rgD_len] at hlt
      refine ⟨_, rfl, ?_⟩
      unfold x__law_frame_b1
      by_cases h1 : 1 < n
      · obtain ⟨u4, i', e4, hu4, k4⟩ := e_pick (n := n) hu (by omega) (by omega) (by omega)
        obtain ⟨u5, v, e5, hu5, k5⟩ := e_pick (n := n - 1) hu4 (by omega) (by omega) (by omega)
        obtain ⟨u6, w1, e6, hu6, k6⟩ := e_pick (n := 4) hu5 (by omega) (by omega) (by omega)
        obtain ⟨u7, w2, e7, hu7, k7⟩ := e_pick (n := 30) hu6 (by omega) (by omega) (by omega)
        obtain ⟨u8, w3, e8, hu8, k8⟩ := e_pick (n := 3) hu7 (by omega) (by omega) (by omega)
        obtain ⟨q, eq, hq⟩ := at3i (p := 0) (q := w1) (r := w2) k8
        obtain ⟨j1, j2, j3⟩ := okB_new k4 k5
        generalize hj : (i' + 1 + v) % n = j at j1 j2 j3
        have a1 := at_ms (ms := 0 :: ms) k4.1 (by rw [List.length_cons]; omega)
        have a2 := at_ms (ms := 0 :: ms) j1 (by rw [List.length_cons]; omega)
        have lt : (List.map bD bs).length < sizeLine := by rw [List.length_map]; omega
        have n0 : 0 < n := by omega
        simp only [FL.runD, FL.startZ, FL.outsZ, FL.finZ, FL.endZ, List.replicate, List.cons_append, List.nil_append, List.append_nil, FL.zSeq, FL.zIf, FL.zRet, FL.zRetN, FL.zNext, FL.zDrop, FL.zSet, FL.zAsg, FL.zPar, FL.zRaise, FL.zSt, FL.zFor, FL.zBreak, FL.zCont, FL.asgZ, FL.xVar, FL.xC, FL.xOp, FL.xUn, FL.xB, FL.xAnd, FL.xOr, FL.xNot, FL.xAndE, FL.xOrE, FL.xNotE, FL.xIf, FL.xChain, FL.xaNil, FL.xaCons, FL.peeksZ, FL.xCB, FL.frzB, FL.frzZ, FL.xfNil, FL.xfCons, FL.xTup, FL.xLst, FL.xoNone, FL.xoSome, FL.xSl, FL.xLc, FL.xYes, FL.xiSeq, FL.xiRg, FL.xiEnum, FL.xiZip, FL.xMt, FL.xCall, FL.xcNil, FL.xcFz, FL.xcBw, FL.xcAn, FL.zForN, FL.xLcN, FL.bkZ, FL.xcOw, FL.xcPerm, FL.resZ, FL.backZ, FL.toPwZ, FL.xIs, FL.xIs2, FL.xExc, FL.Rs.bind, FL.getZ, FL.setZ, FL.nilsZ, FL.zlD, FL.peekZ, FL.boolZ, FL.opZ, FL.conZ, FL.wrZ, DL.stl, DL.RR.vr, DL.Cn.d, DL.noOw, DL.permR, DL.nthR, DL.isInt, DL.isBool, DL.isStr, DL.isList, DL.isTuple, DL.isNoneD, FL.yN, FL.ysNil, FL.ysCons, FL.yT, FL.yI, FL.yIc, FL.ySub, FL.yLt, FL.yLe, FL.yGt, FL.yGe, FL.yMul, FL.yDiv, FL.yMod, FL.yPow, FL.yNeg, FL.yAdd, FL.yIsN, FL.yIsB, FL.yEq, FL.yInn, FL.yIx, FL.yLen, FL.yInt, FL.yAbs, FL.yMax, FL.yMin, FL.ySum, FL.yAll, FL.yAny, FL.yDivmod, FL.yList, FL.yTuple, FL.yMulS, FL.ySl, FL.fAppend, FL.fPop, FL.fPopAt, FL.fInsert, FL.fExtend, FL.fReverse, FL.fCount, FL.fIndex, if_pos, if_neg, Bool.not_true, Bool.not_false, Bool.xor_false, Bool.false_xor, Bool.xor_true, Bool.true_xor, if_true, if_false, Bool.false_eq_true, and_true, true_and, and_self, Option.isSome_some, Option.isSome_none, reduceIte, decide_eq_true h1, e4, e5, e6, e7, e8, eq, hj, a1, a2, lt, n0]
        refine ⟨_, .inl rfl, u8, bs ++ [(i', j, mAt (0 :: ms) i' - mAt (0 :: ms) j + q)], _, _, _, _, by rw [List.map_append]; rfl, okU_le hu8 (by omega), by rw [List.length_append]; simp only [List.length_cons, List.length_nil]; omega, fun b hb' => ?_, ?_⟩
        · rcases List.mem_append.mp hb' with hb' | hb'
          · exact hb b hb'
          · rw [List.mem_singleton.mp hb']; exact ⟨k4.1, k4.2, j1, j2, j3⟩
        · rw [List.all_append, hk, List.all_cons, List.all_nil]
          have : keepB (0 :: ms) (i', j, mAt (0 :: ms) i' - mAt (0 :: ms) j + q) = true := by
            unfold keepB
            exact decide_eq_true (by show mAt (0 :: ms) i' - mAt (0 :: ms) j ≤ mAt (0 :: ms) i' - mAt (0 :: ms) j + q; omega)
          rw [this]; rfl
      · simp only [FL.runD, FL.startZ, FL.outsZ, FL.finZ, FL.endZ, List.replicate, List.cons_append, List.nil_append, List.append_nil, FL.zSeq, FL.zIf, FL.zRet, FL.zRetN, FL.zNext, FL.zDrop, FL.zSet, FL.zAsg, FL.zPar, FL.zRaise, FL.zSt, FL.zFor, FL.zBreak, FL.zCont, FL.asgZ, FL.xVar, FL.xC, FL.xOp, FL.xUn, FL.xB, FL.xAnd, FL.xOr, FL.xNot, FL.xAndE, FL.xOrE, FL.xNotE, FL.xIf, FL.xChain, FL.xaNil, FL.xaCons, FL.peeksZ, FL.xCB, FL.frzB, FL.frzZ, FL.xfNil, FL.xfCons, FL.xTup, FL.xLst, FL.xoNone, FL.xoSome, FL.xSl, FL.xLc, FL.xYes, FL.xiSeq, FL.xiRg, FL.xiEnum, FL.xiZip, FL.xMt, FL.xCall, FL.xcNil, FL.xcFz, FL.xcBw, FL.xcAn, FL.zForN, FL.xLcN, FL.bkZ, FL.xcOw, FL.xcPerm, FL.resZ, FL.backZ, FL.toPwZ, FL.xIs, FL.xIs2, FL.xExc, FL.Rs.bind, FL.getZ, FL.setZ, FL.nilsZ, FL.zlD, FL.peekZ, FL.boolZ, FL.opZ, FL.conZ, FL.wrZ, DL.stl, DL.RR.vr, DL.Cn.d, DL.noOw, DL.permR, DL.nthR, DL.isInt, DL.isBool, DL.isStr, DL.isList, DL.isTuple, DL.isNoneD, FL.yN, FL.ysNil, FL.ysCons, FL.yT, FL.yI, FL.yIc, FL.ySub, FL.yLt, FL.yLe, FL.yGt, FL.yGe, FL.yMul, FL.yDiv, FL.yMod, FL.yPow, FL.yNeg, FL.yAdd, FL.yIsN, FL.yIsB, FL.yEq, FL.yInn, FL.yIx, FL.yLen, FL.yInt, FL.yAbs, FL.yMax, FL.yMin, FL.ySum, FL.yAll, FL.yAny, FL.yDivmod, FL.yList, FL.yTuple, FL.yMulS, FL.ySl, FL.fAppend, FL.fPop, FL.fPopAt, FL.fInsert, FL.fExtend, FL.fReverse, FL.fCount, FL.fIndex, if_pos, if_neg, Bool.not_true, Bool.not_false, Bool.xor_false, Bool.false_xor, Bool.xor_true, Bool.true_xor, if_true, if_false, Bool.false_eq_true, and_true, true_and, and_self, Option.isSome_some, Option.isSome_none, reduceIte, decide_eq_false h1]
        exact ⟨_, .inl rfl, u3, bs, _, _, _, _, rfl, okU_le hu (by omega), by omega, hb, hk⟩)
  rw [rgD_len] at hu3 hl3
  refine ⟨u3, bs, ms, ?_, okU_le hu3 (by omega), ⟨hn, by omega, by omega, hb⟩, by omega, by omega, hk, hms⟩
  have e3 : forF (yN 5) x__law_frame_b1 (rgD 0 1 cnt.toNat) [Zl.pw u2, .fz (.int n), .fz (.int m), .fz (.tuple (PyData.int 0 :: List.map .int ms)), .ow (.l []), .nil, .nil, .nil, .nil, .nil] = _ := e3
  unfold F__law_frame x__law_frame
  simp only [FL.runD, FL.startZ, FL.outsZ, FL.finZ, FL.endZ, List.replicate, List.cons_append, List.nil_append, List.append_nil, FL.zSeq, FL.zIf, FL.zRet, FL.zRetN, FL.zNext, FL.zDrop, FL.zSet, FL.zAsg, FL.zPar, FL.zRaise, FL.zSt, FL.zFor, FL.zBreak, FL.zCont, FL.asgZ, FL.xVar, FL.xC, FL.xOp, FL.xUn, FL.xB, FL.xAnd, FL.xOr, FL.xNot, FL.xAndE, FL.xOrE, FL.xNotE, FL.xIf, FL.xChain, FL.xaNil, FL.xaCons, FL.peeksZ, FL.xCB, FL.frzB, FL.frzZ, FL.xfNil, FL.xfCons, FL.xTup, FL.xLst, FL.xoNone, FL.xoSome, FL.xSl, FL.xLc, FL.xYes, FL.xiSeq, FL.xiRg, FL.xiEnum, FL.xiZip, FL.xMt, FL.xCall, FL.xcNil, FL.xcFz, FL.xcBw, FL.xcAn, FL.zForN, FL.xLcN, FL.bkZ, FL.xcOw, FL.xcPerm, FL.resZ, FL.backZ, FL.toPwZ, FL.xIs, FL.xIs2, FL.xExc, FL.Rs.bind, FL.getZ, FL.setZ, FL.nilsZ, FL.zlD, FL.peekZ, FL.boolZ, FL.opZ, FL.conZ, FL.wrZ, DL.stl, DL.RR.vr, DL.Cn.d, DL.noOw, DL.permR, DL.nthR, DL.isInt, DL.isBool, DL.isStr, DL.isList, DL.isTuple, DL.isNoneD, FL.yN, FL.ysNil, FL.ysCons, FL.yT, FL.yI, FL.yIc, FL.ySub, FL.yLt, FL.yLe, FL.yGt, FL.yGe, FL.yMul, FL.yDiv, FL.yMod, FL.yPow, FL.yNeg, FL.yAdd, FL.yIsN, FL.yIsB, FL.yEq, FL.yInn, FL.yIx, FL.yLen, FL.yInt, FL.yAbs, FL.yMax, FL.yMin, FL.ySum, FL.yAll, FL.yAny, FL.yDivmod, FL.yList, FL.yTuple, FL.yMulS, FL.ySl, FL.fAppend, FL.fPop, FL.fPopAt, FL.fInsert, FL.fExtend, FL.fReverse, FL.fCount, FL.fIndex, if_pos, if_neg, Bool.not_true, Bool.not_false, Bool.xor_false, Bool.false_xor, Bool.xor_true, Bool.true_xor, if_true, if_false, Bool.false_eq_true, and_true, true_and, and_self, Option.isSome_some, Option.isSome_none, reduceIte, rg, e1, sz, e2, rg2, e3]
end FP
set_option Elab.async false
set_option linter.all false
set_option maxRecDepth 100000
set_option maxHeartbeats 4000000
namespace FP
open PySem PySem.Spec PyProof.Rows L2 DL FL
/-! worlds as lists, plain -/
def up (r : Int) (a b : List Int) : List Int := List.zipWith (fun x y => max x (y - r)) a b
def dn (r : Int) (a b : List Int) : List Int := List.zipWith (fun x y => min (max x y) (y + r)) a b
/-- the greatest rise -/
def rise : List Int → List Int → Int
  | x :: a, y :: b => max (y - x) (rise a b)
  | _, _ => 0
theorem rise_nn : ∀ a b : List Int, 0 ≤ rise a b
  | [], _ => Int.le_refl _
  | _ :: _, [] => Int.le_refl _
  | x :: a, y :: b => Int.le_trans (rise_nn a b) (Int.le_max_right _ _)
theorem rise_at : ∀ {a b : List Int} {i : Nat} {x y : Int}, a[i]? = some x → b[i]? = some y → y - x ≤ rise a b
  | [], _, _, _, _, h, _ => by simp at h
  | _ :: _, [], _, _, _, _, h => by simp at h
  | x :: a, y :: b, 0, _, _, h, h' => by simp at h h'; subst h h'; exact Int.le_max_left _ _
  | x :: a, y :: b, i + 1, _, _, h, h' => Int.le_trans (rise_at (i := i) (a := a) (b := b) (by simpa using h) (by simpa using h')) (Int.le_max_right _ _)
theorem rise_ex : ∀ {a b : List Int}, 0 < rise a b → ∃ (i : Nat) (x y : Int), a[i]? = some x ∧ b[i]? = some y ∧ y - x = rise a b
  | [], _, h => by simp [rise] at h
  | _ :: _, [], h => by simp [rise] at h
  | x :: a, y :: b, h => by
    unfold rise at h ⊢
    rcases Int.le_total (y - x) (rise a b) with l | l
    · rw [Int.max_eq_right l] at h ⊢
      obtain ⟨i, x', y', h1, h2, h3⟩ := rise_ex h
      exact ⟨i + 1, x', y', by simpa using h1, by simpa using h2, h3⟩
    · rw [Int.max_eq_left l]
      exact ⟨0, x, y, rfl, rfl, rfl⟩
theorem rise_le {a b : List Int} {m : Int} (h0 : 0 ≤ m) (h : ∀ (i : Nat) (x y : Int), a[i]? = some x → b[i]? = some y → y - x ≤ m) : rise a b ≤ m := by
  rcases Int.lt_or_le 0 (rise a b) with l | l
  · obtain ⟨i, x, y, h1, h2, h3⟩ := rise_ex l
    rw [← h3]; exact h i x y h1 h2
  · omega
theorem rise_tri {a b c : List Int} (h1 : a.length = b.length) (h2 : b.length = c.length) : rise a c ≤ rise a b + rise b c := by
  have n1 := rise_nn a b
  have n2 := rise_nn b c
  refine rise_le (by omega) fun i x z hx hz => ?_
  have hl := (List.getElem?_eq_some_iff.mp hx).1
  have hy : b[i]? = some b[i] := List.getElem?_eq_getElem (by omega)
  have := rise_at hx hy
  have := rise_at hy hz
  omega
theorem maxL_zip : ∀ a b : List Int, maxL (0 :: List.zipWith (fun x y => y - x) a b) = some (rise a b) := by
  have aux : ∀ a b : List Int, maxL (List.zipWith (fun x y => y - x) a b) = none ∨ ∃ m, maxL (List.zipWith (fun x y => y - x) a b) = some m ∧ rise a b = max 0 m := by
    intro a
    induction a with
    | nil => intro b; exact .inl rfl
    | cons x a ih =>
      intro b
      cases b with
      | nil => exact .inl rfl
      | cons y b =>
        refine .inr ?_
        rw [List.zipWith_cons_cons]
        unfold maxL
        rcases ih b with e | ⟨m, e, e2⟩
        · rw [e]
          refine ⟨_, rfl, ?_⟩
          have : rise a b = 0 := by
            cases a with
            | nil => rfl
            | cons x' a' =>
              cases b with
              | nil => rfl
              | cons y' b' => rw [List.zipWith_cons_cons] at e; unfold maxL at e; split at e <;> cases e
          unfold rise
          rw [this, Int.max_comm]
        · rw [e]
          refine ⟨_, rfl, ?_⟩
          unfold rise
          rw [e2]; omega
  intro a b
  unfold maxL
  rcases aux a b with e | ⟨m, e, e2⟩
  · rw [e]
    have : rise a b = 0 := by
      cases a with
      | nil => rfl
      | cons x' a' =>
        cases b with
        | nil => rfl
        | cons y' b' => rw [List.zipWith_cons_cons] at e; unfold maxL at e; split at e <;> cases e
    rw [this]
  · rw [e, e2]
/-! keeping bounds -/
theorem zip_at {f : Int → Int → Int} {a b : List Int} (hl : a.length = b.length) {i : Int} (h0 : 0 ≤ i) (h1 : i < a.length) : mAt (List.zipWith f a b) i = f (mAt a i) (mAt b i) := by
  have l1 : i.toNat < a.length := by omega
  have l2 : i.toNat < b.length := by omega
  unfold mAt
  simp only [List.getD_eq_getElem?_getD]
  rw [List.getElem?_zipWith, List.getElem?_eq_getElem l1, List.getElem?_eq_getElem l2]; rfl
theorem keeps_zip {n : Int} {bs : List Bd} {f : Int → Int → Int} {a b : List Int} (hl : a.length = b.length) (hn : (a.length : Int) = n) (hb : ∀ x ∈ bs, okB n x) (ha : bs.all (keepB a) = true) (hb' : bs.all (keepB b) = true)
    (hf : ∀ x y x' y' m : Int, x - x' ≤ m → y - y' ≤ m → f x y - f x' y' ≤ m) : bs.all (keepB (List.zipWith f a b)) = true := by
  rw [List.all_eq_true] at ha hb' ⊢
  intro x hx
  obtain ⟨h1, h2, h3, h4, _⟩ := hb x hx
  have e1 := of_decide_eq_true (ha x hx)
  have e2 := of_decide_eq_true (hb' x hx)
  refine decide_eq_true ?_
  rw [zip_at hl h1 (by omega), zip_at hl h3 (by omega)]
  exact hf _ _ _ _ _ e1 e2
theorem up_len {r : Int} {a b : List Int} (h : a.length = b.length) : (up r a b).length = a.length := by unfold up; rw [List.length_zipWith, h]; omega
theorem dn_len {r : Int} {a b : List Int} (h : a.length = b.length) : (dn r a b).length = a.length := by unfold dn; rw [List.length_zipWith, h]; omega
theorem up_top : ∀ {a b : List Int} {r : Int}, a.length = b.length → rise a b ≤ r → up r a b = a
  | [], b, _, _, _ => by unfold up; rfl
  | x :: a, [], _, h, _ => by simp at h
  | x :: a, y :: b, r, h, hr => by
    unfold rise at hr
    have ih := up_top (a := a) (b := b) (r := r) (by simpa using h) (Int.le_trans (Int.le_max_right _ _) hr)
    have : y - x ≤ r := Int.le_trans (Int.le_max_left _ _) hr
    show max x (y - r) :: up r a b = _
    rw [ih, Int.max_eq_left (by omega)]
theorem up_bot {a b : List Int} : up 0 a b = List.zipWith max a b := by
  unfold up
  congr 1
  funext x y
  rw [Int.sub_zero]
theorem dn_top : ∀ {a b : List Int} {r : Int}, a.length = b.length → rise b a ≤ r → 0 ≤ r → dn r a b = List.zipWith max a b
  | [], b, _, _, _, _ => by unfold dn; rfl
  | x :: a, [], _, h, _, _ => by simp at h
  | x :: a, y :: b, r, h, hr, h0 => by
    unfold rise at hr
    have ih := dn_top (a := a) (b := b) (r := r) (by simpa using h) (Int.le_trans (Int.le_max_right _ _) hr) h0
    have : x - y ≤ r := Int.le_trans (Int.le_max_left _ _) hr
    show min (max x y) (y + r) :: dn r a b = max x y :: _
    rw [ih, Int.min_eq_left (by omega)]
theorem dn_bot : ∀ {a b : List Int}, a.length = b.length → dn 0 a b = b
  | [], [], _ => rfl
  | [], _ :: _, h => by simp at h
  | x :: a, [], h => by simp at h
  | x :: a, y :: b, h => by
    have ih := dn_bot (a := a) (b := b) (by simpa using h)
    show min (max x y) (y + 0) :: dn 0 a b = _
    rw [ih]; congr 1; omega
/-- one step up -/
theorem up_step : ∀ {a b : List Int} {r : Int}, List.zipWith (fun x y => x + (if y - x = r + 1 then 1 else 0)) (up (r + 1) a b) b = up r a b
  | [], _, _ => rfl
  | _ :: _, [], _ => rfl
  | x :: a, y :: b, r => by
    have ih := up_step (a := a) (b := b) (r := r)
    show (max x (y - (r + 1)) + (if y - max x (y - (r + 1)) = r + 1 then 1 else 0)) :: List.zipWith _ (up (r + 1) a b) b = max x (y - r) :: up r a b
    rw [ih]
    congr 1
    split <;> omega
theorem dn_step : ∀ {a b : List Int} {r : Int}, List.zipWith (fun x y => x - (if x - y = r + 1 then 1 else 0)) (dn (r + 1) a b) b = dn r a b
  | [], _, _ => rfl
  | _ :: _, [], _ => rfl
  | x :: a, y :: b, r => by
    have ih := dn_step (a := a) (b := b) (r := r)
    show (min (max x y) (y + (r + 1)) - (if min (max x y) (y + (r + 1)) - y = r + 1 then 1 else 0)) :: List.zipWith _ (dn (r + 1) a b) b = min (max x y) (y + r) :: dn r a b
    rw [ih]
    congr 1
    split <;> omega
end FP
set_option Elab.async false
set_option linter.all false
set_option maxRecDepth 100000
set_option maxHeartbeats 4000000
namespace FP
open PySem PySem.Spec PyProof.Rows L2 DL FL
/-! worlds.py -/
theorem e_is_world {n : Int} {bs : List Bd} {ms : List Int} (hs : okS n bs) (hl : (ms.length : Int) + 1 = n) : F_is_world [.fz (sysD n bs), .fz (msD (0 :: ms))] = .ok (.fz (.bool (bs.all (keepB (0 :: ms))))) [.fz (sysD n bs), .fz (msD (0 :: ms))] := by
  unfold F_is_world x_is_world
  simp only [FL.runD, FL.startZ, FL.outsZ, FL.finZ, FL.endZ, List.replicate, List.cons_append, List.nil_append, List.append_nil, FL.zSeq, FL.zIf, FL.zRet, FL.zRetN, FL.zNext, FL.zDrop, FL.zSet, FL.zAsg, FL.zPar, FL.zRaise, FL.zSt, FL.zFor, FL.zBreak, FL.zCont, FL.asgZ, FL.xVar, FL.xC, FL.xOp, FL.xUn, FL.xB, FL.xAnd, FL.xOr, FL.xNot, FL.xAndE, FL.xOrE, FL.xNotE, FL.xIf, FL.xChain, FL.xaNil, FL.xaCons, FL.peeksZ, FL.xCB, FL.frzB, FL.frzZ, FL.xfNil, FL.xfCons, FL.xTup, FL.xLst, FL.xoNone, FL.xoSome, FL.xSl, FL.xLc, FL.xYes, FL.xiSeq, FL.xiRg, FL.xiEnum, FL.xiZip, FL.xMt, FL.xCall, FL.xcNil, FL.xcFz, FL.xcBw, FL.xcAn, FL.zForN, FL.xLcN, FL.bkZ, FL.xcOw, FL.xcPerm, FL.resZ, FL.backZ, FL.toPwZ, FL.xIs, FL.xIs2, FL.xExc, FL.Rs.bind, FL.getZ, FL.setZ, FL.nilsZ, FL.zlD, FL.peekZ, FL.boolZ, FL.opZ, FL.conZ, FL.wrZ, DL.stl, DL.RR.vr, DL.Cn.d, DL.noOw, DL.permR, DL.nthR, DL.isInt, DL.isBool, DL.isStr, DL.isList, DL.isTuple, DL.isNoneD, FL.yN, FL.ysNil, FL.ysCons, FL.yT, FL.yI, FL.yIc, FL.ySub, FL.yLt, FL.yLe, FL.yGt, FL.yGe, FL.yMul, FL.yDiv, FL.yMod, FL.yPow, FL.yNeg, FL.yAdd, FL.yIsN, FL.yIsB, FL.yEq, FL.yInn, FL.yIx, FL.yLen, FL.yInt, FL.yAbs, FL.yMax, FL.yMin, FL.ySum, FL.yAll, FL.yAny, FL.yDivmod, FL.yList, FL.yTuple, FL.yMulS, FL.ySl, FL.fAppend, FL.fPop, FL.fPopAt, FL.fInsert, FL.fExtend, FL.fReverse, FL.fCount, FL.fIndex, if_pos, if_neg, Bool.not_true, Bool.not_false, Bool.xor_false, Bool.false_xor, Bool.xor_true, Bool.true_xor, if_true, if_false, Bool.false_eq_true, and_true, true_and, and_self, Option.isSome_some, Option.isSome_none, reduceIte, e_check_system hs, e_is_world_of hs hl]
/-- a world -/
structure Wd (n : Int) (bs : List Bd) (w : List Int) : Prop where
  h : ∃ ms, w = 0 :: ms
  l : (w.length : Int) = n
  k : bs.all (keepB w) = true
theorem e_is_worldW {n : Int} {bs : List Bd} {w : List Int} (hs : okS n bs) (hw : Wd n bs w) : F_is_world [.fz (sysD n bs), .fz (msD w)] = .ok (.fz (.bool true)) [.fz (sysD n bs), .fz (msD w)] := by
  obtain ⟨⟨ms, rfl⟩, hl, hk⟩ := hw
  rw [e_is_world hs (by rw [List.length_cons] at hl; omega), hk]
theorem e_check_world {n : Int} {bs : List Bd} {w : List Int} (hs : okS n bs) (hw : Wd n bs w) : F_check_world [.fz (sysD n bs), .fz (msD w)] = .ok (.fz .none) [.fz (sysD n bs), .fz (msD w)] := by
  obtain ⟨⟨ms, rfl⟩, hl, hk⟩ := hw
  unfold F_check_world x_check_world
  simp only [FL.runD, FL.startZ, FL.outsZ, FL.finZ, FL.endZ, List.replicate, List.cons_append, List.nil_append, List.append_nil, FL.zSeq, FL.zIf, FL.zRet, FL.zRetN, FL.zNext, FL.zDrop, FL.zSet, FL.zAsg, FL.zPar, FL.zRaise, FL.zSt, FL.zFor, FL.zBreak, FL.zCont, FL.asgZ, FL.xVar, FL.xC, FL.xOp, FL.xUn, FL.xB, FL.xAnd, FL.xOr, FL.xNot, FL.xAndE, FL.xOrE, FL.xNotE, FL.xIf, FL.xChain, FL.xaNil, FL.xaCons, FL.peeksZ, FL.xCB, FL.frzB, FL.frzZ, FL.xfNil, FL.xfCons, FL.xTup, FL.xLst, FL.xoNone, FL.xoSome, FL.xSl, FL.xLc, FL.xYes, FL.xiSeq, FL.xiRg, FL.xiEnum, FL.xiZip, FL.xMt, FL.xCall, FL.xcNil, FL.xcFz, FL.xcBw, FL.xcAn, FL.zForN, FL.xLcN, FL.bkZ, FL.xcOw, FL.xcPerm, FL.resZ, FL.backZ, FL.toPwZ, FL.xIs, FL.xIs2, FL.xExc, FL.Rs.bind, FL.getZ, FL.setZ, FL.nilsZ, FL.zlD, FL.peekZ, FL.boolZ, FL.opZ, FL.conZ, FL.wrZ, DL.stl, DL.RR.vr, DL.Cn.d, DL.noOw, DL.permR, DL.nthR, DL.isInt, DL.isBool, DL.isStr, DL.isList, DL.isTuple, DL.isNoneD, FL.yN, FL.ysNil, FL.ysCons, FL.yT, FL.yI, FL.yIc, FL.ySub, FL.yLt, FL.yLe, FL.yGt, FL.yGe, FL.yMul, FL.yDiv, FL.yMod, FL.yPow, FL.yNeg, FL.yAdd, FL.yIsN, FL.yIsB, FL.yEq, FL.yInn, FL.yIx, FL.yLen, FL.yInt, FL.yAbs, FL.yMax, FL.yMin, FL.ySum, FL.yAll, FL.yAny, FL.yDivmod, FL.yList, FL.yTuple, FL.yMulS, FL.ySl, FL.fAppend, FL.fPop, FL.fPopAt, FL.fInsert, FL.fExtend, FL.fReverse, FL.fCount, FL.fIndex, if_pos, if_neg, Bool.not_true, Bool.not_false, Bool.xor_false, Bool.false_xor, Bool.xor_true, Bool.true_xor, if_true, if_false, Bool.false_eq_true, and_true, true_and, and_self, Option.isSome_some, Option.isSome_none, reduceIte, e_is_world_of hs (show (ms.length : Int) + 1 = n by rw [List.length_cons] at hl; omega), hk]
theorem e_check_worlds {n : Int} {bs : List Bd} {w v : List Int} (hs : okS n bs) (hw : Wd n bs w) (hv : Wd n bs v) : F_check_worlds [.fz (sysD n bs), .fz (msD w), .fz (msD v)] = .ok (.fz .none) [.fz (sysD n bs), .fz (msD w), .fz (msD v)] := by
  unfold F_check_worlds x_check_worlds
  simp only [FL.runD, FL.startZ, FL.outsZ, FL.finZ, FL.endZ, List.replicate, List.cons_append, List.nil_append, List.append_nil, FL.zSeq, FL.zIf, FL.zRet, FL.zRetN, FL.zNext, FL.zDrop, FL.zSet, FL.zAsg, FL.zPar, FL.zRaise, FL.zSt, FL.zFor, FL.zBreak, FL.zCont, FL.asgZ, FL.xVar, FL.xC, FL.xOp, FL.xUn, FL.xB, FL.xAnd, FL.xOr, FL.xNot, FL.xAndE, FL.xOrE, FL.xNotE, FL.xIf, FL.xChain, FL.xaNil, FL.xaCons, FL.peeksZ, FL.xCB, FL.frzB, FL.frzZ, FL.xfNil, FL.xfCons, FL.xTup, FL.xLst, FL.xoNone, FL.xoSome, FL.xSl, FL.xLc, FL.xYes, FL.xiSeq, FL.xiRg, FL.xiEnum, FL.xiZip, FL.xMt, FL.xCall, FL.xcNil, FL.xcFz, FL.xcBw, FL.xcAn, FL.zForN, FL.xLcN, FL.bkZ, FL.xcOw, FL.xcPerm, FL.resZ, FL.backZ, FL.toPwZ, FL.xIs, FL.xIs2, FL.xExc, FL.Rs.bind, FL.getZ, FL.setZ, FL.nilsZ, FL.zlD, FL.peekZ, FL.boolZ, FL.opZ, FL.conZ, FL.wrZ, DL.stl, DL.RR.vr, DL.Cn.d, DL.noOw, DL.permR, DL.nthR, DL.isInt, DL.isBool, DL.isStr, DL.isList, DL.isTuple, DL.isNoneD, FL.yN, FL.ysNil, FL.ysCons, FL.yT, FL.yI, FL.yIc, FL.ySub, FL.yLt, FL.yLe, FL.yGt, FL.yGe, FL.yMul, FL.yDiv, FL.yMod, FL.yPow, FL.yNeg, FL.yAdd, FL.yIsN, FL.yIsB, FL.yEq, FL.yInn, FL.yIx, FL.yLen, FL.yInt, FL.yAbs, FL.yMax, FL.yMin, FL.ySum, FL.yAll, FL.yAny, FL.yDivmod, FL.yList, FL.yTuple, FL.yMulS, FL.ySl, FL.fAppend, FL.fPop, FL.fPopAt, FL.fInsert, FL.fExtend, FL.fReverse, FL.fCount, FL.fIndex, if_pos, if_neg, Bool.not_true, Bool.not_false, Bool.xor_false, Bool.false_xor, Bool.xor_true, Bool.true_xor, if_true, if_false, Bool.false_eq_true, and_true, true_and, and_self, Option.isSome_some, Option.isSome_none, reduceIte, e_check_system hs, e_check_world hs hw, e_check_world hs hv]
/-- zip of two worlds -/
abbrev pr (p : Int × Int) : D := .tuple [.int p.1, .int p.2]
theorem zipD_ints : ∀ a b : List Int, zipD (a.map .int) (b.map .int) = (List.zip a b).map pr
  | [], _ => rfl
  | _ :: _, [] => rfl
  | x :: a, y :: b => by
    show PyData.tuple [.int x, .int y] :: zipD (a.map .int) (b.map .int) = _
    rw [zipD_ints a b]; rfl
theorem map_zip (f : Int → Int → Int) : ∀ a b : List Int, ((List.zip a b).map fun p => PyData.int (f p.1 p.2)) = (List.zipWith f a b).map .int
  | [], _ => rfl
  | _ :: _, [] => rfl
  | x :: a, y :: b => by
    rw [List.zip_cons_cons, List.map_cons, map_zip f a b]; rfl
/-- the comprehensions over two worlds, each a function of the pair -/
theorem lc_zip {vs : List Nat} {ρ : List Zl} {g : XG} {te : XM VR} (f : Int → Int → Int) (a b : List Int) (h : ∀ x y : Int, ∃ ρ3, g (pr (x, y)) (nilsZ ρ vs) = some ρ3 ∧ te ρ3 = .ok (.fz (.int (f x y))) ρ3 ∧ nilsZ ρ3 vs = ρ) :
    lcF g xYes te vs (zipD (a.map .int) (b.map .int)) ρ = .ok ((List.zipWith f a b).map .int) ρ := by
  rw [zipD_ints, ← map_zip]
  exact lcF_map pr (fun p => .int (f p.1 p.2)) _ fun p _ => h p.1 p.2
theorem e_lesser {n : Int} {bs : List Bd} {w v : List Int} (hs : okS n bs) (hw : Wd n bs w) (hv : Wd n bs v) : F_lesser [.fz (sysD n bs), .fz (msD w), .fz (msD v)] = .ok (.fz (msD (List.zipWith min w v))) [.fz (sysD n bs), .fz (msD w), .fz (msD v)] := by
  have lc := lc_zip (vs := [3, 4]) (ρ := [.fz (sysD n bs), .fz (msD w), .fz (msD v), .nil, .nil]) (g := yT (ysCons (yN 3) (ysCons (yN 4) ysNil))) (te := x_lesser_c1) min w v fun x y => ⟨_, rfl, rfl, rfl⟩
  unfold F_lesser x_lesser
  simp only [FL.runD, FL.startZ, FL.outsZ, FL.finZ, FL.endZ, List.replicate, List.cons_append, List.nil_append, List.append_nil, FL.zSeq, FL.zIf, FL.zRet, FL.zRetN, FL.zNext, FL.zDrop, FL.zSet, FL.zAsg, FL.zPar, FL.zRaise, FL.zSt, FL.zFor, FL.zBreak, FL.zCont, FL.asgZ, FL.xVar, FL.xC, FL.xOp, FL.xUn, FL.xB, FL.xAnd, FL.xOr, FL.xNot, FL.xAndE, FL.xOrE, FL.xNotE, FL.xIf, FL.xChain, FL.xaNil, FL.xaCons, FL.peeksZ, FL.xCB, FL.frzB, FL.frzZ, FL.xfNil, FL.xfCons, FL.xTup, FL.xLst, FL.xoNone, FL.xoSome, FL.xSl, FL.xLc, FL.xYes, FL.xiSeq, FL.xiRg, FL.xiEnum, FL.xiZip, FL.xMt, FL.xCall, FL.xcNil, FL.xcFz, FL.xcBw, FL.xcAn, FL.zForN, FL.xLcN, FL.bkZ, FL.xcOw, FL.xcPerm, FL.resZ, FL.backZ, FL.toPwZ, FL.xIs, FL.xIs2, FL.xExc, FL.Rs.bind, FL.getZ, FL.setZ, FL.nilsZ, FL.zlD, FL.peekZ, FL.boolZ, FL.opZ, FL.conZ, FL.wrZ, DL.stl, DL.RR.vr, DL.Cn.d, DL.noOw, DL.permR, DL.nthR, DL.isInt, DL.isBool, DL.isStr, DL.isList, DL.isTuple, DL.isNoneD, FL.yN, FL.ysNil, FL.ysCons, FL.yT, FL.yI, FL.yIc, FL.ySub, FL.yLt, FL.yLe, FL.yGt, FL.yGe, FL.yMul, FL.yDiv, FL.yMod, FL.yPow, FL.yNeg, FL.yAdd, FL.yIsN, FL.yIsB, FL.yEq, FL.yInn, FL.yIx, FL.yLen, FL.yInt, FL.yAbs, FL.yMax, FL.yMin, FL.ySum, FL.yAll, FL.yAny, FL.yDivmod, FL.yList, FL.yTuple, FL.yMulS, FL.ySl, FL.fAppend, FL.fPop, FL.fPopAt, FL.fInsert, FL.fExtend, FL.fReverse, FL.fCount, FL.fIndex, if_pos, if_neg, Bool.not_true, Bool.not_false, Bool.xor_false, Bool.false_xor, Bool.xor_true, Bool.true_xor, if_true, if_false, Bool.false_eq_true, and_true, true_and, and_self, Option.isSome_some, Option.isSome_none, reduceIte, e_check_worlds hs hw hv, lc]
theorem e_greater {n : Int} {bs : List Bd} {w v : List Int} (hs : okS n bs) (hw : Wd n bs w) (hv : Wd n bs v) : F_greater [.fz (sysD n bs), .fz (msD w), .fz (msD v)] = .ok (.fz (msD (List.zipWith max w v))) [.fz (sysD n bs), .fz (msD w), .fz (msD v)] := by
  have lc := lc_zip (vs := [3, 4]) (ρ := [.fz (sysD n bs), .fz (msD w), .fz (msD v), .nil, .nil]) (g := yT (ysCons (yN 3) (ysCons (yN 4) ysNil))) (te := x_greater_c1) max w v fun x y => ⟨_, rfl, rfl, rfl⟩
  unfold F_greater x_greater
  simp only [FL.runD, FL.startZ, FL.outsZ, FL.finZ, FL.endZ, List.replicate, List.cons_append, List.nil_append, List.append_nil, FL.zSeq, FL.zIf, FL.zRet, FL.zRetN, FL.zNext, FL.zDrop, FL.zSet, FL.zAsg, FL.zPar, FL.zRaise, FL.zSt, FL.zFor, FL.zBreak, FL.zCont, FL.asgZ, FL.xVar, FL.xC, FL.xOp, FL.xUn, FL.xB, FL.xAnd, FL.xOr, FL.xNot, FL.xAndE, FL.xOrE, FL.xNotE, FL.xIf, FL.xChain, FL.xaNil, FL.xaCons, FL.peeksZ, FL.xCB, FL.frzB, FL.frzZ, FL.xfNil, FL.xfCons, FL.xTup, FL.xLst, FL.xoNone, FL.xoSome, FL.xSl, FL.xLc, FL.xYes, FL.xiSeq, FL.xiRg, FL.xiEnum, FL.xiZip, FL.xMt, FL.xCall, FL.xcNil, FL.xcFz, FL.xcBw, FL.xcAn, FL.zForN, FL.xLcN, FL.bkZ, FL.xcOw, FL.xcPerm, FL.resZ, FL.backZ, FL.toPwZ, FL.xIs, FL.xIs2, FL.xExc, FL.Rs.bind, FL.getZ, FL.setZ, FL.nilsZ, FL.zlD, FL.peekZ, FL.boolZ, FL.opZ, FL.conZ, FL.wrZ, DL.stl, DL.RR.vr, DL.Cn.d, DL.noOw, DL.permR, DL.nthR, DL.isInt, DL.isBool, DL.isStr, DL.isList, DL.isTuple, DL.isNoneD, FL.yN, FL.ysNil, FL.ysCons, FL.yT, FL.yI, FL.yIc, FL.ySub, FL.yLt, FL.yLe, FL.yGt, FL.yGe, FL.yMul, FL.yDiv, FL.yMod, FL.yPow, FL.yNeg, FL.yAdd, FL.yIsN, FL.yIsB, FL.yEq, FL.yInn, FL.yIx, FL.yLen, FL.yInt, FL.yAbs, FL.yMax, FL.yMin, FL.ySum, FL.yAll, FL.yAny, FL.yDivmod, FL.yList, FL.yTuple, FL.yMulS, FL.ySl, FL.fAppend, FL.fPop, FL.fPopAt, FL.fInsert, FL.fExtend, FL.fReverse, FL.fCount, FL.fIndex, if_pos, if_neg, Bool.not_true, Bool.not_false, Bool.xor_false, Bool.false_xor, Bool.xor_true, Bool.true_xor, if_true, if_false, Bool.false_eq_true, and_true, true_and, and_self, Option.isSome_some, Option.isSome_none, reduceIte, e_check_worlds hs hw hv, lc]
theorem e_greatest_rise {w v : List Int} (hz : w.length ≤ 1000) : F_greatest_rise [.fz (msD w), .fz (msD v)] = .ok (.fz (.int (rise w v))) [.fz (msD w), .fz (msD v)] := by
  have lc := lc_zip (vs := [2, 3]) (ρ := [.fz (msD w), .fz (msD v), .nil, .nil]) (g := yT (ysCons (yN 2) (ysCons (yN 3) ysNil))) (te := x_greatest_rise_c1) (fun x y => y - x) w v fun x y => ⟨_, rfl, rfl, rfl⟩
  have sz : [PyData.int 0].length + (List.map PyData.int (List.zipWith (fun x y => y - x) w v)).length ≤ sizeLine := by
    have := szl
    rw [List.length_map, List.length_zipWith]; simp only [List.length_cons, List.length_nil]; omega
  have ii : intsOf (PyData.int 0 :: List.map PyData.int (List.zipWith (fun x y => y - x) w v)) = some (0 :: List.zipWith (fun x y => y - x) w v) := intsOf_ints (0 :: _)
  unfold F_greatest_rise x_greatest_rise
  simp only [FL.runD, FL.startZ, FL.outsZ, FL.finZ, FL.endZ, List.replicate, List.cons_append, List.nil_append, List.append_nil, FL.zSeq, FL.zIf, FL.zRet, FL.zRetN, FL.zNext, FL.zDrop, FL.zSet, FL.zAsg, FL.zPar, FL.zRaise, FL.zSt, FL.zFor, FL.zBreak, FL.zCont, FL.asgZ, FL.xVar, FL.xC, FL.xOp, FL.xUn, FL.xB, FL.xAnd, FL.xOr, FL.xNot, FL.xAndE, FL.xOrE, FL.xNotE, FL.xIf, FL.xChain, FL.xaNil, FL.xaCons, FL.peeksZ, FL.xCB, FL.frzB, FL.frzZ, FL.xfNil, FL.xfCons, FL.xTup, FL.xLst, FL.xoNone, FL.xoSome, FL.xSl, FL.xLc, FL.xYes, FL.xiSeq, FL.xiRg, FL.xiEnum, FL.xiZip, FL.xMt, FL.xCall, FL.xcNil, FL.xcFz, FL.xcBw, FL.xcAn, FL.zForN, FL.xLcN, FL.bkZ, FL.xcOw, FL.xcPerm, FL.resZ, FL.backZ, FL.toPwZ, FL.xIs, FL.xIs2, FL.xExc, FL.Rs.bind, FL.getZ, FL.setZ, FL.nilsZ, FL.zlD, FL.peekZ, FL.boolZ, FL.opZ, FL.conZ, FL.wrZ, DL.stl, DL.RR.vr, DL.Cn.d, DL.noOw, DL.permR, DL.nthR, DL.isInt, DL.isBool, DL.isStr, DL.isList, DL.isTuple, DL.isNoneD, FL.yN, FL.ysNil, FL.ysCons, FL.yT, FL.yI, FL.yIc, FL.ySub, FL.yLt, FL.yLe, FL.yGt, FL.yGe, FL.yMul, FL.yDiv, FL.yMod, FL.yPow, FL.yNeg, FL.yAdd, FL.yIsN, FL.yIsB, FL.yEq, FL.yInn, FL.yIx, FL.yLen, FL.yInt, FL.yAbs, FL.yMax, FL.yMin, FL.ySum, FL.yAll, FL.yAny, FL.yDivmod, FL.yList, FL.yTuple, FL.yMulS, FL.ySl, FL.fAppend, FL.fPop, FL.fPopAt, FL.fInsert, FL.fExtend, FL.fReverse, FL.fCount, FL.fIndex, if_pos, if_neg, Bool.not_true, Bool.not_false, Bool.xor_false, Bool.false_xor, Bool.xor_true, Bool.true_xor, if_true, if_false, Bool.false_eq_true, and_true, true_and, and_self, Option.isSome_some, Option.isSome_none, reduceIte, lc, sz, ii, maxL_zip]
theorem e_moves_between {n : Int} {bs : List Bd} {w v : List Int} (hs : okS n bs) (hw : Wd n bs w) (hv : Wd n bs v) : F_moves_between [.fz (sysD n bs), .fz (msD w), .fz (msD v)] = .ok (.fz (.int (rise w v + rise v w))) [.fz (sysD n bs), .fz (msD w), .fz (msD v)] := by
  have h1 := hw.l
  have h2 := hv.l
  have h3 := hs.2.1
  unfold F_moves_between x_moves_between
  simp only [FL.runD, FL.startZ, FL.outsZ, FL.finZ, FL.endZ, List.replicate, List.cons_append, List.nil_append, List.append_nil, FL.zSeq, FL.zIf, FL.zRet, FL.zRetN, FL.zNext, FL.zDrop, FL.zSet, FL.zAsg, FL.zPar, FL.zRaise, FL.zSt, FL.zFor, FL.zBreak, FL.zCont, FL.asgZ, FL.xVar, FL.xC, FL.xOp, FL.xUn, FL.xB, FL.xAnd, FL.xOr, FL.xNot, FL.xAndE, FL.xOrE, FL.xNotE, FL.xIf, FL.xChain, FL.xaNil, FL.xaCons, FL.peeksZ, FL.xCB, FL.frzB, FL.frzZ, FL.xfNil, FL.xfCons, FL.xTup, FL.xLst, FL.xoNone, FL.xoSome, FL.xSl, FL.xLc, FL.xYes, FL.xiSeq, FL.xiRg, FL.xiEnum, FL.xiZip, FL.xMt, FL.xCall, FL.xcNil, FL.xcFz, FL.xcBw, FL.xcAn, FL.zForN, FL.xLcN, FL.bkZ, FL.xcOw, FL.xcPerm, FL.resZ, FL.backZ, FL.toPwZ, FL.xIs, FL.xIs2, FL.xExc, FL.Rs.bind, FL.getZ, FL.setZ, FL.nilsZ, FL.zlD, FL.peekZ, FL.boolZ, FL.opZ, FL.conZ, FL.wrZ, DL.stl, DL.RR.vr, DL.Cn.d, DL.noOw, DL.permR, DL.nthR, DL.isInt, DL.isBool, DL.isStr, DL.isList, DL.isTuple, DL.isNoneD, FL.yN, FL.ysNil, FL.ysCons, FL.yT, FL.yI, FL.yIc, FL.ySub, FL.yLt, FL.yLe, FL.yGt, FL.yGe, FL.yMul, FL.yDiv, FL.yMod, FL.yPow, FL.yNeg, FL.yAdd, FL.yIsN, FL.yIsB, FL.yEq, FL.yInn, FL.yIx, FL.yLen, FL.yInt, FL.yAbs, FL.yMax, FL.yMin, FL.ySum, FL.yAll, FL.yAny, FL.yDivmod, FL.yList, FL.yTuple, FL.yMulS, FL.ySl, FL.fAppend, FL.fPop, FL.fPopAt, FL.fInsert, FL.fExtend, FL.fReverse, FL.fCount, FL.fIndex, if_pos, if_neg, Bool.not_true, Bool.not_false, Bool.xor_false, Bool.false_xor, Bool.xor_true, Bool.true_xor, if_true, if_false, Bool.false_eq_true, and_true, true_and, and_self, Option.isSome_some, Option.isSome_none, reduceIte, e_check_worlds hs hw hv, e_greatest_rise (show w.length ≤ 1000 by omega), e_greatest_rise (show v.length ≤ 1000 by omega)]
theorem e_moved_up {w v : List Int} {r : Int} : F_moved_up [.fz (msD w), .fz (msD v), .fz (.int r)] = .ok (.fz (msD (List.zipWith (fun x y => x + (if y - x = r then 1 else 0)) w v))) [.fz (msD w), .fz (msD v), .fz (.int r)] := by
  have lc := lc_zip (vs := [3, 4]) (ρ := [.fz (msD w), .fz (msD v), .fz (.int r), .nil, .nil]) (g := yT (ysCons (yN 3) (ysCons (yN 4) ysNil))) (te := x_moved_up_c1) (fun x y => x + (if y - x = r then 1 else 0)) w v fun x y => ⟨_, rfl, by
    unfold x_moved_up_c1
    simp only [FL.runD, FL.startZ, FL.outsZ, FL.finZ, FL.endZ, List.replicate, List.cons_append, List.nil_append, List.append_nil, FL.zSeq, FL.zIf, FL.zRet, FL.zRetN, FL.zNext, FL.zDrop, FL.zSet, FL.zAsg, FL.zPar, FL.zRaise, FL.zSt, FL.zFor, FL.zBreak, FL.zCont, FL.asgZ, FL.xVar, FL.xC, FL.xOp, FL.xUn, FL.xB, FL.xAnd, FL.xOr, FL.xNot, FL.xAndE, FL.xOrE, FL.xNotE, FL.xIf, FL.xChain, FL.xaNil, FL.xaCons, FL.peeksZ, FL.xCB, FL.frzB, FL.frzZ, FL.xfNil, FL.xfCons, FL.xTup, FL.xLst, FL.xoNone, FL.xoSome, FL.xSl, FL.xLc, FL.xYes, FL.xiSeq, FL.xiRg, FL.xiEnum, FL.xiZip, FL.xMt, FL.xCall, FL.xcNil, FL.xcFz, FL.xcBw, FL.xcAn, FL.zForN, FL.xLcN, FL.bkZ, FL.xcOw, FL.xcPerm, FL.resZ, FL.backZ, FL.toPwZ, FL.xIs, FL.xIs2, FL.xExc, FL.Rs.bind, FL.getZ, FL.setZ, FL.nilsZ, FL.zlD, FL.peekZ, FL.boolZ, FL.opZ, FL.conZ, FL.wrZ, DL.stl, DL.RR.vr, DL.Cn.d, DL.noOw, DL.permR, DL.nthR, DL.isInt, DL.isBool, DL.isStr, DL.isList, DL.isTuple, DL.isNoneD, FL.yN, FL.ysNil, FL.ysCons, FL.yT, FL.yI, FL.yIc, FL.ySub, FL.yLt, FL.yLe, FL.yGt, FL.yGe, FL.yMul, FL.yDiv, FL.yMod, FL.yPow, FL.yNeg, FL.yAdd, FL.yIsN, FL.yIsB, FL.yEq, FL.yInn, FL.yIx, FL.yLen, FL.yInt, FL.yAbs, FL.yMax, FL.yMin, FL.ySum, FL.yAll, FL.yAny, FL.yDivmod, FL.yList, FL.yTuple, FL.yMulS, FL.ySl, FL.fAppend, FL.fPop, FL.fPopAt, FL.fInsert, FL.fExtend, FL.fReverse, FL.fCount, FL.fIndex, if_pos, if_neg, Bool.not_true, Bool.not_false, Bool.xor_false, Bool.false_xor, Bool.xor_true, Bool.true_xor, if_true, if_false, Bool.false_eq_true, and_true, true_and, and_self, Option.isSome_some, Option.isSome_none, reduceIte, sh_int, eqv_int, decide_eq_true_eq], rfl⟩
  unfold F_moved_up x_moved_up
  simp only [FL.runD, FL.startZ, FL.outsZ, FL.finZ, FL.endZ, List.replicate, List.cons_append, List.nil_append, List.append_nil, FL.zSeq, FL.zIf, FL.zRet, FL.zRetN, FL.zNext, FL.zDrop, FL.zSet, FL.zAsg, FL.zPar, FL.zRaise, FL.zSt, FL.zFor, FL.zBreak, FL.zCont, FL.asgZ, FL.xVar, FL.xC, FL.xOp, FL.xUn, FL.xB, FL.xAnd, FL.xOr, FL.xNot, FL.xAndE, FL.xOrE, FL.xNotE, FL.xIf, FL.xChain, FL.xaNil, FL.xaCons, FL.peeksZ, FL.xCB, FL.frzB, FL.frzZ, FL.xfNil, FL.xfCons, FL.xTup, FL.xLst, FL.xoNone, FL.xoSome, FL.xSl, FL.xLc, FL.xYes, FL.xiSeq, FL.xiRg, FL.xiEnum, FL.xiZip, FL.xMt, FL.xCall, FL.xcNil, FL.xcFz, FL.xcBw, FL.xcAn, FL.zForN, FL.xLcN, FL.bkZ, FL.xcOw, FL.xcPerm, FL.resZ, FL.backZ, FL.toPwZ, FL.xIs, FL.xIs2, FL.xExc, FL.Rs.bind, FL.getZ, FL.setZ, FL.nilsZ, FL.zlD, FL.peekZ, FL.boolZ, FL.opZ, FL.conZ, FL.wrZ, DL.stl, DL.RR.vr, DL.Cn.d, DL.noOw, DL.permR, DL.nthR, DL.isInt, DL.isBool, DL.isStr, DL.isList, DL.isTuple, DL.isNoneD, FL.yN, FL.ysNil, FL.ysCons, FL.yT, FL.yI, FL.yIc, FL.ySub, FL.yLt, FL.yLe, FL.yGt, FL.yGe, FL.yMul, FL.yDiv, FL.yMod, FL.yPow, FL.yNeg, FL.yAdd, FL.yIsN, FL.yIsB, FL.yEq, FL.yInn, FL.yIx, FL.yLen, FL.yInt, FL.yAbs, FL.yMax, FL.yMin, FL.ySum, FL.yAll, FL.yAny, FL.yDivmod, FL.yList, FL.yTuple, FL.yMulS, FL.ySl, FL.fAppend, FL.fPop, FL.fPopAt, FL.fInsert, FL.fExtend, FL.fReverse, FL.fCount, FL.fIndex, if_pos, if_neg, Bool.not_true, Bool.not_false, Bool.xor_false, Bool.false_xor, Bool.xor_true, Bool.true_xor, if_true, if_false, Bool.false_eq_true, and_true, true_and, and_self, Option.isSome_some, Option.isSome_none, reduceIte, lc]
theorem e_moved_down {w v : List Int} {r : Int} : F_moved_down [.fz (msD w), .fz (msD v), .fz (.int r)] = .ok (.fz (msD (List.zipWith (fun x y => x - (if x - y = r then 1 else 0)) w v))) [.fz (msD w), .fz (msD v), .fz (.int r)] := by
  have lc := lc_zip (vs := [3, 4]) (ρ := [.fz (msD w), .fz (msD v), .fz (.int r), .nil, .nil]) (g := yT (ysCons (yN 3) (ysCons (yN 4) ysNil))) (te := x_moved_down_c1) (fun x y => x - (if x - y = r then 1 else 0)) w v fun x y => ⟨_, rfl, by
    unfold x_moved_down_c1
    simp only [FL.runD, FL.startZ, FL.outsZ, FL.finZ, FL.endZ, List.replicate, List.cons_append, List.nil_append, List.append_nil, FL.zSeq, FL.zIf, FL.zRet, FL.zRetN, FL.zNext, FL.zDrop, FL.zSet, FL.zAsg, FL.zPar, FL.zRaise, FL.zSt, FL.zFor, FL.zBreak, FL.zCont, FL.asgZ, FL.xVar, FL.xC, FL.xOp, FL.xUn, FL.xB, FL.xAnd, FL.xOr, FL.xNot, FL.xAndE, FL.xOrE, FL.xNotE, FL.xIf, FL.xChain, FL.xaNil, FL.xaCons, FL.peeksZ, FL.xCB, FL.frzB, FL.frzZ, FL.xfNil, FL.xfCons, FL.xTup, FL.xLst, FL.xoNone, FL.xoSome, FL.xSl, FL.xLc, FL.xYes, FL.xiSeq, FL.xiRg, FL.xiEnum, FL.xiZip, FL.xMt, FL.xCall, FL.xcNil, FL.xcFz, FL.xcBw, FL.xcAn, FL.zForN, FL.xLcN, FL.bkZ, FL.xcOw, FL.xcPerm, FL.resZ, FL.backZ, FL.toPwZ, FL.xIs, FL.xIs2, FL.xExc, FL.Rs.bind, FL.getZ, FL.setZ, FL.nilsZ, FL.zlD, FL.peekZ, FL.boolZ, FL.opZ, FL.conZ, FL.wrZ, DL.stl, DL.RR.vr, DL.Cn.d, DL.noOw, DL.permR, DL.nthR, DL.isInt, DL.isBool, DL.isStr, DL.isList, DL.isTuple, DL.isNoneD, FL.yN, FL.ysNil, FL.ysCons, FL.yT, FL.yI, FL.yIc, FL.ySub, FL.yLt, FL.yLe, FL.yGt, FL.yGe, FL.yMul, FL.yDiv, FL.yMod, FL.yPow, FL.yNeg, FL.yAdd, FL.yIsN, FL.yIsB, FL.yEq, FL.yInn, FL.yIx, FL.yLen, FL.yInt, FL.yAbs, FL.yMax, FL.yMin, FL.ySum, FL.yAll, FL.yAny, FL.yDivmod, FL.yList, FL.yTuple, FL.yMulS, FL.ySl, FL.fAppend, FL.fPop, FL.fPopAt, FL.fInsert, FL.fExtend, FL.fReverse, FL.fCount, FL.fIndex, if_pos, if_neg, Bool.not_true, Bool.not_false, Bool.xor_false, Bool.false_xor, Bool.xor_true, Bool.true_xor, if_true, if_false, Bool.false_eq_true, and_true, true_and, and_self, Option.isSome_some, Option.isSome_none, reduceIte, sh_int, eqv_int, decide_eq_true_eq], rfl⟩
  unfold F_moved_down x_moved_down
  simp only [FL.runD, FL.startZ, FL.outsZ, FL.finZ, FL.endZ, List.replicate, List.cons_append, List.nil_append, List.append_nil, FL.zSeq, FL.zIf, FL.zRet, FL.zRetN, FL.zNext, FL.zDrop, FL.zSet, FL.zAsg, FL.zPar, FL.zRaise, FL.zSt, FL.zFor, FL.zBreak, FL.zCont, FL.asgZ, FL.xVar, FL.xC, FL.xOp, FL.xUn, FL.xB, FL.xAnd, FL.xOr, FL.xNot, FL.xAndE, FL.xOrE, FL.xNotE, FL.xIf, FL.xChain, FL.xaNil, FL.xaCons, FL.peeksZ, FL.xCB, FL.frzB, FL.frzZ, FL.xfNil, FL.xfCons, FL.xTup, FL.xLst, FL.xoNone, FL.xoSome, FL.xSl, FL.xLc, FL.xYes, FL.xiSeq, FL.xiRg, FL.xiEnum, FL.xiZip, FL.xMt, FL.xCall, FL.xcNil, FL.xcFz, FL.xcBw, FL.xcAn, FL.zForN, FL.xLcN, FL.bkZ, FL.xcOw, FL.xcPerm, FL.resZ, FL.backZ, FL.toPwZ, FL.xIs, FL.xIs2, FL.xExc, FL.Rs.bind, FL.getZ, FL.setZ, FL.nilsZ, FL.zlD, FL.peekZ, FL.boolZ, FL.opZ, FL.conZ, FL.wrZ, DL.stl, DL.RR.vr, DL.Cn.d, DL.noOw, DL.permR, DL.nthR, DL.isInt, DL.isBool, DL.isStr, DL.isList, DL.isTuple, DL.isNoneD, FL.yN, FL.ysNil, FL.ysCons, FL.yT, FL.yI, FL.yIc, FL.ySub, FL.yLt, FL.yLe, FL.yGt, FL.yGe, FL.yMul, FL.yDiv, FL.yMod, FL.yPow, FL.yNeg, FL.yAdd, FL.yIsN, FL.yIsB, FL.yEq, FL.yInn, FL.yIx, FL.yLen, FL.yInt, FL.yAbs, FL.yMax, FL.yMin, FL.ySum, FL.yAll, FL.yAny, FL.yDivmod, FL.yList, FL.yTuple, FL.yMulS, FL.ySl, FL.fAppend, FL.fPop, FL.fPopAt, FL.fInsert, FL.fExtend, FL.fReverse, FL.fCount, FL.fIndex, if_pos, if_neg, Bool.not_true, Bool.not_false, Bool.xor_false, Bool.false_xor, Bool.xor_true, Bool.true_xor, if_true, if_false, Bool.false_eq_true, and_true, true_and, and_self, Option.isSome_some, Option.isSome_none, reduceIte, lc]
/-- the way up and down, as lists: from R down to 0 -/
def ups (a b : List Int) (R : Nat) : List (List Int) := (List.range R).map fun k => up ((R : Int) - 1 - (k : Nat)) a b
def dns (a b : List Int) (R : Nat) : List (List Int) := (List.range R).map fun k => dn ((R : Int) - 1 - (k : Nat)) a b
def way (a b : List Int) : List (List Int) := a :: (ups a b (rise a b).toNat ++ dns a b (rise b a).toNat)
theorem ups_at (a b : List Int) (R i : Nat) : ((List.range i).map fun k => up ((R : Int) - 1 - (k : Nat)) a b) ++ [up ((R : Int) - 1 - (i : Nat)) a b] = (List.range (i + 1)).map fun k => up ((R : Int) - 1 - (k : Nat)) a b := by
  rw [List.range_succ, List.map_append]; rfl
theorem e_walk {n : Int} {bs : List Bd} {w v : List Int} (hs : okS n bs) (hw : Wd n bs w) (hv : Wd n bs v) (h1 : rise w v ≤ 1000) (h2 : rise v w ≤ 1000) :
    F_walk [.fz (sysD n bs), .fz (msD w), .fz (msD v)] = .ok (.ow (.l ((way w v).map msD))) [.fz (sysD n bs), .fz (msD w), .fz (msD v)] := by
  have hl : w.length = v.length := by have := hw.l; have := hv.l; omega
  have hz := szl
  have n1 := rise_nn w v
  have n2 := rise_nn v w
  have l1 := hw.l
  have l2 := hv.l
  have l3 := hs.2.1
  have rg1 : rgZ [SD.d (.int (rise w v)), .d (.int 0), .d (.int (-1))] = some (rgD (rise w v) (-1) (rise w v - 0).toNat) := by simp only [rgZ]; rw [if_pos ⟨trivial, by omega⟩]
  have rg2 : rgZ [SD.d (.int (rise v w)), .d (.int 0), .d (.int (-1))] = some (rgD (rise v w) (-1) (rise v w - 0).toNat) := by simp only [rgZ]; rw [if_pos ⟨trivial, by omega⟩]
  obtain ⟨ρ1, e1, s4, rfl⟩ := forF_inv (g := yN 4) (body := x_walk_b2) (items := rgD (rise w v) (-1) (rise w v - 0).toNat) (ρ := [.fz (sysD n bs), .fz (msD w), .fz (msD v), .ow (.l [msD w]), .nil, .nil])
    (fun i ρ => ∃ s4, ρ = [.fz (sysD n bs), .fz (msD w), .fz (msD v), .ow (.l ((w :: (List.range i).map fun k => up (rise w v - 1 - (k : Nat)) w v).map msD)), s4, .nil]) ⟨_, rfl⟩ (by
      rintro i d ρ hd ⟨s4, rfl⟩
      have hlt := (List.getElem?_eq_some_iff.mp hd).1
      rw [rgD_len] at hlt
      rw [rgD_get hlt] at hd
      cases hd
      refine ⟨_, rfl, ?_⟩
      have last : atI ((w :: (List.range i).map fun k => up (rise w v - 1 - (k : Nat)) w v).map msD) (-1) = some (msD (up (rise w v - (i : Nat)) w v)) := by
        refine atI_last ?_
        cases i with
        | zero => rw [show up (rise w v - ((0 : Nat) : Int)) w v = w from up_top hl (by omega)]; rfl
        | succ i =>
          rw [List.range_succ, List.map_append, ← List.cons_append, List.map_append]
          rw [show rise w v - ((i + 1 : Nat) : Int) = rise w v - 1 - (i : Nat) by omega]
          exact List.getLast?_concat
      have lt : ((w :: (List.range i).map fun k => up (rise w v - 1 - (k : Nat)) w v).map msD).length < sizeLine := by simp; omega
      unfold x_walk_b2
      simp only [FL.runD, FL.startZ, FL.outsZ, FL.finZ, FL.endZ, List.replicate, List.cons_append, List.nil_append, List.append_nil, FL.zSeq, FL.zIf, FL.zRet, FL.zRetN, FL.zNext, FL.zDrop, FL.zSet, FL.zAsg, FL.zPar, FL.zRaise, FL.zSt, FL.zFor, FL.zBreak, FL.zCont, FL.asgZ, FL.xVar, FL.xC, FL.xOp, FL.xUn, FL.xB, FL.xAnd, FL.xOr, FL.xNot, FL.xAndE, FL.xOrE, FL.xNotE, FL.xIf, FL.xChain, FL.xaNil, FL.xaCons, FL.peeksZ, FL.xCB, FL.frzB, FL.frzZ, FL.xfNil, FL.xfCons, FL.xTup, FL.xLst, FL.xoNone, FL.xoSome, FL.xSl, FL.xLc, FL.xYes, FL.xiSeq, FL.xiRg, FL.xiEnum, FL.xiZip, FL.xMt, FL.xCall, FL.xcNil, FL.xcFz, FL.xcBw, FL.xcAn, FL.zForN, FL.xLcN, FL.bkZ, FL.xcOw, FL.xcPerm, FL.resZ, FL.backZ, FL.toPwZ, FL.xIs, FL.xIs2, FL.xExc, FL.Rs.bind, FL.getZ, FL.setZ, FL.nilsZ, FL.zlD, FL.peekZ, FL.boolZ, FL.opZ, FL.conZ, FL.wrZ, DL.stl, DL.RR.vr, DL.Cn.d, DL.noOw, DL.permR, DL.nthR, DL.isInt, DL.isBool, DL.isStr, DL.isList, DL.isTuple, DL.isNoneD, FL.yN, FL.ysNil, FL.ysCons, FL.yT, FL.yI, FL.yIc, FL.ySub, FL.yLt, FL.yLe, FL.yGt, FL.yGe, FL.yMul, FL.yDiv, FL.yMod, FL.yPow, FL.yNeg, FL.yAdd, FL.yIsN, FL.yIsB, FL.yEq, FL.yInn, FL.yIx, FL.yLen, FL.yInt, FL.yAbs, FL.yMax, FL.yMin, FL.ySum, FL.yAll, FL.yAny, FL.yDivmod, FL.yList, FL.yTuple, FL.yMulS, FL.ySl, FL.fAppend, FL.fPop, FL.fPopAt, FL.fInsert, FL.fExtend, FL.fReverse, FL.fCount, FL.fIndex, if_pos, if_neg, Bool.not_true, Bool.not_false, Bool.xor_false, Bool.false_xor, Bool.xor_true, Bool.true_xor, if_true, if_false, Bool.false_eq_true, and_true, true_and, and_self, Option.isSome_some, Option.isSome_none, reduceIte, last, e_moved_up, lt]
      refine ⟨_, .inl rfl, .fz (.int (rise w v + (i : Nat) * -1)), ?_⟩
      have st := up_step (a := w) (b := v) (r := rise w v - 1 - (i : Nat))
      rw [show rise w v - 1 - (i : Int) + 1 = rise w v - (i : Nat) by omega] at st
      rw [show rise w v + (i : Int) * -1 = rise w v - (i : Nat) by omega, st, List.range_succ, List.map_append, ← List.cons_append, List.map_append]
      rfl)
  obtain ⟨ρ2, e2, s5, rfl⟩ := forF_inv (g := yN 5) (body := x_walk_b1) (items := rgD (rise v w) (-1) (rise v w - 0).toNat) (ρ := [.fz (sysD n bs), .fz (msD w), .fz (msD v), .ow (.l ((w :: (List.range (rgD (rise w v) (-1) (rise w v - 0).toNat).length).map fun k => up (rise w v - 1 - (k : Nat)) w v).map msD)), s4, .nil])
    (fun i ρ => ∃ s5, ρ = [.fz (sysD n bs), .fz (msD w), .fz (msD v), .ow (.l (((w :: (List.range (rgD (rise w v) (-1) (rise w v - 0).toNat).length).map fun k => up (rise w v - 1 - (k : Nat)) w v) ++ (List.range i).map fun k => dn (rise v w - 1 - (k : Nat)) w v).map msD)), s4, s5]) ⟨_, by rw [show (List.range 0).map (fun k => dn (rise v w - 1 - (k : Nat)) w v) = [] from rfl, List.append_nil]⟩ (by
      rintro i d ρ hd ⟨s5, rfl⟩
      have hlt := (List.getElem?_eq_some_iff.mp hd).1
      rw [rgD_len] at hlt
      rw [rgD_get hlt] at hd
      cases hd
      refine ⟨_, rfl, ?_⟩
      rw [rgD_len]
      have last : atI (((w :: (List.range (rise w v - 0).toNat).map fun k => up (rise w v - 1 - (k : Nat)) w v) ++ (List.range i).map fun k => dn (rise v w - 1 - (k : Nat)) w v).map msD) (-1) = some (msD (dn (rise v w - (i : Nat)) w v)) := by
        refine atI_last ?_
        cases i with
        | zero =>
          rw [show dn (rise v w - ((0 : Nat) : Int)) w v = up 0 w v by rw [dn_top hl (by omega) (by omega), up_bot]]
          rw [show (List.range 0).map (fun k => dn (rise v w - 1 - (k : Nat)) w v) = [] from rfl, List.append_nil]
          cases hR : (rise w v - 0).toNat with
          | zero => rw [up_top hl (by omega)]; rfl
          | succ R =>
            rw [List.range_succ, List.map_append, ← List.cons_append, List.map_append]
            rw [show (0 : Int) = rise w v - 1 - (R : Int) by omega]
            exact List.getLast?_concat
        | succ i =>
          rw [List.range_succ, List.map_append (f := fun k => dn (rise v w - 1 - (k : Nat)) w v), ← List.append_assoc, List.map_append]
          rw [show rise v w - ((i + 1 : Nat) : Int) = rise v w - 1 - (i : Nat) by omega]
          exact List.getLast?_concat
      have lt : (((w :: (List.range (rise w v - 0).toNat).map fun k => up (rise w v - 1 - (k : Nat)) w v) ++ (List.range i).map fun k => dn (rise v w - 1 - (k : Nat)) w v).map msD).length < sizeLine := by simp; omega
      unfold x_walk_b1
      generalize hL : List.map msD ((w :: (List.range (rise w v - 0).toNat).map fun k => up (rise w v - 1 - (k : Nat)) w v) ++ (List.range i).map fun k => dn (rise v w - 1 - (k : Nat)) w v) = L at last lt ⊢
      simp only [FL.runD, FL.startZ, FL.outsZ, FL.finZ, FL.endZ, List.replicate, List.cons_append, List.nil_append, List.append_nil, FL.zSeq, FL.zIf, FL.zRet, FL.zRetN, FL.zNext, FL.zDrop, FL.zSet, FL.zAsg, FL.zPar, FL.zRaise, FL.zSt, FL.zFor, FL.zBreak, FL.zCont, FL.asgZ, FL.xVar, FL.xC, FL.xOp, FL.xUn, FL.xB, FL.xAnd, FL.xOr, FL.xNot, FL.xAndE, FL.xOrE, FL.xNotE, FL.xIf, FL.xChain, FL.xaNil, FL.xaCons, FL.peeksZ, FL.xCB, FL.frzB, FL.frzZ, FL.xfNil, FL.xfCons, FL.xTup, FL.xLst, FL.xoNone, FL.xoSome, FL.xSl, FL.xLc, FL.xYes, FL.xiSeq, FL.xiRg, FL.xiEnum, FL.xiZip, FL.xMt, FL.xCall, FL.xcNil, FL.xcFz, FL.xcBw, FL.xcAn, FL.zForN, FL.xLcN, FL.bkZ, FL.xcOw, FL.xcPerm, FL.resZ, FL.backZ, FL.toPwZ, FL.xIs, FL.xIs2, FL.xExc, FL.Rs.bind, FL.getZ, FL.setZ, FL.nilsZ, FL.zlD, FL.peekZ, FL.boolZ, FL.opZ, FL.conZ, FL.wrZ, DL.stl, DL.RR.vr, DL.Cn.d, DL.noOw, DL.permR, DL.nthR, DL.isInt, DL.isBool, DL.isStr, DL.isList, DL.isTuple, DL.isNoneD, FL.yN, FL.ysNil, FL.ysCons, FL.yT, FL.yI, FL.yIc, FL.ySub, FL.yLt, FL.yLe, FL.yGt, FL.yGe, FL.yMul, FL.yDiv, FL.yMod, FL.yPow, FL.yNeg, FL.yAdd, FL.yIsN, FL.yIsB, FL.yEq, FL.yInn, FL.yIx, FL.yLen, FL.yInt, FL.yAbs, FL.yMax, FL.yMin, FL.ySum, FL.yAll, FL.yAny, FL.yDivmod, FL.yList, FL.yTuple, FL.yMulS, FL.ySl, FL.fAppend, FL.fPop, FL.fPopAt, FL.fInsert, FL.fExtend, FL.fReverse, FL.fCount, FL.fIndex, if_pos, if_neg, Bool.not_true, Bool.not_false, Bool.xor_false, Bool.false_xor, Bool.xor_true, Bool.true_xor, if_true, if_false, Bool.false_eq_true, and_true, true_and, and_self, Option.isSome_some, Option.isSome_none, reduceIte, last, e_moved_down, lt]
      subst hL
      refine ⟨_, .inl rfl, .fz (.int (rise v w + (i : Nat) * -1)), ?_⟩
      have st := dn_step (a := w) (b := v) (r := rise v w - 1 - (i : Nat))
      rw [show rise v w - 1 - (i : Int) + 1 = rise v w - (i : Nat) by omega] at st
      rw [show rise v w + (i : Int) * -1 = rise v w - (i : Nat) by omega, st, List.range_succ (n := i)]
      simp only [List.map_append, List.map_cons, List.map_nil, List.cons_append, List.append_assoc])
  have e1 : forF (yN 4) x_walk_b2 (rgD (rise w v) (-1) (rise w v - 0).toNat) [.fz (sysD n bs), .fz (.tuple (w.map .int)), .fz (.tuple (v.map .int)), .ow (.l [.tuple (w.map .int)]), .nil, .nil] = _ := e1
  unfold F_walk x_walk
  simp only [FL.runD, FL.startZ, FL.outsZ, FL.finZ, FL.endZ, List.replicate, List.cons_append, List.nil_append, List.append_nil, FL.zSeq, FL.zIf, FL.zRet, FL.zRetN, FL.zNext, FL.zDrop, FL.zSet, FL.zAsg, FL.zPar, FL.zRaise, FL.zSt, FL.zFor, FL.zBreak, FL.zCont, FL.asgZ, FL.xVar, FL.xC, FL.xOp, FL.xUn, FL.xB, FL.xAnd, FL.xOr, FL.xNot, FL.xAndE, FL.xOrE, FL.xNotE, FL.xIf, FL.xChain, FL.xaNil, FL.xaCons, FL.peeksZ, FL.xCB, FL.frzB, FL.frzZ, FL.xfNil, FL.xfCons, FL.xTup, FL.xLst, FL.xoNone, FL.xoSome, FL.xSl, FL.xLc, FL.xYes, FL.xiSeq, FL.xiRg, FL.xiEnum, FL.xiZip, FL.xMt, FL.xCall, FL.xcNil, FL.xcFz, FL.xcBw, FL.xcAn, FL.zForN, FL.xLcN, FL.bkZ, FL.xcOw, FL.xcPerm, FL.resZ, FL.backZ, FL.toPwZ, FL.xIs, FL.xIs2, FL.xExc, FL.Rs.bind, FL.getZ, FL.setZ, FL.nilsZ, FL.zlD, FL.peekZ, FL.boolZ, FL.opZ, FL.conZ, FL.wrZ, DL.stl, DL.RR.vr, DL.Cn.d, DL.noOw, DL.permR, DL.nthR, DL.isInt, DL.isBool, DL.isStr, DL.isList, DL.isTuple, DL.isNoneD, FL.yN, FL.ysNil, FL.ysCons, FL.yT, FL.yI, FL.yIc, FL.ySub, FL.yLt, FL.yLe, FL.yGt, FL.yGe, FL.yMul, FL.yDiv, FL.yMod, FL.yPow, FL.yNeg, FL.yAdd, FL.yIsN, FL.yIsB, FL.yEq, FL.yInn, FL.yIx, FL.yLen, FL.yInt, FL.yAbs, FL.yMax, FL.yMin, FL.ySum, FL.yAll, FL.yAny, FL.yDivmod, FL.yList, FL.yTuple, FL.yMulS, FL.ySl, FL.fAppend, FL.fPop, FL.fPopAt, FL.fInsert, FL.fExtend, FL.fReverse, FL.fCount, FL.fIndex, if_pos, if_neg, Bool.not_true, Bool.not_false, Bool.xor_false, Bool.false_xor, Bool.xor_true, Bool.true_xor, if_true, if_false, Bool.false_eq_true, and_true, true_and, and_self, Option.isSome_some, Option.isSome_none, reduceIte, e_check_worlds hs hw hv, e_greatest_rise (show w.length ≤ 1000 by omega), e_greatest_rise (show v.length ≤ 1000 by omega), rg1, rg2, e1, e2]
  unfold way ups dns
  rw [rgD_len, rgD_len, show (rise w v - 0).toNat = (rise w v).toNat by omega, show (rise v w - 0).toNat = (rise v w).toNat by omega, show (((rise w v).toNat : Nat) : Int) = rise w v by omega, show (((rise v w).toNat : Nat) : Int) = rise v w by omega]
end FP
set_option Elab.async false
set_option linter.all false
set_option maxRecDepth 100000
set_option maxHeartbeats 4000000
namespace FP
open PySem PySem.Spec PyProof.Rows L2 DL FL
open PySem.SeqAt
/-! equal data -/
mutual
def nob : D → Bool
  | .none => true
  | .int _ => true
  | .str _ => true
  | .list xs => nobs xs
  | .tuple xs => nobs xs
  | .bool _ => false
  | .dict _ => false
def nobs : List D → Bool
  | [] => true
  | x :: xs => nob x && nobs xs
end
mutual
theorem eqv_nob : ∀ {x y : D}, nob x = true → nob y = true → PyData.eqv x y = true → x = y
  | .none, .none, _, _, _ => rfl
  | .int i, .int j, _, _, h => by
    have h : (i == j) = true := h
    rw [eq_of_beq h]
  | .str i, .str j, _, _, h => by
    have h : (i == j) = true := h
    rw [eq_of_beq h]
  | .list xs, .list ys, h1, h2, h => by
    have h : PyData.eqvAll xs ys = true := by simpa [PyData.eqv] using h
    rw [eqvs_nob (xs := xs) (ys := ys) (by simpa [nob] using h1) (by simpa [nob] using h2) h]
  | .tuple xs, .tuple ys, h1, h2, h => by
    have h : PyData.eqvAll xs ys = true := by simpa [PyData.eqv] using h
    rw [eqvs_nob (xs := xs) (ys := ys) (by simpa [nob] using h1) (by simpa [nob] using h2) h]
  | .bool _, _, h, _, _ => by simp [nob] at h
  | .dict _, _, h, _, _ => by simp [nob] at h
  | _, .bool _, _, h, _ => by simp [nob] at h
  | _, .dict _, _, h, _ => by simp [nob] at h
  | .none, .int _, _, _, h => by simp [PyData.eqv] at h
  | .none, .str _, _, _, h => by simp [PyData.eqv] at h
  | .none, .list _, _, _, h => by simp [PyData.eqv] at h
  | .none, .tuple _, _, _, h => by simp [PyData.eqv] at h
  | .int _, .none, _, _, h => by simp [PyData.eqv] at h
  | .int _, .str _, _, _, h => by simp [PyData.eqv] at h
  | .int _, .list _, _, _, h => by simp [PyData.eqv] at h
  | .int _, .tuple _, _, _, h => by simp [PyData.eqv] at h
  | .str _, .none, _, _, h => by simp [PyData.eqv] at h
  | .str _, .int _, _, _, h => by simp [PyData.eqv] at h
  | .str _, .list _, _, _, h => by simp [PyData.eqv] at h
  | .str _, .tuple _, _, _, h => by simp [PyData.eqv] at h
  | .list _, .none, _, _, h => by simp [PyData.eqv] at h
  | .list _, .int _, _, _, h => by simp [PyData.eqv] at h
  | .list _, .str _, _, _, h => by simp [PyData.eqv] at h
  | .list _, .tuple _, _, _, h => by simp [PyData.eqv] at h
  | .tuple _, .none, _, _, h => by simp [PyData.eqv] at h
  | .tuple _, .int _, _, _, h => by simp [PyData.eqv] at h
  | .tuple _, .str _, _, _, h => by simp [PyData.eqv] at h
  | .tuple _, .list _, _, _, h => by simp [PyData.eqv] at h
theorem eqvs_nob : ∀ {xs ys : List D}, nobs xs = true → nobs ys = true → PyData.eqvAll xs ys = true → xs = ys
  | [], [], _, _, _ => rfl
  | [], _ :: _, _, _, h => by simp [PyData.eqvAll] at h
  | _ :: _, [], _, _, h => by simp [PyData.eqvAll] at h
  | x :: xs, y :: ys, h1, h2, h => by
    have h : PyData.eqv x y = true ∧ PyData.eqvAll xs ys = true := by simpa [PyData.eqvAll] using h
    have h1 : nob x = true ∧ nobs xs = true := by simpa [nobs] using h1
    have h2 : nob y = true ∧ nobs ys = true := by simpa [nobs] using h2
    rw [eqv_nob h1.1 h2.1 h.1, eqvs_nob h1.2 h2.2 h.2]
end
theorem nobs_map {α : Type} {f : α → D} (h : ∀ x, nob (f x) = true) : ∀ xs : List α, nobs (xs.map f) = true
  | [] => rfl
  | x :: xs => by
    rw [List.map_cons]
    unfold nobs
    rw [h x, nobs_map h xs]; rfl
theorem nob_ms (ms : List Int) : nob (msD ms) = true := by
  unfold nob
  exact nobs_map (fun _ => rfl) ms
theorem eqv_same {d : D} {n : Nat} (h : lay n d) : PyData.eqv d d = true := eqv_refl d h.1
theorem msD_inj {ms ms' : List Int} (h : msD ms = msD ms') : ms = ms' := by
  injection h with h
  exact map_inj (fun a b h => by injection h) h
theorem eqv_ms (a b : List Int) : PyData.eqv (msD a) (msD b) = decide (a = b) := by
  by_cases h : a = b
  · subst h; rw [decide_eq_true rfl]; exact eqv_same (lay_ms a)
  · rw [decide_eq_false h]
    cases e : PyData.eqv (msD a) (msD b) with
    | false => rfl
    | true => exact absurd (msD_inj (eqv_nob (nob_ms a) (nob_ms b) e)) h
/-! xs[:-1] of xs + [x] -/
theorem cut_init {α : Type} (xs : List α) (x : α) : cutA (xs ++ [x]) none (some (-1)) = xs := by
  unfold cutA
  have e1 : HT.sIx (xs ++ [x]).length 0 none = 0 := rfl
  have e2 : HT.sIx (xs ++ [x]).length (xs ++ [x]).length (some (-1)) = xs.length := by
    unfold HT.sIx
    rw [List.length_append]
    simp only [List.length_cons, List.length_nil]
    rw [if_pos (by decide)]
    omega
  rw [e1, e2, List.drop_zero, Nat.sub_zero, List.take_left]
/-! the way is one of worlds, by moves -/
theorem wd_zip {n : Int} {bs : List Bd} {w v : List Int} {f : Int → Int → Int} (hs : okS n bs) (hw : Wd n bs w) (hv : Wd n bs v) (h0 : f 0 0 = 0) (hf : ∀ x y x' y' m : Int, x - x' ≤ m → y - y' ≤ m → f x y - f x' y' ≤ m) : Wd n bs (List.zipWith f w v) := by
  have hl : w.length = v.length := by have := hw.l; have := hv.l; omega
  refine ⟨?_, ?_, keeps_zip hl hw.l hs.2.2.2 hw.k hv.k hf⟩
  · obtain ⟨a, rfl⟩ := hw.h
    obtain ⟨b, rfl⟩ := hv.h
    exact ⟨List.zipWith f a b, by rw [List.zipWith_cons_cons, h0]⟩
  · rw [List.length_zipWith]; have := hw.l; omega
theorem wd_up {n r : Int} {bs : List Bd} {w v : List Int} (hs : okS n bs) (hw : Wd n bs w) (hv : Wd n bs v) (hr : 0 ≤ r) : Wd n bs (up r w v) :=
  wd_zip hs hw hv (by omega) fun x y x' y' m h1 h2 => by omega
theorem wd_dn {n r : Int} {bs : List Bd} {w v : List Int} (hs : okS n bs) (hw : Wd n bs w) (hv : Wd n bs v) (hr : 0 ≤ r) : Wd n bs (dn r w v) :=
  wd_zip hs hw hv (by omega) fun x y x' y' m h1 h2 => by omega
theorem wd_way {n : Int} {bs : List Bd} {w v : List Int} (hs : okS n bs) (hw : Wd n bs w) (hv : Wd n bs v) : ∀ x ∈ way w v, Wd n bs x := by
  intro x hx
  have n1 := rise_nn w v
  have n2 := rise_nn v w
  rcases List.mem_cons.mp hx with rfl | hx
  · exact hw
  · rcases List.mem_append.mp hx with hx | hx
    · obtain ⟨k, hk, rfl⟩ := List.mem_map.mp hx
      have := List.mem_range.mp hk
      exact wd_up hs hw hv (by omega)
    · obtain ⟨k, hk, rfl⟩ := List.mem_map.mp hx
      have := List.mem_range.mp hk
      exact wd_dn hs hw hv (by omega)
/-- the way by its number -/
theorem way_at {w v : List Int} (hl : w.length = v.length) : ∀ k : Nat, k ≤ (rise w v).toNat + (rise v w).toNat →
    (way w v)[k]? = some (if k ≤ (rise w v).toNat then up (rise w v - k) w v else dn (rise v w + rise w v - k) w v) := by
  intro k hk
  have n1 := rise_nn w v
  have n2 := rise_nn v w
  unfold way
  cases k with
  | zero => rw [if_pos (Nat.zero_le _)]; show some w = _; rw [up_top hl (by omega)]
  | succ k =>
    show (ups w v (rise w v).toNat ++ dns w v (rise v w).toNat)[k]? = _
    by_cases h : k + 1 ≤ (rise w v).toNat
    · rw [if_pos h, List.getElem?_append_left (by unfold ups; simp; omega)]
      unfold ups
      rw [List.getElem?_map, List.getElem?_range (by omega)]
      show some (up _ w v) = _
      congr 2; omega
    · rw [if_neg h, List.getElem?_append_right (by unfold ups; simp; omega)]
      unfold ups dns
      rw [List.length_map, List.length_range, List.getElem?_map, List.getElem?_range (by omega)]
      show some (dn _ w v) = _
      congr 2; omega
theorem way_len (w v : List Int) : (way w v).length = (rise w v).toNat + (rise v w).toNat + 1 := by
  unfold way ups dns; simp
/-- a move: all points that move do so by s -/
structure Mv (s : Int) (a b : List Int) : Prop where
  l : a.length = b.length
  e : ∀ (i : Nat) (x y : Int), a[i]? = some x → b[i]? = some y → y - x = 0 ∨ y - x = s
  x : ∃ (i : Nat) (x y : Int), a[i]? = some x ∧ b[i]? = some y ∧ y - x = s
theorem mv_up {w v : List Int} {r : Int} (hl : w.length = v.length) (h0 : 0 ≤ r) (h1 : r < rise w v) : Mv 1 (up (r + 1) w v) (up r w v) := by
  refine ⟨by rw [up_len hl, up_len hl], fun i x y hx hy => ?_, ?_⟩
  · unfold up at hx hy
    rw [List.getElem?_zipWith] at hx hy
    cases ha : w[i]? with
    | none => rw [ha] at hx; cases hx
    | some a =>
      cases hb : v[i]? with
      | none => rw [ha, hb] at hx; cases hx
      | some b =>
        rw [ha, hb] at hx hy
        cases hx; cases hy
        omega
  · obtain ⟨i, a, b, ha, hb, e⟩ := rise_ex (a := w) (b := v) (by omega)
    refine ⟨i, max a (b - (r + 1)), max a (b - r), ?_, ?_, by omega⟩
    · unfold up; rw [List.getElem?_zipWith, ha, hb]
    · unfold up; rw [List.getElem?_zipWith, ha, hb]
theorem mv_dn {w v : List Int} {r : Int} (hl : w.length = v.length) (h0 : 0 ≤ r) (h1 : r < rise v w) : Mv (-1) (dn (r + 1) w v) (dn r w v) := by
  refine ⟨by rw [dn_len hl, dn_len hl], fun i x y hx hy => ?_, ?_⟩
  · unfold dn at hx hy
    rw [List.getElem?_zipWith] at hx hy
    cases ha : w[i]? with
    | none => rw [ha] at hx; cases hx
    | some a =>
      cases hb : v[i]? with
      | none => rw [ha, hb] at hx; cases hx
      | some b =>
        rw [ha, hb] at hx hy
        cases hx; cases hy
        omega
  · obtain ⟨i, b, a, hb, ha, e⟩ := rise_ex (a := v) (b := w) (by omega)
    refine ⟨i, min (max a b) (b + (r + 1)), min (max a b) (b + r), ?_, ?_, by omega⟩
    · unfold dn; rw [List.getElem?_zipWith, ha, hb]
    · unfold dn; rw [List.getElem?_zipWith, ha, hb]
theorem way_mv {w v : List Int} (hl : w.length = v.length) {k : Nat} (h0 : 0 < k) (h1 : k ≤ (rise w v).toNat + (rise v w).toNat) : ∃ a b s, (way w v)[k - 1]? = some a ∧ (way w v)[k]? = some b ∧ (s = 1 ∨ s = -1) ∧ Mv s a b := by
  have n1 := rise_nn w v
  have n2 := rise_nn v w
  refine ⟨_, _, if k ≤ (rise w v).toNat then 1 else -1, way_at hl (k - 1) (by omega), way_at hl k h1, by split <;> simp, ?_⟩
  by_cases h : k ≤ (rise w v).toNat
  · rw [if_pos h, if_pos h, if_pos (by omega)]
    have := mv_up (r := rise w v - k) hl (by omega) (by omega)
    rw [show rise w v - ((k - 1 : Nat) : Int) = rise w v - k + 1 by omega]
    exact this
  · rw [if_neg h, if_neg h]
    have := mv_dn (r := rise v w + rise w v - k) hl (by omega) (by omega)
    by_cases h2 : k - 1 ≤ (rise w v).toNat
    · rw [if_pos h2]
      have e : rise w v - ((k - 1 : Nat) : Int) = 0 := by omega
      rw [e, up_bot, ← dn_top (a := w) (b := v) (r := rise v w) hl (Int.le_refl _) n2, show rise v w = rise v w + rise w v - k + 1 by omega]
      rw [show rise v w + rise w v - (k : Int) + 1 + rise w v - k = rise v w + rise w v - k by omega]
      exact this
    · rw [if_neg h2, show rise v w + rise w v - ((k - 1 : Nat) : Int) = rise v w + rise w v - k + 1 by omega]
      exact this
theorem way_last {w v : List Int} (hl : w.length = v.length) : (way w v).getLast? = some v := by
  have n1 := rise_nn w v
  have n2 := rise_nn v w
  rw [List.getLast?_eq_getElem?, way_len, Nat.add_sub_cancel, way_at hl _ (Nat.le_refl _)]
  congr 1
  split
  · rename_i h
    have h0 : rise v w = 0 := by omega
    rw [show rise w v - (((rise w v).toNat + (rise v w).toNat : Nat) : Int) = 0 by omega, up_bot, ← dn_top (a := w) (b := v) (r := 0) hl (by omega) (Int.le_refl _), dn_bot hl]
  · rw [show rise v w + rise w v - (((rise w v).toNat + (rise v w).toNat : Nat) : Int) = 0 by omega, dn_bot hl]
end FP
set_option Elab.async false
set_option linter.all false
set_option maxRecDepth 100000
set_option maxHeartbeats 4000000
namespace FP
open PySem PySem.Spec PyProof.Rows L2 DL FL
theorem e__law_whole (d : D) : F__law_whole [.fz d] = .ok (.fz (.bool (isIntg d))) [.fz d] := by
  cases d <;> rfl
theorem filter_none {α : Type} {p : α → Bool} {xs : List α} (h : ∀ x ∈ xs, p x = false) : xs.filter p = [] := by
  rw [List.filter_eq_nil_iff]
  intro x hx
  rw [h x hx]; exact Bool.false_ne_true
theorem filt_empty {α : Type} (p : α → Bool) : ∀ xs : List α, (xs.filter fun b => !p b).isEmpty = xs.all p
  | [] => rfl
  | x :: xs => by
    rw [List.filter_cons, List.all_cons]
    cases h : p x with
    | true => rw [Bool.true_and]; exact filt_empty p xs
    | false => rfl
theorem e__law_moments {n : Int} {bs : List Bd} {ms : List Int} (hl : (ms.length : Int) + 1 = n) : F__law_moments [.fz (sysD n bs), .fz (msD (0 :: ms))] = .ok (.fz (.bool true)) [.fz (sysD n bs), .fz (msD (0 :: ms))] := by
  have a0 : atI [PyData.int n, bsD bs] 0 = some (.int n) := rfl
  have a1 : atI (List.map PyData.int (0 :: ms)) 0 = some (.int 0) := atI_of (Int.le_refl _) rfl
  have lc := lcF_filt (g := yN 2) (tt := x__law_moments_q1) (te := x__law_moments_c2) (vs := [2]) (ρ := [.fz (sysD n bs), .fz (msD (0 :: ms)), .nil]) PyData.int PyData.int (fun _ => false) (0 :: ms) fun x _ => ⟨_, rfl, by
    unfold x__law_moments_q1
    simp only [FL.runD, FL.startZ, FL.outsZ, FL.finZ, FL.endZ, List.replicate, List.cons_append, List.nil_append, List.append_nil, FL.zSeq, FL.zIf, FL.zRet, FL.zRetN, FL.zNext, FL.zDrop, FL.zSet, FL.zAsg, FL.zPar, FL.zRaise, FL.zSt, FL.zFor, FL.zBreak, FL.zCont, FL.asgZ, FL.xVar, FL.xC, FL.xOp, FL.xUn, FL.xB, FL.xAnd, FL.xOr, FL.xNot, FL.xAndE, FL.xOrE, FL.xNotE, FL.xIf, FL.xChain, FL.xaNil, FL.xaCons, FL.peeksZ, FL.xCB, FL.frzB, FL.frzZ, FL.xfNil, FL.xfCons, FL.xTup, FL.xLst, FL.xoNone, FL.xoSome, FL.xSl, FL.xLc, FL.xYes, FL.xiSeq, FL.xiRg, FL.xiEnum, FL.xiZip, FL.xMt, FL.xCall, FL.xcNil, FL.xcFz, FL.xcBw, FL.xcAn, FL.zForN, FL.xLcN, FL.bkZ, FL.xcOw, FL.xcPerm, FL.resZ, FL.backZ, FL.toPwZ, FL.xIs, FL.xIs2, FL.xExc, FL.Rs.bind, FL.getZ, FL.setZ, FL.nilsZ, FL.zlD, FL.peekZ, FL.boolZ, FL.opZ, FL.conZ, FL.wrZ, DL.stl, DL.RR.vr, DL.Cn.d, DL.noOw, DL.permR, DL.nthR, DL.isInt, DL.isBool, DL.isStr, DL.isList, DL.isTuple, DL.isNoneD, FL.yN, FL.ysNil, FL.ysCons, FL.yT, FL.yI, FL.yIc, FL.ySub, FL.yLt, FL.yLe, FL.yGt, FL.yGe, FL.yMul, FL.yDiv, FL.yMod, FL.yPow, FL.yNeg, FL.yAdd, FL.yIsN, FL.yIsB, FL.yEq, FL.yInn, FL.yIx, FL.yLen, FL.yInt, FL.yAbs, FL.yMax, FL.yMin, FL.ySum, FL.yAll, FL.yAny, FL.yDivmod, FL.yList, FL.yTuple, FL.yMulS, FL.ySl, FL.fAppend, FL.fPop, FL.fPopAt, FL.fInsert, FL.fExtend, FL.fReverse, FL.fCount, FL.fIndex, if_pos, if_neg, Bool.not_true, Bool.not_false, Bool.xor_false, Bool.false_xor, Bool.xor_true, Bool.true_xor, if_true, if_false, Bool.false_eq_true, and_true, true_and, and_self, Option.isSome_some, Option.isSome_none, reduceIte, e__law_whole, isIntg], (fun h => by cases h), rfl⟩
  rw [filter_none (fun _ _ => rfl)] at lc
  have len : (((0 :: ms).map PyData.int).length : Int) = n := by rw [List.length_map, List.length_cons]; omega
  unfold F__law_moments x__law_moments
  simp only [FL.runD, FL.startZ, FL.outsZ, FL.finZ, FL.endZ, List.replicate, List.cons_append, List.nil_append, List.append_nil, FL.zSeq, FL.zIf, FL.zRet, FL.zRetN, FL.zNext, FL.zDrop, FL.zSet, FL.zAsg, FL.zPar, FL.zRaise, FL.zSt, FL.zFor, FL.zBreak, FL.zCont, FL.asgZ, FL.xVar, FL.xC, FL.xOp, FL.xUn, FL.xB, FL.xAnd, FL.xOr, FL.xNot, FL.xAndE, FL.xOrE, FL.xNotE, FL.xIf, FL.xChain, FL.xaNil, FL.xaCons, FL.peeksZ, FL.xCB, FL.frzB, FL.frzZ, FL.xfNil, FL.xfCons, FL.xTup, FL.xLst, FL.xoNone, FL.xoSome, FL.xSl, FL.xLc, FL.xYes, FL.xiSeq, FL.xiRg, FL.xiEnum, FL.xiZip, FL.xMt, FL.xCall, FL.xcNil, FL.xcFz, FL.xcBw, FL.xcAn, FL.zForN, FL.xLcN, FL.bkZ, FL.xcOw, FL.xcPerm, FL.resZ, FL.backZ, FL.toPwZ, FL.xIs, FL.xIs2, FL.xExc, FL.Rs.bind, FL.getZ, FL.setZ, FL.nilsZ, FL.zlD, FL.peekZ, FL.boolZ, FL.opZ, FL.conZ, FL.wrZ, DL.stl, DL.RR.vr, DL.Cn.d, DL.noOw, DL.permR, DL.nthR, DL.isInt, DL.isBool, DL.isStr, DL.isList, DL.isTuple, DL.isNoneD, FL.yN, FL.ysNil, FL.ysCons, FL.yT, FL.yI, FL.yIc, FL.ySub, FL.yLt, FL.yLe, FL.yGt, FL.yGe, FL.yMul, FL.yDiv, FL.yMod, FL.yPow, FL.yNeg, FL.yAdd, FL.yIsN, FL.yIsB, FL.yEq, FL.yInn, FL.yIx, FL.yLen, FL.yInt, FL.yAbs, FL.yMax, FL.yMin, FL.ySum, FL.yAll, FL.yAny, FL.yDivmod, FL.yList, FL.yTuple, FL.yMulS, FL.ySl, FL.fAppend, FL.fPop, FL.fPopAt, FL.fInsert, FL.fExtend, FL.fReverse, FL.fCount, FL.fIndex, if_pos, if_neg, Bool.not_true, Bool.not_false, Bool.xor_false, Bool.false_xor, Bool.xor_true, Bool.true_xor, if_true, if_false, Bool.false_eq_true, and_true, true_and, and_self, Option.isSome_some, Option.isSome_none, reduceIte, a0, sh_int, eqv_int, len, decide_true, lc, List.map_nil, sh_nil, eqv_nil, List.isEmpty_nil, a1]
theorem e__law_keeps {n : Int} {bs : List Bd} {w : List Int} (hs : okS n bs) (hl : (w.length : Int) = n) : F__law_keeps [.fz (sysD n bs), .fz (.list (w.map .int))] = .ok (.fz (.bool (bs.all (keepB w)))) [.fz (sysD n bs), .fz (.list (w.map .int))] := by
  have a1 : atI [PyData.int n, bsD bs] 1 = some (bsD bs) := rfl
  have lc := lcF_filt (g := yN 2) (tt := x__law_keeps_q1) (te := x__law_keeps_c2) (vs := [2]) (ρ := [.fz (sysD n bs), .fz (.list (w.map .int)), .nil]) bD bD (fun b => !keepB w b) bs fun b hb => by
    obtain ⟨h1, h2, h3, h4, _⟩ := hs.2.2.2 b hb
    have b0 : atI [PyData.int b.1, .int b.2.1, .int b.2.2] 0 = some (.int b.1) := rfl
    have b1 : atI [PyData.int b.1, .int b.2.1, .int b.2.2] 1 = some (.int b.2.1) := rfl
    have b2 : atI [PyData.int b.1, .int b.2.1, .int b.2.2] 2 = some (.int b.2.2) := rfl
    refine ⟨_, rfl, ?_, fun _ => rfl, rfl⟩
    unfold x__law_keeps_q1
    simp only [FL.runD, FL.startZ, FL.outsZ, FL.finZ, FL.endZ, List.replicate, List.cons_append, List.nil_append, List.append_nil, FL.zSeq, FL.zIf, FL.zRet, FL.zRetN, FL.zNext, FL.zDrop, FL.zSet, FL.zAsg, FL.zPar, FL.zRaise, FL.zSt, FL.zFor, FL.zBreak, FL.zCont, FL.asgZ, FL.xVar, FL.xC, FL.xOp, FL.xUn, FL.xB, FL.xAnd, FL.xOr, FL.xNot, FL.xAndE, FL.xOrE, FL.xNotE, FL.xIf, FL.xChain, FL.xaNil, FL.xaCons, FL.peeksZ, FL.xCB, FL.frzB, FL.frzZ, FL.xfNil, FL.xfCons, FL.xTup, FL.xLst, FL.xoNone, FL.xoSome, FL.xSl, FL.xLc, FL.xYes, FL.xiSeq, FL.xiRg, FL.xiEnum, FL.xiZip, FL.xMt, FL.xCall, FL.xcNil, FL.xcFz, FL.xcBw, FL.xcAn, FL.zForN, FL.xLcN, FL.bkZ, FL.xcOw, FL.xcPerm, FL.resZ, FL.backZ, FL.toPwZ, FL.xIs, FL.xIs2, FL.xExc, FL.Rs.bind, FL.getZ, FL.setZ, FL.nilsZ, FL.zlD, FL.peekZ, FL.boolZ, FL.opZ, FL.conZ, FL.wrZ, DL.stl, DL.RR.vr, DL.Cn.d, DL.noOw, DL.permR, DL.nthR, DL.isInt, DL.isBool, DL.isStr, DL.isList, DL.isTuple, DL.isNoneD, FL.yN, FL.ysNil, FL.ysCons, FL.yT, FL.yI, FL.yIc, FL.ySub, FL.yLt, FL.yLe, FL.yGt, FL.yGe, FL.yMul, FL.yDiv, FL.yMod, FL.yPow, FL.yNeg, FL.yAdd, FL.yIsN, FL.yIsB, FL.yEq, FL.yInn, FL.yIx, FL.yLen, FL.yInt, FL.yAbs, FL.yMax, FL.yMin, FL.ySum, FL.yAll, FL.yAny, FL.yDivmod, FL.yList, FL.yTuple, FL.yMulS, FL.ySl, FL.fAppend, FL.fPop, FL.fPopAt, FL.fInsert, FL.fExtend, FL.fReverse, FL.fCount, FL.fIndex, if_pos, if_neg, Bool.not_true, Bool.not_false, Bool.xor_false, Bool.false_xor, Bool.xor_true, Bool.true_xor, if_true, if_false, Bool.false_eq_true, and_true, true_and, and_self, Option.isSome_some, Option.isSome_none, reduceIte, b0, b1, b2, at_ms (ms := w) h1 (by omega), at_ms (ms := w) h3 (by omega)]
    have : decide (b.2.2 < mAt w b.1 - mAt w b.2.1) = !keepB w b := by
      unfold keepB
      rw [← decide_not]
      exact decide_eq_decide.mpr (by omega)
    rw [this]
  have sh : SeqAt.shaped (.list ((bs.filter fun b => !keepB w b).map bD)) = true := shaped_lay (n := 2) (lay_list fun d hd => by
    obtain ⟨b, _, rfl⟩ := List.mem_map.mp hd
    exact lay_b b) (by decide)
  have em : ((bs.filter fun b => !keepB w b).map bD).isEmpty = bs.all (keepB w) := by rw [List.isEmpty_map, filt_empty]
  unfold F__law_keeps x__law_keeps
  simp only [FL.runD, FL.startZ, FL.outsZ, FL.finZ, FL.endZ, List.replicate, List.cons_append, List.nil_append, List.append_nil, FL.zSeq, FL.zIf, FL.zRet, FL.zRetN, FL.zNext, FL.zDrop, FL.zSet, FL.zAsg, FL.zPar, FL.zRaise, FL.zSt, FL.zFor, FL.zBreak, FL.zCont, FL.asgZ, FL.xVar, FL.xC, FL.xOp, FL.xUn, FL.xB, FL.xAnd, FL.xOr, FL.xNot, FL.xAndE, FL.xOrE, FL.xNotE, FL.xIf, FL.xChain, FL.xaNil, FL.xaCons, FL.peeksZ, FL.xCB, FL.frzB, FL.frzZ, FL.xfNil, FL.xfCons, FL.xTup, FL.xLst, FL.xoNone, FL.xoSome, FL.xSl, FL.xLc, FL.xYes, FL.xiSeq, FL.xiRg, FL.xiEnum, FL.xiZip, FL.xMt, FL.xCall, FL.xcNil, FL.xcFz, FL.xcBw, FL.xcAn, FL.zForN, FL.xLcN, FL.bkZ, FL.xcOw, FL.xcPerm, FL.resZ, FL.backZ, FL.toPwZ, FL.xIs, FL.xIs2, FL.xExc, FL.Rs.bind, FL.getZ, FL.setZ, FL.nilsZ, FL.zlD, FL.peekZ, FL.boolZ, FL.opZ, FL.conZ, FL.wrZ, DL.stl, DL.RR.vr, DL.Cn.d, DL.noOw, DL.permR, DL.nthR, DL.isInt, DL.isBool, DL.isStr, DL.isList, DL.isTuple, DL.isNoneD, FL.yN, FL.ysNil, FL.ysCons, FL.yT, FL.yI, FL.yIc, FL.ySub, FL.yLt, FL.yLe, FL.yGt, FL.yGe, FL.yMul, FL.yDiv, FL.yMod, FL.yPow, FL.yNeg, FL.yAdd, FL.yIsN, FL.yIsB, FL.yEq, FL.yInn, FL.yIx, FL.yLen, FL.yInt, FL.yAbs, FL.yMax, FL.yMin, FL.ySum, FL.yAll, FL.yAny, FL.yDivmod, FL.yList, FL.yTuple, FL.yMulS, FL.ySl, FL.fAppend, FL.fPop, FL.fPopAt, FL.fInsert, FL.fExtend, FL.fReverse, FL.fCount, FL.fIndex, if_pos, if_neg, Bool.not_true, Bool.not_false, Bool.xor_false, Bool.false_xor, Bool.xor_true, Bool.true_xor, if_true, if_false, Bool.false_eq_true, and_true, true_and, and_self, Option.isSome_some, Option.isSome_none, reduceIte, a1, lc, sh, sh_nil, eqv_nil, em]
/-! moves -/
theorem e__law_is_move {a b : List Int} {s : Int} (ha : ∃ l, a = 0 :: l) (hb : ∃ l, b = 0 :: l) (hs : s = 1 ∨ s = -1) (hm : Mv s a b) : F__law_is_move [.fz (msD a), .fz (msD b)] = .ok (.fz (.bool true)) [.fz (msD a), .fz (msD b)] := by
  have lc := lcF_filt (g := yT (ysCons (yN 3) (ysCons (yN 4) ysNil))) (tt := x__law_is_move_q1) (te := x__law_is_move_c2) (vs := [3, 4]) (ρ := [.fz (msD a), .fz (msD b), .nil, .nil, .nil]) pr (fun p => .int (p.2 - p.1)) (fun p => !decide (p.2 = p.1)) (List.zip a b) fun p _ => ⟨_, rfl, by
    unfold x__law_is_move_q1
    simp only [FL.runD, FL.startZ, FL.outsZ, FL.finZ, FL.endZ, List.replicate, List.cons_append, List.nil_append, List.append_nil, FL.zSeq, FL.zIf, FL.zRet, FL.zRetN, FL.zNext, FL.zDrop, FL.zSet, FL.zAsg, FL.zPar, FL.zRaise, FL.zSt, FL.zFor, FL.zBreak, FL.zCont, FL.asgZ, FL.xVar, FL.xC, FL.xOp, FL.xUn, FL.xB, FL.xAnd, FL.xOr, FL.xNot, FL.xAndE, FL.xOrE, FL.xNotE, FL.xIf, FL.xChain, FL.xaNil, FL.xaCons, FL.peeksZ, FL.xCB, FL.frzB, FL.frzZ, FL.xfNil, FL.xfCons, FL.xTup, FL.xLst, FL.xoNone, FL.xoSome, FL.xSl, FL.xLc, FL.xYes, FL.xiSeq, FL.xiRg, FL.xiEnum, FL.xiZip, FL.xMt, FL.xCall, FL.xcNil, FL.xcFz, FL.xcBw, FL.xcAn, FL.zForN, FL.xLcN, FL.bkZ, FL.xcOw, FL.xcPerm, FL.resZ, FL.backZ, FL.toPwZ, FL.xIs, FL.xIs2, FL.xExc, FL.Rs.bind, FL.getZ, FL.setZ, FL.nilsZ, FL.zlD, FL.peekZ, FL.boolZ, FL.opZ, FL.conZ, FL.wrZ, DL.stl, DL.RR.vr, DL.Cn.d, DL.noOw, DL.permR, DL.nthR, DL.isInt, DL.isBool, DL.isStr, DL.isList, DL.isTuple, DL.isNoneD, FL.yN, FL.ysNil, FL.ysCons, FL.yT, FL.yI, FL.yIc, FL.ySub, FL.yLt, FL.yLe, FL.yGt, FL.yGe, FL.yMul, FL.yDiv, FL.yMod, FL.yPow, FL.yNeg, FL.yAdd, FL.yIsN, FL.yIsB, FL.yEq, FL.yInn, FL.yIx, FL.yLen, FL.yInt, FL.yAbs, FL.yMax, FL.yMin, FL.ySum, FL.yAll, FL.yAny, FL.yDivmod, FL.yList, FL.yTuple, FL.yMulS, FL.ySl, FL.fAppend, FL.fPop, FL.fPopAt, FL.fInsert, FL.fExtend, FL.fReverse, FL.fCount, FL.fIndex, if_pos, if_neg, Bool.not_true, Bool.not_false, Bool.xor_false, Bool.false_xor, Bool.xor_true, Bool.true_xor, if_true, if_false, Bool.false_eq_true, and_true, true_and, and_self, Option.isSome_some, Option.isSome_none, reduceIte, sh_int, eqv_int], fun _ => rfl, rfl⟩
  rw [← zipD_ints] at lc
  have rep : ∃ k : Nat, ((List.zip a b).filter fun p => !decide (p.2 = p.1)).map (fun p => PyData.int (p.2 - p.1)) = List.replicate (k + 1) (.int s) := by
    have h1 : ∀ d ∈ ((List.zip a b).filter fun p => !decide (p.2 = p.1)).map (fun p => PyData.int (p.2 - p.1)), d = .int s := by
      intro d hd
      obtain ⟨p, hp, rfl⟩ := List.mem_map.mp hd
      obtain ⟨hp1, hp2⟩ := List.mem_filter.mp hp
      obtain ⟨i, hi⟩ := List.mem_iff_getElem?.mp hp1
      rw [List.getElem?_zip_eq_some] at hi
      have := hm.e i p.1 p.2 hi.1 hi.2
      have h2 : p.2 ≠ p.1 := by simpa using hp2
      congr 1; omega
    have h2 := List.eq_replicate_of_mem h1
    rw [h2]
    obtain ⟨i, x, y, hx, hy, e⟩ := hm.x
    have hmem : (x, y) ∈ (List.zip a b).filter fun p => !decide (p.2 = p.1) := by
      refine List.mem_filter.mpr ⟨List.mem_iff_getElem?.mpr ⟨i, List.getElem?_zip_eq_some.mpr ⟨hx, hy⟩⟩, ?_⟩
      have : y ≠ x := by omega
      simpa using this
    have hpos := List.length_pos_of_mem hmem
    refine ⟨((List.zip a b).filter fun p => !decide (p.2 = p.1)).length - 1, ?_⟩
    rw [List.length_map]
    congr 1; omega
  obtain ⟨k, hk⟩ := rep
  rw [hk] at lc
  obtain ⟨l, rfl⟩ := ha
  obtain ⟨m, rfl⟩ := hb
  have a0 : atI (List.map PyData.int (0 :: l)) 0 = some (.int 0) := atI_of (Int.le_refl _) rfl
  have b0 : atI (List.map PyData.int (0 :: m)) 0 = some (.int 0) := atI_of (Int.le_refl _) rfl
  have s0 : atI (List.replicate (k + 1) (PyData.int s)) 0 = some (.int s) := atI_of (Int.le_refl _) rfl
  have sh : SeqAt.shaped (.list (List.replicate (k + 1) (PyData.int s))) = true := shaped_lay (n := 1) (lay_list fun d hd => by rw [List.eq_of_mem_replicate hd]; exact lay_int s) (by decide)
  have em : (List.replicate (k + 1) (PyData.int s)).isEmpty = false := rfl
  have ab : (if s < 0 then -s else s) = 1 := by split <;> omega
  have cn : (List.countP (fun z => PyData.eqv z (.int s)) (List.replicate (k + 1) (PyData.int s))) = k + 1 := by
    rw [List.countP_replicate, eqv_int]; simp
  unfold F__law_is_move x__law_is_move
  generalize hR : List.replicate (k + 1) (PyData.int s) = R at *
  have len : R.length = k + 1 := by rw [← hR, List.length_replicate]
  simp only [FL.runD, FL.startZ, FL.outsZ, FL.finZ, FL.endZ, List.replicate, List.cons_append, List.nil_append, List.append_nil, FL.zSeq, FL.zIf, FL.zRet, FL.zRetN, FL.zNext, FL.zDrop, FL.zSet, FL.zAsg, FL.zPar, FL.zRaise, FL.zSt, FL.zFor, FL.zBreak, FL.zCont, FL.asgZ, FL.xVar, FL.xC, FL.xOp, FL.xUn, FL.xB, FL.xAnd, FL.xOr, FL.xNot, FL.xAndE, FL.xOrE, FL.xNotE, FL.xIf, FL.xChain, FL.xaNil, FL.xaCons, FL.peeksZ, FL.xCB, FL.frzB, FL.frzZ, FL.xfNil, FL.xfCons, FL.xTup, FL.xLst, FL.xoNone, FL.xoSome, FL.xSl, FL.xLc, FL.xYes, FL.xiSeq, FL.xiRg, FL.xiEnum, FL.xiZip, FL.xMt, FL.xCall, FL.xcNil, FL.xcFz, FL.xcBw, FL.xcAn, FL.zForN, FL.xLcN, FL.bkZ, FL.xcOw, FL.xcPerm, FL.resZ, FL.backZ, FL.toPwZ, FL.xIs, FL.xIs2, FL.xExc, FL.Rs.bind, FL.getZ, FL.setZ, FL.nilsZ, FL.zlD, FL.peekZ, FL.boolZ, FL.opZ, FL.conZ, FL.wrZ, DL.stl, DL.RR.vr, DL.Cn.d, DL.noOw, DL.permR, DL.nthR, DL.isInt, DL.isBool, DL.isStr, DL.isList, DL.isTuple, DL.isNoneD, FL.yN, FL.ysNil, FL.ysCons, FL.yT, FL.yI, FL.yIc, FL.ySub, FL.yLt, FL.yLe, FL.yGt, FL.yGe, FL.yMul, FL.yDiv, FL.yMod, FL.yPow, FL.yNeg, FL.yAdd, FL.yIsN, FL.yIsB, FL.yEq, FL.yInn, FL.yIx, FL.yLen, FL.yInt, FL.yAbs, FL.yMax, FL.yMin, FL.ySum, FL.yAll, FL.yAny, FL.yDivmod, FL.yList, FL.yTuple, FL.yMulS, FL.ySl, FL.fAppend, FL.fPop, FL.fPopAt, FL.fInsert, FL.fExtend, FL.fReverse, FL.fCount, FL.fIndex, if_pos, if_neg, Bool.not_true, Bool.not_false, Bool.xor_false, Bool.false_xor, Bool.xor_true, Bool.true_xor, if_true, if_false, Bool.false_eq_true, and_true, true_and, and_self, Option.isSome_some, Option.isSome_none, reduceIte, lc, sh, sh_nil, eqv_nil, em, a0, b0, s0, sh_int, eqv_int, decide_true, ab, cn, len]
end FP
set_option Elab.async false
set_option linter.all false
set_option maxRecDepth 100000
set_option maxHeartbeats 4000000
namespace FP
open PySem PySem.Spec PyProof.Rows L2 DL FL
theorem lay_way (l : List (List Int)) : lay 2 (.list (l.map msD)) := lay_list fun d hd => by
  obtain ⟨x, _, rfl⟩ := List.mem_map.mp hd
  exact lay_ms x
theorem e__law_walk_right {n : Int} {bs : List Bd} {w v : List Int} (hs : okS n bs) (hw : Wd n bs w) (hv : Wd n bs v) (h1 : rise w v ≤ 1000) (h2 : rise v w ≤ 1000) :
    F__law_walk_right [.fz (sysD n bs), .fz (msD w), .fz (msD v)] = .ok (.fz (.bool true)) [.fz (sysD n bs), .fz (msD w), .fz (msD v)] := by
  have hl : w.length = v.length := by have := hw.l; have := hv.l; omega
  have hz := szl
  have n1 := rise_nn w v
  have n2 := rise_nn v w
  have l1 := hw.l
  have l2 := hv.l
  have l3 := hs.2.1
  have lc1 := lc_zip (vs := [8, 9]) (ρ := [.fz (sysD n bs), .fz (msD w), .fz (msD v), .nil, .nil, .nil, .nil, .nil, .nil, .nil]) (g := yT (ysCons (yN 8) (ysCons (yN 9) ysNil))) (te := x__law_walk_right_c6) (fun x y => y - x) w v fun x y => ⟨_, rfl, rfl, rfl⟩
  have lc2 := lc_zip (vs := [8, 9]) (ρ := [.fz (sysD n bs), .fz (msD w), .fz (msD v), .fz (.int (rise w v)), .nil, .nil, .nil, .nil, .nil, .nil]) (g := yT (ysCons (yN 8) (ysCons (yN 9) ysNil))) (te := x__law_walk_right_c5) (fun x y => x - y) w v fun x y => ⟨_, rfl, rfl, rfl⟩
  have sw : List.zipWith (fun x y => x - y) w v = List.zipWith (fun x y => y - x) v w := List.zipWith_comm
  rw [sw] at lc2
  have sz1 : [PyData.int 0].length + (List.map PyData.int (List.zipWith (fun x y => y - x) w v)).length ≤ sizeLine := by
    rw [List.length_map, List.length_zipWith]; simp only [List.length_cons, List.length_nil]; omega
  have sz2 : [PyData.int 0].length + (List.map PyData.int (List.zipWith (fun x y => y - x) v w)).length ≤ sizeLine := by
    rw [List.length_map, List.length_zipWith]; simp only [List.length_cons, List.length_nil]; omega
  have ii : ∀ w v : List Int, intsOf (PyData.int 0 :: List.map PyData.int (List.zipWith (fun x y => y - x) w v)) = some (0 :: List.zipWith (fun x y => y - x) w v) := fun w v => intsOf_ints (0 :: _)
  have hway := wd_way hs hw hv
  generalize hW : way w v = W at *
  have hlen : W.length = (rise w v).toNat + (rise v w).toNat + 1 := by rw [← hW, way_len]
  have len : ((W.map msD).length : Int) = rise w v + rise v w + 1 := by rw [List.length_map, hlen]; omega
  have a0 : atI (W.map msD) 0 = some (msD w) := atI_of (Int.le_refl _) (by rw [← hW]; rfl)
  have a1 : atI (W.map msD) (-1) = some (msD v) := atI_last (by rw [List.getLast?_map, ← hW, way_last hl]; rfl)
  have lc3 := lcF_filt (g := yN 6) (tt := x__law_walk_right_q3) (te := x__law_walk_right_c4) (vs := [6]) (ρ := [.fz (sysD n bs), .fz (msD w), .fz (msD v), .fz (.int (rise w v)), .fz (.int (rise v w)), .xa, .nil, .nil, .nil, .nil]) msD msD (fun _ => false) W fun x hx => ⟨_, rfl, by
    have hx := hway x hx
    obtain ⟨⟨l, rfl⟩, hxl, hxk⟩ := id hx
    unfold x__law_walk_right_q3
    simp only [FL.runD, FL.startZ, FL.outsZ, FL.finZ, FL.endZ, List.replicate, List.cons_append, List.nil_append, List.append_nil, FL.zSeq, FL.zIf, FL.zRet, FL.zRetN, FL.zNext, FL.zDrop, FL.zSet, FL.zAsg, FL.zPar, FL.zRaise, FL.zSt, FL.zFor, FL.zBreak, FL.zCont, FL.asgZ, FL.xVar, FL.xC, FL.xOp, FL.xUn, FL.xB, FL.xAnd, FL.xOr, FL.xNot, FL.xAndE, FL.xOrE, FL.xNotE, FL.xIf, FL.xChain, FL.xaNil, FL.xaCons, FL.peeksZ, FL.xCB, FL.frzB, FL.frzZ, FL.xfNil, FL.xfCons, FL.xTup, FL.xLst, FL.xoNone, FL.xoSome, FL.xSl, FL.xLc, FL.xYes, FL.xiSeq, FL.xiRg, FL.xiEnum, FL.xiZip, FL.xMt, FL.xCall, FL.xcNil, FL.xcFz, FL.xcBw, FL.xcAn, FL.zForN, FL.xLcN, FL.bkZ, FL.xcOw, FL.xcPerm, FL.resZ, FL.backZ, FL.toPwZ, FL.xIs, FL.xIs2, FL.xExc, FL.Rs.bind, FL.getZ, FL.setZ, FL.nilsZ, FL.zlD, FL.peekZ, FL.boolZ, FL.opZ, FL.conZ, FL.wrZ, DL.stl, DL.RR.vr, DL.Cn.d, DL.noOw, DL.permR, DL.nthR, DL.isInt, DL.isBool, DL.isStr, DL.isList, DL.isTuple, DL.isNoneD, FL.yN, FL.ysNil, FL.ysCons, FL.yT, FL.yI, FL.yIc, FL.ySub, FL.yLt, FL.yLe, FL.yGt, FL.yGe, FL.yMul, FL.yDiv, FL.yMod, FL.yPow, FL.yNeg, FL.yAdd, FL.yIsN, FL.yIsB, FL.yEq, FL.yInn, FL.yIx, FL.yLen, FL.yInt, FL.yAbs, FL.yMax, FL.yMin, FL.ySum, FL.yAll, FL.yAny, FL.yDivmod, FL.yList, FL.yTuple, FL.yMulS, FL.ySl, FL.fAppend, FL.fPop, FL.fPopAt, FL.fInsert, FL.fExtend, FL.fReverse, FL.fCount, FL.fIndex, if_pos, if_neg, Bool.not_true, Bool.not_false, Bool.xor_false, Bool.false_xor, Bool.xor_true, Bool.true_xor, if_true, if_false, Bool.false_eq_true, and_true, true_and, and_self, Option.isSome_some, Option.isSome_none, reduceIte, e_is_worldW hs hx, e__law_moments (show (l.length : Int) + 1 = n by rw [List.length_cons] at hxl; omega)], (fun h => by cases h), rfl⟩
  rw [filter_none (fun _ _ => rfl)] at lc3
  have rgm : rgZ [SD.d (.int 1), .d (.int (W.map msD).length)] = some (rgD 1 1 ((W.map msD).length - 1 : Int).toNat) := rg_2 (by omega)
  have lc4 : lcF (yN 7) x__law_walk_right_q1 x__law_walk_right_c2 [7] (rgD 1 1 ((W.map msD).length - 1 : Int).toNat) [.fz (sysD n bs), .fz (msD w), .fz (msD v), .fz (.int (rise w v)), .fz (.int (rise v w)), .ow (.l (W.map msD)), .nil, .nil, .nil, .nil] = .ok [] [.fz (sysD n bs), .fz (msD w), .fz (msD v), .fz (.int (rise w v)), .fz (.int (rise v w)), .ow (.l (W.map msD)), .nil, .nil, .nil, .nil] := by
    have := lcF_filt (g := yN 7) (tt := x__law_walk_right_q1) (te := x__law_walk_right_c2) (vs := [7]) (ρ := [.fz (sysD n bs), .fz (msD w), .fz (msD v), .fz (.int (rise w v)), .fz (.int (rise v w)), .ow (.l (W.map msD)), .nil, .nil, .nil, .nil]) (fun i : Nat => PyData.int (1 + (i : Nat) * 1)) (fun i => .int (1 + (i : Nat) * 1)) (fun _ => false) (List.range ((W.map msD).length - 1 : Int).toNat) fun i hi => ⟨_, rfl, by
      have hi := List.mem_range.mp hi
      rw [len] at hi
      obtain ⟨a, b, s, ha, hb, hs1, hm⟩ := way_mv hl (k := i + 1) (by omega) (by omega)
      rw [hW] at ha hb
      have wa := (hway a (List.mem_of_getElem? ha)).h
      have wb := (hway b (List.mem_of_getElem? hb)).h
      have ea : atI (W.map msD) (1 + (i : Int) * 1 - 1) = some (msD a) := atI_of (by omega) (by
        rw [show (1 + (i : Int) * 1 - 1).toNat = i + 1 - 1 by omega, List.getElem?_map, ha]; rfl)
      have eb : atI (W.map msD) (1 + (i : Int) * 1) = some (msD b) := atI_of (by omega) (by
        rw [show (1 + (i : Int) * 1).toNat = i + 1 by omega, List.getElem?_map, hb]; rfl)
      unfold x__law_walk_right_q1
      simp only [FL.runD, FL.startZ, FL.outsZ, FL.finZ, FL.endZ, List.replicate, List.cons_append, List.nil_append, List.append_nil, FL.zSeq, FL.zIf, FL.zRet, FL.zRetN, FL.zNext, FL.zDrop, FL.zSet, FL.zAsg, FL.zPar, FL.zRaise, FL.zSt, FL.zFor, FL.zBreak, FL.zCont, FL.asgZ, FL.xVar, FL.xC, FL.xOp, FL.xUn, FL.xB, FL.xAnd, FL.xOr, FL.xNot, FL.xAndE, FL.xOrE, FL.xNotE, FL.xIf, FL.xChain, FL.xaNil, FL.xaCons, FL.peeksZ, FL.xCB, FL.frzB, FL.frzZ, FL.xfNil, FL.xfCons, FL.xTup, FL.xLst, FL.xoNone, FL.xoSome, FL.xSl, FL.xLc, FL.xYes, FL.xiSeq, FL.xiRg, FL.xiEnum, FL.xiZip, FL.xMt, FL.xCall, FL.xcNil, FL.xcFz, FL.xcBw, FL.xcAn, FL.zForN, FL.xLcN, FL.bkZ, FL.xcOw, FL.xcPerm, FL.resZ, FL.backZ, FL.toPwZ, FL.xIs, FL.xIs2, FL.xExc, FL.Rs.bind, FL.getZ, FL.setZ, FL.nilsZ, FL.zlD, FL.peekZ, FL.boolZ, FL.opZ, FL.conZ, FL.wrZ, DL.stl, DL.RR.vr, DL.Cn.d, DL.noOw, DL.permR, DL.nthR, DL.isInt, DL.isBool, DL.isStr, DL.isList, DL.isTuple, DL.isNoneD, FL.yN, FL.ysNil, FL.ysCons, FL.yT, FL.yI, FL.yIc, FL.ySub, FL.yLt, FL.yLe, FL.yGt, FL.yGe, FL.yMul, FL.yDiv, FL.yMod, FL.yPow, FL.yNeg, FL.yAdd, FL.yIsN, FL.yIsB, FL.yEq, FL.yInn, FL.yIx, FL.yLen, FL.yInt, FL.yAbs, FL.yMax, FL.yMin, FL.ySum, FL.yAll, FL.yAny, FL.yDivmod, FL.yList, FL.yTuple, FL.yMulS, FL.ySl, FL.fAppend, FL.fPop, FL.fPopAt, FL.fInsert, FL.fExtend, FL.fReverse, FL.fCount, FL.fIndex, if_pos, if_neg, Bool.not_true, Bool.not_false, Bool.xor_false, Bool.false_xor, Bool.xor_true, Bool.true_xor, if_true, if_false, Bool.false_eq_true, and_true, true_and, and_self, Option.isSome_some, Option.isSome_none, reduceIte, ea, eb, e__law_is_move wa wb hs1 hm], (fun h => by cases h), rfl⟩
    rw [filter_none (fun _ _ => rfl)] at this
    exact this
  rw [len] at rgm lc4
  have shL := shaped_lay (lay_way W) (by decide)
  have eqL : PyData.eqv (.list (W.map msD)) (.list (W.map msD)) = true := eqv_same (lay_way W)
  have lt : (W.map msD).length < sizeLine := by omega
  have mb := e_moves_between hs hv hw
  rw [Int.add_comm] at mb
  unfold F__law_walk_right x__law_walk_right
  simp only [FL.runD, FL.startZ, FL.outsZ, FL.finZ, FL.endZ, List.replicate, List.cons_append, List.nil_append, List.append_nil, FL.zSeq, FL.zIf, FL.zRet, FL.zRetN, FL.zNext, FL.zDrop, FL.zSet, FL.zAsg, FL.zPar, FL.zRaise, FL.zSt, FL.zFor, FL.zBreak, FL.zCont, FL.asgZ, FL.xVar, FL.xC, FL.xOp, FL.xUn, FL.xB, FL.xAnd, FL.xOr, FL.xNot, FL.xAndE, FL.xOrE, FL.xNotE, FL.xIf, FL.xChain, FL.xaNil, FL.xaCons, FL.peeksZ, FL.xCB, FL.frzB, FL.frzZ, FL.xfNil, FL.xfCons, FL.xTup, FL.xLst, FL.xoNone, FL.xoSome, FL.xSl, FL.xLc, FL.xYes, FL.xiSeq, FL.xiRg, FL.xiEnum, FL.xiZip, FL.xMt, FL.xCall, FL.xcNil, FL.xcFz, FL.xcBw, FL.xcAn, FL.zForN, FL.xLcN, FL.bkZ, FL.xcOw, FL.xcPerm, FL.resZ, FL.backZ, FL.toPwZ, FL.xIs, FL.xIs2, FL.xExc, FL.Rs.bind, FL.getZ, FL.setZ, FL.nilsZ, FL.zlD, FL.peekZ, FL.boolZ, FL.opZ, FL.conZ, FL.wrZ, DL.stl, DL.RR.vr, DL.Cn.d, DL.noOw, DL.permR, DL.nthR, DL.isInt, DL.isBool, DL.isStr, DL.isList, DL.isTuple, DL.isNoneD, FL.yN, FL.ysNil, FL.ysCons, FL.yT, FL.yI, FL.yIc, FL.ySub, FL.yLt, FL.yLe, FL.yGt, FL.yGe, FL.yMul, FL.yDiv, FL.yMod, FL.yPow, FL.yNeg, FL.yAdd, FL.yIsN, FL.yIsB, FL.yEq, FL.yInn, FL.yIx, FL.yLen, FL.yInt, FL.yAbs, FL.yMax, FL.yMin, FL.ySum, FL.yAll, FL.yAny, FL.yDivmod, FL.yList, FL.yTuple, FL.yMulS, FL.ySl, FL.fAppend, FL.fPop, FL.fPopAt, FL.fInsert, FL.fExtend, FL.fReverse, FL.fCount, FL.fIndex, if_pos, if_neg, Bool.not_true, Bool.not_false, Bool.xor_false, Bool.false_xor, Bool.xor_true, Bool.true_xor, if_true, if_false, Bool.false_eq_true, and_true, true_and, and_self, Option.isSome_some, Option.isSome_none, reduceIte, lc1, lc2, sz1, sz2, ii, maxL_zip, e_moves_between hs hw hv, sh_int, eqv_int, decide_true, e_walk hs hw hv h1 h2, hW, len, a0, a1, sh_ms, eqv_ms, lc3, rgm, lc4, List.map_nil, sh_nil, eqv_nil, List.isEmpty_nil, lt, cut_init, shL, eqL, mb]
end FP
set_option Elab.async false
set_option linter.all false
set_option maxRecDepth 100000
set_option maxHeartbeats 4000000
namespace FP
open PySem PySem.Spec PyProof.Rows L2 DL FL
/-! the held system -/
/-- each point is held -/
def Held (n : Int) (bs : List Bd) (ms : List Int) : Prop := ∀ p : Int, 1 ≤ p → p < n → (∃ c, 0 ≤ c ∧ c < 10 ∧ (p, 0, mAt ms p + c) ∈ bs) ∧ ∃ c, 0 ≤ c ∧ c < 10 ∧ (0, p, c - mAt ms p) ∈ bs
theorem held_near {n : Int} {bs : List Bd} {ms w : List Int} (hh : Held n bs ms) (hw : Wd n bs w) {p : Int} (h1 : 1 ≤ p) (h2 : p < n) : mAt ms p - 9 ≤ mAt w p ∧ mAt w p ≤ mAt ms p + 9 := by
  obtain ⟨⟨c, c1, c2, c3⟩, d, d1, d2, d3⟩ := hh p h1 h2
  have hk := List.all_eq_true.mp hw.k
  have k1 := of_decide_eq_true (hk _ c3)
  have k2 := of_decide_eq_true (hk _ d3)
  have z : mAt w 0 = 0 := by obtain ⟨l, rfl⟩ := hw.h; rfl
  have k1 : mAt w p - mAt w 0 ≤ mAt ms p + c := k1
  have k2 : mAt w 0 - mAt w p ≤ d - mAt ms p := k2
  omega
theorem held_rise {n : Int} {bs : List Bd} {ms w v : List Int} (hh : Held n bs ms) (hw : Wd n bs w) (hv : Wd n bs v) : rise w v ≤ 18 := by
  refine rise_le (by omega) fun i x y hx hy => ?_
  have hl := (List.getElem?_eq_some_iff.mp hx).1
  have l1 := hw.l
  have ex : mAt w (i : Int) = x := by unfold mAt; rw [List.getD_eq_getElem?_getD, Int.toNat_natCast, hx]; rfl
  have ey : mAt v (i : Int) = y := by unfold mAt; rw [List.getD_eq_getElem?_getD, Int.toNat_natCast, hy]; rfl
  cases i with
  | zero =>
    obtain ⟨l, rfl⟩ := hw.h
    obtain ⟨m, rfl⟩ := hv.h
    cases hx; cases hy; omega
  | succ i =>
    have := held_near hh hw (p := ((i + 1 : Nat) : Int)) (by omega) (by omega)
    have := held_near hh hv (p := ((i + 1 : Nat) : Int)) (by omega) (by omega)
    omega
theorem e__law_held {N : Int} {u : Cn} (h : okU N u) (hN : 30000 ≤ N) : ∃ u' n bs ms, F__law_held [.ow u] = .ok (.fz (.tuple [sysD n bs, msD ms])) [.ow u'] ∧ okU (N - 30000) u' ∧ okS n bs ∧ n ≤ 6 ∧ Wd n bs ms ∧ Held n bs ms ∧ ∀ x ∈ ms, -(10 ^ 40) < x ∧ x < 10 ^ 40 := by
  obtain ⟨u1, v, e1, hu1, hv⟩ := e_pick (n := 6) h (by omega) (by decide) (by decide)
  obtain ⟨u2, bs, ms, e2, hu2, hs, hbl, hml, hk, hms⟩ := e_frame (n := 1 + v) (m := 8) hu1 (by omega) (by omega) (by omega) (by decide) (by decide)
  have hz := szl
  generalize hn : 1 + v = n at *
  have a0 : atI [PyData.int n, bsD bs] 0 = some (.int n) := rfl
  have a1 : atI [PyData.int n, bsD bs] 1 = some (bsD bs) := rfl
  have rg := rg_2 (i := 1) (j := n) (by omega)
  obtain ⟨ρ3, e3, u3, bs', s2, rfl, hu3, hl3, hb3, hk3, hh3⟩ := forF_inv (g := yN 2) (body := x__law_held_b1) (items := rgD 1 1 (n - 1).toNat) (ρ := [.pw u2, .ow (.l (bs.map bD)), .nil, .fz (sysD n bs), .fz (msD (0 :: ms))])
    (fun i ρ => ∃ u' bs' s2, ρ = [.pw u', .ow (.l (bs'.map bD)), s2, .fz (sysD n bs), .fz (msD (0 :: ms))] ∧ okU (N - 20001 - 2 * (i : Int)) u' ∧ bs'.length ≤ 8 + 2 * i ∧ (∀ b ∈ bs', okB n b) ∧ bs'.all (keepB (0 :: ms)) = true ∧
      ∀ p : Int, 1 ≤ p → p < 1 + i → (∃ c, 0 ≤ c ∧ c < 10 ∧ (p, 0, mAt (0 :: ms) p + c) ∈ bs') ∧ ∃ c, 0 ≤ c ∧ c < 10 ∧ (0, p, c - mAt (0 :: ms) p) ∈ bs')
    ⟨u2, bs, _, rfl, okU_le hu2 (by omega), by omega, hs.2.2.2, hk, fun p h1 h2 => by omega⟩ (by
      rintro i d ρ hd ⟨u3, bs', s2, rfl, hu3, hl3, hb3, hk3, hh3⟩
      have hlt := (List.getElem?_eq_some_iff.mp hd).1
      rw [rgD_len] at hlt
      rw [rgD_get hlt] at hd
      cases hd
      refine ⟨_, rfl, ?_⟩
      generalize hp : 1 + (i : Int) * 1 = p
      obtain ⟨u4, c, e4, hu4, hc⟩ := e_pick (n := 10) hu3 (by omega) (by decide) (by decide)
      obtain ⟨u5, d, e5, hu5, hd⟩ := e_pick (n := 10) hu4 (by omega) (by decide) (by decide)
      have ap := at_ms (ms := 0 :: ms) (i := p) (by omega) (by rw [List.length_cons]; omega)
      have sz : (bs'.map bD).length + [PyData.tuple [.int p, .int 0, .int (mAt (0 :: ms) p + c)], .tuple [.int 0, .int p, .int (d - mAt (0 :: ms) p)]].length ≤ sizeLine := by
        rw [List.length_map]; simp only [List.length_cons, List.length_nil]; omega
      unfold x__law_held_b1
      simp only [FL.runD, FL.startZ, FL.outsZ, FL.finZ, FL.endZ, List.replicate, List.cons_append, List.nil_append, List.append_nil, FL.zSeq, FL.zIf, FL.zRet, FL.zRetN, FL.zNext, FL.zDrop, FL.zSet, FL.zAsg, FL.zPar, FL.zRaise, FL.zSt, FL.zFor, FL.zBreak, FL.zCont, FL.asgZ, FL.xVar, FL.xC, FL.xOp, FL.xUn, FL.xB, FL.xAnd, FL.xOr, FL.xNot, FL.xAndE, FL.xOrE, FL.xNotE, FL.xIf, FL.xChain, FL.xaNil, FL.xaCons, FL.peeksZ, FL.xCB, FL.frzB, FL.frzZ, FL.xfNil, FL.xfCons, FL.xTup, FL.xLst, FL.xoNone, FL.xoSome, FL.xSl, FL.xLc, FL.xYes, FL.xiSeq, FL.xiRg, FL.xiEnum, FL.xiZip, FL.xMt, FL.xCall, FL.xcNil, FL.xcFz, FL.xcBw, FL.xcAn, FL.zForN, FL.xLcN, FL.bkZ, FL.xcOw, FL.xcPerm, FL.resZ, FL.backZ, FL.toPwZ, FL.xIs, FL.xIs2, FL.xExc, FL.Rs.bind, FL.getZ, FL.setZ, FL.nilsZ, FL.zlD, FL.peekZ, FL.boolZ, FL.opZ, FL.conZ, FL.wrZ, DL.stl, DL.RR.vr, DL.Cn.d, DL.noOw, DL.permR, DL.nthR, DL.isInt, DL.isBool, DL.isStr, DL.isList, DL.isTuple, DL.isNoneD, FL.yN, FL.ysNil, FL.ysCons, FL.yT, FL.yI, FL.yIc, FL.ySub, FL.yLt, FL.yLe, FL.yGt, FL.yGe, FL.yMul, FL.yDiv, FL.yMod, FL.yPow, FL.yNeg, FL.yAdd, FL.yIsN, FL.yIsB, FL.yEq, FL.yInn, FL.yIx, FL.yLen, FL.yInt, FL.yAbs, FL.yMax, FL.yMin, FL.ySum, FL.yAll, FL.yAny, FL.yDivmod, FL.yList, FL.yTuple, FL.yMulS, FL.ySl, FL.fAppend, FL.fPop, FL.fPopAt, FL.fInsert, FL.fExtend, FL.fReverse, FL.fCount, FL.fIndex, if_pos, if_neg, Bool.not_true, Bool.not_false, Bool.xor_false, Bool.false_xor, Bool.xor_true, Bool.true_xor, if_true, if_false, Bool.false_eq_true, and_true, true_and, and_self, Option.isSome_some, Option.isSome_none, reduceIte, ap, e4, e5, sz]
      refine ⟨_, .inl rfl, u5, bs' ++ [(p, 0, mAt (0 :: ms) p + c), (0, p, d - mAt (0 :: ms) p)], .fz (.int p), by rw [List.map_append]; rfl, okU_le hu5 (by omega), by rw [List.length_append]; simp only [List.length_cons, List.length_nil]; omega, fun b hb => ?_, ?_, fun q h1 h2 => ?_⟩
      · rcases List.mem_append.mp hb with hb | hb
        · exact hb3 b hb
        · simp only [List.mem_cons, List.mem_nil_iff, or_false] at hb
          rcases hb with rfl | rfl
          · exact ⟨by show 0 ≤ p; omega, by show p < n; omega, by show (0 : Int) ≤ 0; omega, by show (0 : Int) < n; omega, by show p ≠ 0; omega⟩
          · exact ⟨by show (0 : Int) ≤ 0; omega, by show (0 : Int) < n; omega, by show 0 ≤ p; omega, by show p < n; omega, by show 0 ≠ p; omega⟩
      · rw [List.all_append, hk3, List.all_cons, List.all_cons, List.all_nil]
        have z : mAt (0 :: ms) 0 = 0 := rfl
        have k1 : keepB (0 :: ms) (p, 0, mAt (0 :: ms) p + c) = true := decide_eq_true (by show mAt (0 :: ms) p - mAt (0 :: ms) 0 ≤ _; rw [z]; show mAt (0 :: ms) p - 0 ≤ mAt (0 :: ms) p + c; omega)
        have k2 : keepB (0 :: ms) (0, p, d - mAt (0 :: ms) p) = true := decide_eq_true (by show mAt (0 :: ms) 0 - mAt (0 :: ms) p ≤ _; rw [z]; show 0 - mAt (0 :: ms) p ≤ d - mAt (0 :: ms) p; omega)
        rw [k1, k2]; rfl
      · by_cases hq : q < 1 + (i : Int)
        · obtain ⟨⟨c', x1, x2, x3⟩, d', y1, y2, y3⟩ := hh3 q h1 hq
          exact ⟨⟨c', x1, x2, List.mem_append_left _ x3⟩, d', y1, y2, List.mem_append_left _ y3⟩
        · have : q = p := by omega
          subst this
          exact ⟨⟨c, hc.1, hc.2, List.mem_append_right _ (by simp)⟩, d, hd.1, hd.2, List.mem_append_right _ (by simp)⟩)
  rw [rgD_len] at hu3 hl3 hh3
  refine ⟨u3, n, bs', 0 :: ms, ?_, okU_le hu3 (by omega), ⟨by omega, by omega, by omega, hb3⟩, by omega, ⟨⟨ms, rfl⟩, by rw [List.length_cons]; omega, hk3⟩, fun p h1 h2 => hh3 p h1 (by omega), fun x hx => ?_⟩
  · unfold F__law_held x__law_held
    simp only [FL.runD, FL.startZ, FL.outsZ, FL.finZ, FL.endZ, List.replicate, List.cons_append, List.nil_append, List.append_nil, FL.zSeq, FL.zIf, FL.zRet, FL.zRetN, FL.zNext, FL.zDrop, FL.zSet, FL.zAsg, FL.zPar, FL.zRaise, FL.zSt, FL.zFor, FL.zBreak, FL.zCont, FL.asgZ, FL.xVar, FL.xC, FL.xOp, FL.xUn, FL.xB, FL.xAnd, FL.xOr, FL.xNot, FL.xAndE, FL.xOrE, FL.xNotE, FL.xIf, FL.xChain, FL.xaNil, FL.xaCons, FL.peeksZ, FL.xCB, FL.frzB, FL.frzZ, FL.xfNil, FL.xfCons, FL.xTup, FL.xLst, FL.xoNone, FL.xoSome, FL.xSl, FL.xLc, FL.xYes, FL.xiSeq, FL.xiRg, FL.xiEnum, FL.xiZip, FL.xMt, FL.xCall, FL.xcNil, FL.xcFz, FL.xcBw, FL.xcAn, FL.zForN, FL.xLcN, FL.bkZ, FL.xcOw, FL.xcPerm, FL.resZ, FL.backZ, FL.toPwZ, FL.xIs, FL.xIs2, FL.xExc, FL.Rs.bind, FL.getZ, FL.setZ, FL.nilsZ, FL.zlD, FL.peekZ, FL.boolZ, FL.opZ, FL.conZ, FL.wrZ, DL.stl, DL.RR.vr, DL.Cn.d, DL.noOw, DL.permR, DL.nthR, DL.isInt, DL.isBool, DL.isStr, DL.isList, DL.isTuple, DL.isNoneD, FL.yN, FL.ysNil, FL.ysCons, FL.yT, FL.yI, FL.yIc, FL.ySub, FL.yLt, FL.yLe, FL.yGt, FL.yGe, FL.yMul, FL.yDiv, FL.yMod, FL.yPow, FL.yNeg, FL.yAdd, FL.yIsN, FL.yIsB, FL.yEq, FL.yInn, FL.yIx, FL.yLen, FL.yInt, FL.yAbs, FL.yMax, FL.yMin, FL.ySum, FL.yAll, FL.yAny, FL.yDivmod, FL.yList, FL.yTuple, FL.yMulS, FL.ySl, FL.fAppend, FL.fPop, FL.fPopAt, FL.fInsert, FL.fExtend, FL.fReverse, FL.fCount, FL.fIndex, if_pos, if_neg, Bool.not_true, Bool.not_false, Bool.xor_false, Bool.false_xor, Bool.xor_true, Bool.true_xor, if_true, if_false, Bool.false_eq_true, and_true, true_and, and_self, Option.isSome_some, Option.isSome_none, reduceIte, e1, hn, e2, a0, a1, rg, e3]
  · rcases List.mem_cons.mp hx with rfl | hx
    · decide
    · exact hms x hx
theorem set_map {w : List Int} {i : Nat} {x : Int} (hi : i < w.length) : (w.map PyData.int).take i ++ [PyData.int x] ++ (w.map PyData.int).drop (i + 1) = (w.set i x).map .int := by
  rw [List.set_eq_take_append_cons_drop, if_pos hi, List.map_append, List.map_cons, List.map_take, List.map_drop, List.append_assoc]; rfl
theorem cut_to {α : Type} {xs : List α} {i : Int} (h0 : 0 ≤ i) (h1 : i ≤ xs.length) : cutA xs none (some i) = xs.take i.toNat := by
  unfold cutA
  have e1 : HT.sIx xs.length 0 none = 0 := rfl
  have e2 : HT.sIx xs.length xs.length (some i) = i.toNat := by
    show (if i < 0 then (i + (xs.length : Int)).toNat else min i.toNat xs.length) = _
    rw [if_neg (by omega)]; omega
  rw [e1, e2, List.drop_zero, Nat.sub_zero]
theorem cut_from {α : Type} {xs : List α} {i : Int} (h0 : 0 ≤ i) (h1 : i ≤ xs.length) : cutA xs (some i) none = xs.drop i.toNat := by
  unfold cutA
  have e1 : HT.sIx xs.length xs.length none = xs.length := rfl
  have e2 : HT.sIx xs.length 0 (some i) = i.toNat := by
    show (if i < 0 then (i + (xs.length : Int)).toNat else min i.toNat xs.length) = _
    rw [if_neg (by omega)]; omega
  rw [e1, e2, List.take_of_length_le (by rw [List.length_drop]; omega)]
theorem e__law_other {N n : Int} {u : Cn} {bs : List Bd} {w : List Int} (h : okU N u) (hN : 100 ≤ N) (hs : okS n bs) (hn : n ≤ 6) (hw : Wd n bs w) : ∃ u' v, F__law_other [.ow u, .fz (sysD n bs), .fz (msD w)] = .ok (.fz (msD v)) [.ow u', .fz (sysD n bs), .fz (msD w)] ∧ okU (N - 100) u' ∧ Wd n bs v := by
  have a0 : atI [PyData.int n, bsD bs] 0 = some (.int n) := rfl
  have h1 := hs.1
  have hz := szl
  have w2 : wide 2 ∧ wide n := ⟨wide_of (by decide) (by decide), wide_of (by omega) (by omega)⟩
  have rg := rg_1 (j := 2 * n) (by omega)
  obtain ⟨ρ3, e3, u3, v, s3, s4, s5, s6, s7, rfl, hs3, hu3, hv3⟩ := forF_inv (g := yN 4) (body := x__law_other_b1) (items := rgD 0 1 (2 * n).toNat) (ρ := [.pw u, .fz (sysD n bs), .fz (msD w), .ow (.l (w.map .int)), .nil, .nil, .nil, .nil])
    (fun i ρ => ∃ u' v s3 s4 s5 s6 s7, ρ = [.pw u', .fz (sysD n bs), .fz (msD w), s3, s4, s5, s6, s7] ∧ (s3 = .ow (.l (v.map .int)) ∨ s3 = .fz (.list (v.map .int))) ∧ okU (N - 2 * (i : Int)) u' ∧ Wd n bs v)
    ⟨u, w, _, _, _, _, _, rfl, .inl rfl, okU_le h (by omega), hw⟩ (by
      rintro i d ρ hd ⟨u3, v, s3, s4, s5, s6, s7, rfl, hs3, hu3, hv3⟩
      have hlt := (List.getElem?_eq_some_iff.mp hd).1
      rw [rgD_len] at hlt
      refine ⟨_, rfl, ?_⟩
      unfold x__law_other_b1
      by_cases hn1 : 1 < n
      · obtain ⟨u4, c, e4, hu4, hc⟩ := e_pick (n := n - 1) hu3 (by omega) (by omega) (by omega)
        obtain ⟨u5, q, e5, hu5, hq⟩ := e_pick (n := 4) hu4 (by omega) (by omega) (by omega)
        obtain ⟨st, est, _⟩ := at4i (p := 1) (q := -1) (r := 3) (s := -2) hq
        have l3 := hv3.l
        have ac := at_ms (ms := v) (i := 1 + c) (by omega) (by omega)
        have c1 := cut_to (xs := v.map PyData.int) (i := 1 + c) (by omega) (by rw [List.length_map]; omega)
        have c2 := cut_from (xs := v.map PyData.int) (i := 1 + c + 1) (by omega) (by rw [List.length_map]; omega)
        have sm := set_map (w := v) (i := (1 + c).toNat) (x := mAt v (1 + c) + st) (by omega)
        rw [show (1 + c).toNat + 1 = (1 + c + 1).toNat by omega] at sm
        have sz1 : ((v.map PyData.int).take (1 + c).toNat).length + [PyData.int (mAt v (1 + c) + st)].length ≤ sizeLine := by
          rw [List.length_take, List.length_map]; simp only [List.length_cons, List.length_nil]; omega
        have sz2 : ((v.map PyData.int).take (1 + c).toNat ++ [PyData.int (mAt v (1 + c) + st)]).length + ((v.map PyData.int).drop (1 + c + 1).toNat).length ≤ sizeLine := by
          rw [List.length_append, List.length_take, List.length_drop, List.length_map]; simp only [List.length_cons, List.length_nil]; omega
        have kp := e__law_keeps (w := v.set (1 + c).toNat (mAt v (1 + c) + st)) hs (by rw [List.length_set]; exact l3)
        have wd : bs.all (keepB (v.set (1 + c).toNat (mAt v (1 + c) + st))) = true → Wd n bs (v.set (1 + c).toNat (mAt v (1 + c) + st)) := fun hk => by
          refine ⟨?_, by rw [List.length_set]; exact l3, hk⟩
          obtain ⟨l, rfl⟩ := hv3.h
          exact ⟨l.set c.toNat (mAt (0 :: l) (1 + c) + st), by rw [show (1 + c).toNat = c.toNat + 1 by omega, List.set_cons_succ]⟩
        cases hk : bs.all (keepB (v.set (1 + c).toNat (mAt v (1 + c) + st))) with
        | true =>
          rw [hk] at kp
          rcases hs3 with rfl | rfl
          · simp only [FL.runD, FL.startZ, FL.outsZ, FL.finZ, FL.endZ, List.replicate, List.cons_append, List.nil_append, List.append_nil, FL.zSeq, FL.zIf, FL.zRet, FL.zRetN, FL.zNext, FL.zDrop, FL.zSet, FL.zAsg, FL.zPar, FL.zRaise, FL.zSt, FL.zFor, FL.zBreak, FL.zCont, FL.asgZ, FL.xVar, FL.xC, FL.xOp, FL.xUn, FL.xB, FL.xAnd, FL.xOr, FL.xNot, FL.xAndE, FL.xOrE, FL.xNotE, FL.xIf, FL.xChain, FL.xaNil, FL.xaCons, FL.peeksZ, FL.xCB, FL.frzB, FL.frzZ, FL.xfNil, FL.xfCons, FL.xTup, FL.xLst, FL.xoNone, FL.xoSome, FL.xSl, FL.xLc, FL.xYes, FL.xiSeq, FL.xiRg, FL.xiEnum, FL.xiZip, FL.xMt, FL.xCall, FL.xcNil, FL.xcFz, FL.xcBw, FL.xcAn, FL.zForN, FL.xLcN, FL.bkZ, FL.xcOw, FL.xcPerm, FL.resZ, FL.backZ, FL.toPwZ, FL.xIs, FL.xIs2, FL.xExc, FL.Rs.bind, FL.getZ, FL.setZ, FL.nilsZ, FL.zlD, FL.peekZ, FL.boolZ, FL.opZ, FL.conZ, FL.wrZ, DL.stl, DL.RR.vr, DL.Cn.d, DL.noOw, DL.permR, DL.nthR, DL.isInt, DL.isBool, DL.isStr, DL.isList, DL.isTuple, DL.isNoneD, FL.yN, FL.ysNil, FL.ysCons, FL.yT, FL.yI, FL.yIc, FL.ySub, FL.yLt, FL.yLe, FL.yGt, FL.yGe, FL.yMul, FL.yDiv, FL.yMod, FL.yPow, FL.yNeg, FL.yAdd, FL.yIsN, FL.yIsB, FL.yEq, FL.yInn, FL.yIx, FL.yLen, FL.yInt, FL.yAbs, FL.yMax, FL.yMin, FL.ySum, FL.yAll, FL.yAny, FL.yDivmod, FL.yList, FL.yTuple, FL.yMulS, FL.ySl, FL.fAppend, FL.fPop, FL.fPopAt, FL.fInsert, FL.fExtend, FL.fReverse, FL.fCount, FL.fIndex, if_pos, if_neg, Bool.not_true, Bool.not_false, Bool.xor_false, Bool.false_xor, Bool.xor_true, Bool.true_xor, if_true, if_false, Bool.false_eq_true, and_true, true_and, and_self, Option.isSome_some, Option.isSome_none, reduceIte, a0, decide_eq_true hn1, e4, e5, est, ac, c1, c2, sz1, sz2, sm, kp]
            exact ⟨_, .inl rfl, _, _, _, _, _, _, _, rfl, .inr rfl, okU_le hu5 (by omega), wd hk⟩
          · simp only [FL.runD, FL.startZ, FL.outsZ, FL.finZ, FL.endZ, List.replicate, List.cons_append, List.nil_append, List.append_nil, FL.zSeq, FL.zIf, FL.zRet, FL.zRetN, FL.zNext, FL.zDrop, FL.zSet, FL.zAsg, FL.zPar, FL.zRaise, FL.zSt, FL.zFor, FL.zBreak, FL.zCont, FL.asgZ, FL.xVar, FL.xC, FL.xOp, FL.xUn, FL.xB, FL.xAnd, FL.xOr, FL.xNot, FL.xAndE, FL.xOrE, FL.xNotE, FL.xIf, FL.xChain, FL.xaNil, FL.xaCons, FL.peeksZ, FL.xCB, FL.frzB, FL.frzZ, FL.xfNil, FL.xfCons, FL.xTup, FL.xLst, FL.xoNone, FL.xoSome, FL.xSl, FL.xLc, FL.xYes, FL.xiSeq, FL.xiRg, FL.xiEnum, FL.xiZip, FL.xMt, FL.xCall, FL.xcNil, FL.xcFz, FL.xcBw, FL.xcAn, FL.zForN, FL.xLcN, FL.bkZ, FL.xcOw, FL.xcPerm, FL.resZ, FL.backZ, FL.toPwZ, FL.xIs, FL.xIs2, FL.xExc, FL.Rs.bind, FL.getZ, FL.setZ, FL.nilsZ, FL.zlD, FL.peekZ, FL.boolZ, FL.opZ, FL.conZ, FL.wrZ, DL.stl, DL.RR.vr, DL.Cn.d, DL.noOw, DL.permR, DL.nthR, DL.isInt, DL.isBool, DL.isStr, DL.isList, DL.isTuple, DL.isNoneD, FL.yN, FL.ysNil, FL.ysCons, FL.yT, FL.yI, FL.yIc, FL.ySub, FL.yLt, FL.yLe, FL.yGt, FL.yGe, FL.yMul, FL.yDiv, FL.yMod, FL.yPow, FL.yNeg, FL.yAdd, FL.yIsN, FL.yIsB, FL.yEq, FL.yInn, FL.yIx, FL.yLen, FL.yInt, FL.yAbs, FL.yMax, FL.yMin, FL.ySum, FL.yAll, FL.yAny, FL.yDivmod, FL.yList, FL.yTuple, FL.yMulS, FL.ySl, FL.fAppend, FL.fPop, FL.fPopAt, FL.fInsert, FL.fExtend, FL.fReverse, FL.fCount, FL.fIndex, if_pos, if_neg, Bool.not_true, Bool.not_false, Bool.xor_false, Bool.false_xor, Bool.xor_true, Bool.true_xor, if_true, if_false, Bool.false_eq_true, and_true, true_and, and_self, Option.isSome_some, Option.isSome_none, reduceIte, a0, decide_eq_true hn1, e4, e5, est, ac, c1, c2, sz1, sz2, sm, kp]
            exact ⟨_, .inl rfl, _, _, _, _, _, _, _, rfl, .inr rfl, okU_le hu5 (by omega), wd hk⟩
        | false =>
          rw [hk] at kp
          rcases hs3 with rfl | rfl
          · simp only [FL.runD, FL.startZ, FL.outsZ, FL.finZ, FL.endZ, List.replicate, List.cons_append, List.nil_append, List.append_nil, FL.zSeq, FL.zIf, FL.zRet, FL.zRetN, FL.zNext, FL.zDrop, FL.zSet, FL.zAsg, FL.zPar, FL.zRaise, FL.zSt, FL.zFor, FL.zBreak, FL.zCont, FL.asgZ, FL.xVar, FL.xC, FL.xOp, FL.xUn, FL.xB, FL.xAnd, FL.xOr, FL.xNot, FL.xAndE, FL.xOrE, FL.xNotE, FL.xIf, FL.xChain, FL.xaNil, FL.xaCons, FL.peeksZ, FL.xCB, FL.frzB, FL.frzZ, FL.xfNil, FL.xfCons, FL.xTup, FL.xLst, FL.xoNone, FL.xoSome, FL.xSl, FL.xLc, FL.xYes, FL.xiSeq, FL.xiRg, FL.xiEnum, FL.xiZip, FL.xMt, FL.xCall, FL.xcNil, FL.xcFz, FL.xcBw, FL.xcAn, FL.zForN, FL.xLcN, FL.bkZ, FL.xcOw, FL.xcPerm, FL.resZ, FL.backZ, FL.toPwZ, FL.xIs, FL.xIs2, FL.xExc, FL.Rs.bind, FL.getZ, FL.setZ, FL.nilsZ, FL.zlD, FL.peekZ, FL.boolZ, FL.opZ, FL.conZ, FL.wrZ, DL.stl, DL.RR.vr, DL.Cn.d, DL.noOw, DL.permR, DL.nthR, DL.isInt, DL.isBool, DL.isStr, DL.isList, DL.isTuple, DL.isNoneD, FL.yN, FL.ysNil, FL.ysCons, FL.yT, FL.yI, FL.yIc, FL.ySub, FL.yLt, FL.yLe, FL.yGt, FL.yGe, FL.yMul, FL.yDiv, FL.yMod, FL.yPow, FL.yNeg, FL.yAdd, FL.yIsN, FL.yIsB, FL.yEq, FL.yInn, FL.yIx, FL.yLen, FL.yInt, FL.yAbs, FL.yMax, FL.yMin, FL.ySum, FL.yAll, FL.yAny, FL.yDivmod, FL.yList, FL.yTuple, FL.yMulS, FL.ySl, FL.fAppend, FL.fPop, FL.fPopAt, FL.fInsert, FL.fExtend, FL.fReverse, FL.fCount, FL.fIndex, if_pos, if_neg, Bool.not_true, Bool.not_false, Bool.xor_false, Bool.false_xor, Bool.xor_true, Bool.true_xor, if_true, if_false, Bool.false_eq_true, and_true, true_and, and_self, Option.isSome_some, Option.isSome_none, reduceIte, a0, decide_eq_true hn1, e4, e5, est, ac, c1, c2, sz1, sz2, sm, kp]
            exact ⟨_, .inl rfl, _, v, _, _, _, _, _, rfl, .inl rfl, okU_le hu5 (by omega), hv3⟩
          · simp only [FL.runD, FL.startZ, FL.outsZ, FL.finZ, FL.endZ, List.replicate, List.cons_append, List.nil_append, List.append_nil, FL.zSeq, FL.zIf, FL.zRet, FL.zRetN, FL.zNext, FL.zDrop, FL.zSet, FL.zAsg, FL.zPar, FL.zRaise, FL.zSt, FL.zFor, FL.zBreak, FL.zCont, FL.asgZ, FL.xVar, FL.xC, FL.xOp, FL.xUn, FL.xB, FL.xAnd, FL.xOr, FL.xNot, FL.xAndE, FL.xOrE, FL.xNotE, FL.xIf, FL.xChain, FL.xaNil, FL.xaCons, FL.peeksZ, FL.xCB, FL.frzB, FL.frzZ, FL.xfNil, FL.xfCons, FL.xTup, FL.xLst, FL.xoNone, FL.xoSome, FL.xSl, FL.xLc, FL.xYes, FL.xiSeq, FL.xiRg, FL.xiEnum, FL.xiZip, FL.xMt, FL.xCall, FL.xcNil, FL.xcFz, FL.xcBw, FL.xcAn, FL.zForN, FL.xLcN, FL.bkZ, FL.xcOw, FL.xcPerm, FL.resZ, FL.backZ, FL.toPwZ, FL.xIs, FL.xIs2, FL.xExc, FL.Rs.bind, FL.getZ, FL.setZ, FL.nilsZ, FL.zlD, FL.peekZ, FL.boolZ, FL.opZ, FL.conZ, FL.wrZ, DL.stl, DL.RR.vr, DL.Cn.d, DL.noOw, DL.permR, DL.nthR, DL.isInt, DL.isBool, DL.isStr, DL.isList, DL.isTuple, DL.isNoneD, FL.yN, FL.ysNil, FL.ysCons, FL.yT, FL.yI, FL.yIc, FL.ySub, FL.yLt, FL.yLe, FL.yGt, FL.yGe, FL.yMul, FL.yDiv, FL.yMod, FL.yPow, FL.yNeg, FL.yAdd, FL.yIsN, FL.yIsB, FL.yEq, FL.yInn, FL.yIx, FL.yLen, FL.yInt, FL.yAbs, FL.yMax, FL.yMin, FL.ySum, FL.yAll, FL.yAny, FL.yDivmod, FL.yList, FL.yTuple, FL.yMulS, FL.ySl, FL.fAppend, FL.fPop, FL.fPopAt, FL.fInsert, FL.fExtend, FL.fReverse, FL.fCount, FL.fIndex, if_pos, if_neg, Bool.not_true, Bool.not_false, Bool.xor_false, Bool.false_xor, Bool.xor_true, Bool.true_xor, if_true, if_false, Bool.false_eq_true, and_true, true_and, and_self, Option.isSome_some, Option.isSome_none, reduceIte, a0, decide_eq_true hn1, e4, e5, est, ac, c1, c2, sz1, sz2, sm, kp]
            exact ⟨_, .inl rfl, _, v, _, _, _, _, _, rfl, .inr rfl, okU_le hu5 (by omega), hv3⟩
      · simp only [FL.runD, FL.startZ, FL.outsZ, FL.finZ, FL.endZ, List.replicate, List.cons_append, List.nil_append, List.append_nil, FL.zSeq, FL.zIf, FL.zRet, FL.zRetN, FL.zNext, FL.zDrop, FL.zSet, FL.zAsg, FL.zPar, FL.zRaise, FL.zSt, FL.zFor, FL.zBreak, FL.zCont, FL.asgZ, FL.xVar, FL.xC, FL.xOp, FL.xUn, FL.xB, FL.xAnd, FL.xOr, FL.xNot, FL.xAndE, FL.xOrE, FL.xNotE, FL.xIf, FL.xChain, FL.xaNil, FL.xaCons, FL.peeksZ, FL.xCB, FL.frzB, FL.frzZ, FL.xfNil, FL.xfCons, FL.xTup, FL.xLst, FL.xoNone, FL.xoSome, FL.xSl, FL.xLc, FL.xYes, FL.xiSeq, FL.xiRg, FL.xiEnum, FL.xiZip, FL.xMt, FL.xCall, FL.xcNil, FL.xcFz, FL.xcBw, FL.xcAn, FL.zForN, FL.xLcN, FL.bkZ, FL.xcOw, FL.xcPerm, FL.resZ, FL.backZ, FL.toPwZ, FL.xIs, FL.xIs2, FL.xExc, FL.Rs.bind, FL.getZ, FL.setZ, FL.nilsZ, FL.zlD, FL.peekZ, FL.boolZ, FL.opZ, FL.conZ, FL.wrZ, DL.stl, DL.RR.vr, DL.Cn.d, DL.noOw, DL.permR, DL.nthR, DL.isInt, DL.isBool, DL.isStr, DL.isList, DL.isTuple, DL.isNoneD, FL.yN, FL.ysNil, FL.ysCons, FL.yT, FL.yI, FL.yIc, FL.ySub, FL.yLt, FL.yLe, FL.yGt, FL.yGe, FL.yMul, FL.yDiv, FL.yMod, FL.yPow, FL.yNeg, FL.yAdd, FL.yIsN, FL.yIsB, FL.yEq, FL.yInn, FL.yIx, FL.yLen, FL.yInt, FL.yAbs, FL.yMax, FL.yMin, FL.ySum, FL.yAll, FL.yAny, FL.yDivmod, FL.yList, FL.yTuple, FL.yMulS, FL.ySl, FL.fAppend, FL.fPop, FL.fPopAt, FL.fInsert, FL.fExtend, FL.fReverse, FL.fCount, FL.fIndex, if_pos, if_neg, Bool.not_true, Bool.not_false, Bool.xor_false, Bool.false_xor, Bool.xor_true, Bool.true_xor, if_true, if_false, Bool.false_eq_true, and_true, true_and, and_self, Option.isSome_some, Option.isSome_none, reduceIte, a0, decide_eq_false hn1]
        exact ⟨_, .inl rfl, _, v, _, _, _, _, _, rfl, hs3, okU_le hu3 (by omega), hv3⟩)
  rw [rgD_len] at hu3
  refine ⟨u3, v, ?_, okU_le hu3 (by omega), hv3⟩
  unfold F__law_other x__law_other
  rcases hs3 with rfl | rfl
  · simp only [FL.runD, FL.startZ, FL.outsZ, FL.finZ, FL.endZ, List.replicate, List.cons_append, List.nil_append, List.append_nil, FL.zSeq, FL.zIf, FL.zRet, FL.zRetN, FL.zNext, FL.zDrop, FL.zSet, FL.zAsg, FL.zPar, FL.zRaise, FL.zSt, FL.zFor, FL.zBreak, FL.zCont, FL.asgZ, FL.xVar, FL.xC, FL.xOp, FL.xUn, FL.xB, FL.xAnd, FL.xOr, FL.xNot, FL.xAndE, FL.xOrE, FL.xNotE, FL.xIf, FL.xChain, FL.xaNil, FL.xaCons, FL.peeksZ, FL.xCB, FL.frzB, FL.frzZ, FL.xfNil, FL.xfCons, FL.xTup, FL.xLst, FL.xoNone, FL.xoSome, FL.xSl, FL.xLc, FL.xYes, FL.xiSeq, FL.xiRg, FL.xiEnum, FL.xiZip, FL.xMt, FL.xCall, FL.xcNil, FL.xcFz, FL.xcBw, FL.xcAn, FL.zForN, FL.xLcN, FL.bkZ, FL.xcOw, FL.xcPerm, FL.resZ, FL.backZ, FL.toPwZ, FL.xIs, FL.xIs2, FL.xExc, FL.Rs.bind, FL.getZ, FL.setZ, FL.nilsZ, FL.zlD, FL.peekZ, FL.boolZ, FL.opZ, FL.conZ, FL.wrZ, DL.stl, DL.RR.vr, DL.Cn.d, DL.noOw, DL.permR, DL.nthR, DL.isInt, DL.isBool, DL.isStr, DL.isList, DL.isTuple, DL.isNoneD, FL.yN, FL.ysNil, FL.ysCons, FL.yT, FL.yI, FL.yIc, FL.ySub, FL.yLt, FL.yLe, FL.yGt, FL.yGe, FL.yMul, FL.yDiv, FL.yMod, FL.yPow, FL.yNeg, FL.yAdd, FL.yIsN, FL.yIsB, FL.yEq, FL.yInn, FL.yIx, FL.yLen, FL.yInt, FL.yAbs, FL.yMax, FL.yMin, FL.ySum, FL.yAll, FL.yAny, FL.yDivmod, FL.yList, FL.yTuple, FL.yMulS, FL.ySl, FL.fAppend, FL.fPop, FL.fPopAt, FL.fInsert, FL.fExtend, FL.fReverse, FL.fCount, FL.fIndex, if_pos, if_neg, Bool.not_true, Bool.not_false, Bool.xor_false, Bool.false_xor, Bool.xor_true, Bool.true_xor, if_true, if_false, Bool.false_eq_true, and_true, true_and, and_self, Option.isSome_some, Option.isSome_none, reduceIte, a0, w2, rg, e3]
  · simp only [FL.runD, FL.startZ, FL.outsZ, FL.finZ, FL.endZ, List.replicate, List.cons_append, List.nil_append, List.append_nil, FL.zSeq, FL.zIf, FL.zRet, FL.zRetN, FL.zNext, FL.zDrop, FL.zSet, FL.zAsg, FL.zPar, FL.zRaise, FL.zSt, FL.zFor, FL.zBreak, FL.zCont, FL.asgZ, FL.xVar, FL.xC, FL.xOp, FL.xUn, FL.xB, FL.xAnd, FL.xOr, FL.xNot, FL.xAndE, FL.xOrE, FL.xNotE, FL.xIf, FL.xChain, FL.xaNil, FL.xaCons, FL.peeksZ, FL.xCB, FL.frzB, FL.frzZ, FL.xfNil, FL.xfCons, FL.xTup, FL.xLst, FL.xoNone, FL.xoSome, FL.xSl, FL.xLc, FL.xYes, FL.xiSeq, FL.xiRg, FL.xiEnum, FL.xiZip, FL.xMt, FL.xCall, FL.xcNil, FL.xcFz, FL.xcBw, FL.xcAn, FL.zForN, FL.xLcN, FL.bkZ, FL.xcOw, FL.xcPerm, FL.resZ, FL.backZ, FL.toPwZ, FL.xIs, FL.xIs2, FL.xExc, FL.Rs.bind, FL.getZ, FL.setZ, FL.nilsZ, FL.zlD, FL.peekZ, FL.boolZ, FL.opZ, FL.conZ, FL.wrZ, DL.stl, DL.RR.vr, DL.Cn.d, DL.noOw, DL.permR, DL.nthR, DL.isInt, DL.isBool, DL.isStr, DL.isList, DL.isTuple, DL.isNoneD, FL.yN, FL.ysNil, FL.ysCons, FL.yT, FL.yI, FL.yIc, FL.ySub, FL.yLt, FL.yLe, FL.yGt, FL.yGe, FL.yMul, FL.yDiv, FL.yMod, FL.yPow, FL.yNeg, FL.yAdd, FL.yIsN, FL.yIsB, FL.yEq, FL.yInn, FL.yIx, FL.yLen, FL.yInt, FL.yAbs, FL.yMax, FL.yMin, FL.ySum, FL.yAll, FL.yAny, FL.yDivmod, FL.yList, FL.yTuple, FL.yMulS, FL.ySl, FL.fAppend, FL.fPop, FL.fPopAt, FL.fInsert, FL.fExtend, FL.fReverse, FL.fCount, FL.fIndex, if_pos, if_neg, Bool.not_true, Bool.not_false, Bool.xor_false, Bool.false_xor, Bool.xor_true, Bool.true_xor, if_true, if_false, Bool.false_eq_true, and_true, true_and, and_self, Option.isSome_some, Option.isSome_none, reduceIte, a0, w2, rg, e3]
end FP
set_option Elab.async false
set_option linter.all false
set_option maxRecDepth 100000
set_option maxHeartbeats 4000000
namespace FP
open PySem PySem.Spec PyProof.Rows L2 DL FL
theorem wd_free {n : Int} {l : List Int} (hl : (l.length : Int) + 1 = n) : Wd n [] (0 :: l) := ⟨⟨l, rfl⟩, by rw [List.length_cons]; omega, rfl⟩
theorem e__law_far_right {N n : Int} {u : Cn} {bs : List Bd} {w : List Int} (h : okU N u) (hN : 100 ≤ N) (hs : okS n bs) (hn : n ≤ 6) (hw : Wd n bs w) : ∃ u', F__law_far_right [.ow u, .fz (sysD n bs), .fz (msD w)] = .ok (.fz (.bool true)) [.ow u', .fz (sysD n bs), .fz (msD w)] ∧ okU (N - 100) u' := by
  have a0 : atI [PyData.int n, bsD bs] 0 = some (.int n) := rfl
  have h1 := hs.1
  have hz := szl
  have rg := rg_1 (j := n - 1) (by omega)
  obtain ⟨ys, ρ', e1, u1, ms, rfl, rfl, hu1, hl1⟩ := lcF_inv (g := yN 7) (tt := xYes) (te := x__law_far_right_c5) (vs := [7]) (items := rgD 0 1 (n - 1).toNat) (ρ := [.pw u, .fz (sysD n bs), .fz (msD w), .fz (sysD n []), .nil, .nil, .nil, .nil, .nil, .nil])
    (fun i acc ρ => ∃ u' ms, acc = ms.map .int ∧ ρ = [.pw u', .fz (sysD n bs), .fz (msD w), .fz (sysD n []), .nil, .nil, .nil, .nil, .nil, .nil] ∧ okU (N - 10 * (i : Int)) u' ∧ ms.length = i) ⟨u, [], rfl, rfl, okU_le h (by omega), rfl⟩ (by
      rintro i d acc ρ hd ⟨u1, ms, rfl, rfl, hu, hl⟩
      have hlt := (List.getElem?_eq_some_iff.mp hd).1
      rw [rgD_len] at hlt
      obtain ⟨u2, v, e, h2, hv⟩ := e_reach hu (by omega)
      refine ⟨_, rfl, .inr ⟨_, .fz (.int v), [.pw u2, .fz (sysD n bs), .fz (msD w), .fz (sysD n []), .nil, .nil, .nil, .fz d, .nil, .nil], .int v, _, rfl, ?_, rfl, u2, ms ++ [v], by rw [List.map_append]; rfl, rfl, okU_le h2 (by omega), by rw [List.length_append, hl]; rfl⟩⟩
      unfold x__law_far_right_c5
      simp only [FL.runD, FL.startZ, FL.outsZ, FL.finZ, FL.endZ, List.replicate, List.cons_append, List.nil_append, List.append_nil, FL.zSeq, FL.zIf, FL.zRet, FL.zRetN, FL.zNext, FL.zDrop, FL.zSet, FL.zAsg, FL.zPar, FL.zRaise, FL.zSt, FL.zFor, FL.zBreak, FL.zCont, FL.asgZ, FL.xVar, FL.xC, FL.xOp, FL.xUn, FL.xB, FL.xAnd, FL.xOr, FL.xNot, FL.xAndE, FL.xOrE, FL.xNotE, FL.xIf, FL.xChain, FL.xaNil, FL.xaCons, FL.peeksZ, FL.xCB, FL.frzB, FL.frzZ, FL.xfNil, FL.xfCons, FL.xTup, FL.xLst, FL.xoNone, FL.xoSome, FL.xSl, FL.xLc, FL.xYes, FL.xiSeq, FL.xiRg, FL.xiEnum, FL.xiZip, FL.xMt, FL.xCall, FL.xcNil, FL.xcFz, FL.xcBw, FL.xcAn, FL.zForN, FL.xLcN, FL.bkZ, FL.xcOw, FL.xcPerm, FL.resZ, FL.backZ, FL.toPwZ, FL.xIs, FL.xIs2, FL.xExc, FL.Rs.bind, FL.getZ, FL.setZ, FL.nilsZ, FL.zlD, FL.peekZ, FL.boolZ, FL.opZ, FL.conZ, FL.wrZ, DL.stl, DL.RR.vr, DL.Cn.d, DL.noOw, DL.permR, DL.nthR, DL.isInt, DL.isBool, DL.isStr, DL.isList, DL.isTuple, DL.isNoneD, FL.yN, FL.ysNil, FL.ysCons, FL.yT, FL.yI, FL.yIc, FL.ySub, FL.yLt, FL.yLe, FL.yGt, FL.yGe, FL.yMul, FL.yDiv, FL.yMod, FL.yPow, FL.yNeg, FL.yAdd, FL.yIsN, FL.yIsB, FL.yEq, FL.yInn, FL.yIx, FL.yLen, FL.yInt, FL.yAbs, FL.yMax, FL.yMin, FL.ySum, FL.yAll, FL.yAny, FL.yDivmod, FL.yList, FL.yTuple, FL.yMulS, FL.ySl, FL.fAppend, FL.fPop, FL.fPopAt, FL.fInsert, FL.fExtend, FL.fReverse, FL.fCount, FL.fIndex, if_pos, if_neg, Bool.not_true, Bool.not_false, Bool.xor_false, Bool.false_xor, Bool.xor_true, Bool.true_xor, if_true, if_false, Bool.false_eq_true, and_true, true_and, and_self, Option.isSome_some, Option.isSome_none, reduceIte, e])
  rw [rgD_len] at hu1 hl1
  have sz : [PyData.int 0].length + (List.map PyData.int ms).length ≤ sizeLine := by rw [List.length_map]; simp only [List.length_cons, List.length_nil]; omega
  obtain ⟨l, rfl⟩ := hw.h
  have ll : (l.length : Int) + 1 = n := by have := hw.l; rw [List.length_cons] at this; omega
  have sF : okS n [] := ⟨h1, by omega, by decide, fun b hb => by cases hb⟩
  have wF := wd_free ll
  have vF : Wd n [] (0 :: ms) := wd_free (by omega)
  generalize hv : 0 :: ms = v at *
  generalize 0 :: l = w at *
  have em : PyData.int 0 :: ms.map .int = v.map .int := by rw [← hv]; rfl
  have lc1 := lc_zip (vs := [8, 9]) (ρ := [.pw u1, .fz (sysD n bs), .fz (msD w), .fz (sysD n []), .fz (msD v), .nil, .nil, .nil, .nil, .nil]) (g := yT (ysCons (yN 8) (ysCons (yN 9) ysNil))) (te := x__law_far_right_c4) (fun x y => y - x) w v fun x y => ⟨_, rfl, rfl, rfl⟩
  have lc2 := lc_zip (vs := [8, 9]) (ρ := [.pw u1, .fz (sysD n bs), .fz (msD w), .fz (sysD n []), .fz (msD v), .fz (.int (rise w v)), .nil, .nil, .nil, .nil]) (g := yT (ysCons (yN 8) (ysCons (yN 9) ysNil))) (te := x__law_far_right_c3) (fun x y => x - y) w v fun x y => ⟨_, rfl, rfl, rfl⟩
  have sw : List.zipWith (fun x y => x - y) w v = List.zipWith (fun x y => y - x) v w := List.zipWith_comm
  rw [sw] at lc2
  have lc3 := lc_zip (vs := [8, 9]) (ρ := [.pw u1, .fz (sysD n bs), .fz (msD w), .fz (sysD n []), .fz (msD v), .fz (.int (rise w v)), .fz (.int (rise v w)), .nil, .nil, .nil]) (g := yT (ysCons (yN 8) (ysCons (yN 9) ysNil))) (te := x__law_far_right_c2) min w v fun x y => ⟨_, rfl, rfl, rfl⟩
  have lc4 := lc_zip (vs := [8, 9]) (ρ := [.pw u1, .fz (sysD n bs), .fz (msD w), .fz (sysD n []), .fz (msD v), .fz (.int (rise w v)), .fz (.int (rise v w)), .nil, .nil, .nil]) (g := yT (ysCons (yN 8) (ysCons (yN 9) ysNil))) (te := x__law_far_right_c1) max w v fun x y => ⟨_, rfl, rfl, rfl⟩
  have l1 := wF.l
  have l2 := vF.l
  have sz1 : ∀ a b : List Int, (a.length : Int) = n → [PyData.int 0].length + (List.map PyData.int (List.zipWith (fun x y => y - x) a b)).length ≤ sizeLine := fun a b ha => by
    rw [List.length_map, List.length_zipWith]; simp only [List.length_cons, List.length_nil]; omega
  have ii : ∀ w v : List Int, intsOf (PyData.int 0 :: List.map PyData.int (List.zipWith (fun x y => y - x) w v)) = some (0 :: List.zipWith (fun x y => y - x) w v) := fun w v => intsOf_ints (0 :: _)
  have mb := e_moves_between sF wF vF
  have mb2 := e_moves_between sF vF wF
  have el := e_lesser sF wF vF
  have eg := e_greater sF wF vF
  have es : PyData.tuple [.int n, .tuple []] = sysD n [] := rfl
  refine ⟨u1, ?_, okU_le hu1 (by omega)⟩
  unfold F__law_far_right x__law_far_right
  simp only [FL.runD, FL.startZ, FL.outsZ, FL.finZ, FL.endZ, List.replicate, List.cons_append, List.nil_append, List.append_nil, FL.zSeq, FL.zIf, FL.zRet, FL.zRetN, FL.zNext, FL.zDrop, FL.zSet, FL.zAsg, FL.zPar, FL.zRaise, FL.zSt, FL.zFor, FL.zBreak, FL.zCont, FL.asgZ, FL.xVar, FL.xC, FL.xOp, FL.xUn, FL.xB, FL.xAnd, FL.xOr, FL.xNot, FL.xAndE, FL.xOrE, FL.xNotE, FL.xIf, FL.xChain, FL.xaNil, FL.xaCons, FL.peeksZ, FL.xCB, FL.frzB, FL.frzZ, FL.xfNil, FL.xfCons, FL.xTup, FL.xLst, FL.xoNone, FL.xoSome, FL.xSl, FL.xLc, FL.xYes, FL.xiSeq, FL.xiRg, FL.xiEnum, FL.xiZip, FL.xMt, FL.xCall, FL.xcNil, FL.xcFz, FL.xcBw, FL.xcAn, FL.zForN, FL.xLcN, FL.bkZ, FL.xcOw, FL.xcPerm, FL.resZ, FL.backZ, FL.toPwZ, FL.xIs, FL.xIs2, FL.xExc, FL.Rs.bind, FL.getZ, FL.setZ, FL.nilsZ, FL.zlD, FL.peekZ, FL.boolZ, FL.opZ, FL.conZ, FL.wrZ, DL.stl, DL.RR.vr, DL.Cn.d, DL.noOw, DL.permR, DL.nthR, DL.isInt, DL.isBool, DL.isStr, DL.isList, DL.isTuple, DL.isNoneD, FL.yN, FL.ysNil, FL.ysCons, FL.yT, FL.yI, FL.yIc, FL.ySub, FL.yLt, FL.yLe, FL.yGt, FL.yGe, FL.yMul, FL.yDiv, FL.yMod, FL.yPow, FL.yNeg, FL.yAdd, FL.yIsN, FL.yIsB, FL.yEq, FL.yInn, FL.yIx, FL.yLen, FL.yInt, FL.yAbs, FL.yMax, FL.yMin, FL.ySum, FL.yAll, FL.yAny, FL.yDivmod, FL.yList, FL.yTuple, FL.yMulS, FL.ySl, FL.fAppend, FL.fPop, FL.fPopAt, FL.fInsert, FL.fExtend, FL.fReverse, FL.fCount, FL.fIndex, if_pos, if_neg, Bool.not_true, Bool.not_false, Bool.xor_false, Bool.false_xor, Bool.xor_true, Bool.true_xor, if_true, if_false, Bool.false_eq_true, and_true, true_and, and_self, Option.isSome_some, Option.isSome_none, reduceIte, a0, rg, e1, sz, em, es, lc1, lc2, sz1 w v l1, sz1 v w l2, ii, maxL_zip, mb, mb2, sh_int, eqv_int, decide_true, e__law_whole, isIntg, lc3, lc4, el, eg, sh_ms, eqv_ms]
theorem long_way {b s : Int} (hs : s = 1 ∨ s = -1) : way [0, b] [0, b + s * 300] = (List.range 301).map fun k => [0, b + s * (k : Nat)] := by
  have hr : rise [0, b] [0, b + s * 300] = max (s * 300) 0 := by
    show max (0 - 0) (max (b + s * 300 - b) 0) = _
    omega
  have hr2 : rise [0, b + s * 300] [0, b] = max (-(s * 300)) 0 := by
    show max (0 - 0) (max (b - (b + s * 300)) 0) = _
    omega
  refine List.ext_getElem? fun k => ?_
  by_cases hk : k < 301
  · rw [way_at (w := [0, b]) (v := [0, b + s * 300]) rfl k (by rw [hr, hr2]; rcases hs with rfl | rfl <;> omega), hr, hr2, List.getElem?_map, List.getElem?_range hk]
    show _ = some [0, b + s * (k : Nat)]
    congr 1
    rcases hs with rfl | rfl
    · rw [if_pos (by omega)]
      show [max 0 (0 - _), max b (b + 1 * 300 - _)] = _
      congr 1
      · omega
      · congr 1; omega
    · by_cases h0 : k = 0
      · subst h0
        rw [if_pos (by omega)]
        show [max 0 (0 - _), max b (b + -1 * 300 - _)] = _
        congr 1
        congr 1; omega
      · rw [if_neg (by omega)]
        show [min (max 0 0) (0 + _), min (max b (b + -1 * 300)) (b + -1 * 300 + _)] = _
        congr 1
        · omega
        · congr 1; omega
  · rw [List.getElem?_eq_none (by rw [way_len, hr, hr2]; rcases hs with rfl | rfl <;> omega), List.getElem?_eq_none (by simp; omega)]
theorem e__law_long_right {N : Int} {u : Cn} (h : okU N u) (hN : 100 ≤ N) : ∃ u', F__law_long_right [.ow u] = .ok (.fz (.bool true)) [.ow u'] ∧ okU (N - 100) u' := by
  obtain ⟨u1, b, e1, hu1, hb⟩ := e_reach h (by omega)
  obtain ⟨u2, q, e2, hu2, hq⟩ := e_pick (n := 2) hu1 (by omega) (by decide) (by decide)
  obtain ⟨s, es, hs⟩ := at2i (p := 1) (q := -1) hq
  have rg := rg_1 (j := 301) (by decide)
  have hz := szl
  have lc : lcF (yN 4) xYes x__law_long_right_c1 [4] (rgD 0 1 (Int.toNat 301)) [.pw u2, .nil, .fz (.int b), .fz (.int s), .nil] = .ok (((List.range 301).map fun k => [0, b + s * (k : Nat)]).map msD) [.pw u2, .nil, .fz (.int b), .fz (.int s), .nil] := by
    have := lcF_map (g := yN 4) (te := x__law_long_right_c1) (vs := [4]) (ρ := [.pw u2, .nil, .fz (.int b), .fz (.int s), .nil]) (fun k : Nat => PyData.int (0 + (k : Nat) * 1)) (fun k => msD [0, b + s * (k : Nat)]) (List.range 301) fun k hk => ⟨_, rfl, by
      have hk := List.mem_range.mp hk
      have w : wide s ∧ wide (0 + (k : Int) * 1) := ⟨wide_of (by omega) (by omega), wide_of (by omega) (by omega)⟩
      unfold x__law_long_right_c1
      simp only [FL.runD, FL.startZ, FL.outsZ, FL.finZ, FL.endZ, List.replicate, List.cons_append, List.nil_append, List.append_nil, FL.zSeq, FL.zIf, FL.zRet, FL.zRetN, FL.zNext, FL.zDrop, FL.zSet, FL.zAsg, FL.zPar, FL.zRaise, FL.zSt, FL.zFor, FL.zBreak, FL.zCont, FL.asgZ, FL.xVar, FL.xC, FL.xOp, FL.xUn, FL.xB, FL.xAnd, FL.xOr, FL.xNot, FL.xAndE, FL.xOrE, FL.xNotE, FL.xIf, FL.xChain, FL.xaNil, FL.xaCons, FL.peeksZ, FL.xCB, FL.frzB, FL.frzZ, FL.xfNil, FL.xfCons, FL.xTup, FL.xLst, FL.xoNone, FL.xoSome, FL.xSl, FL.xLc, FL.xYes, FL.xiSeq, FL.xiRg, FL.xiEnum, FL.xiZip, FL.xMt, FL.xCall, FL.xcNil, FL.xcFz, FL.xcBw, FL.xcAn, FL.zForN, FL.xLcN, FL.bkZ, FL.xcOw, FL.xcPerm, FL.resZ, FL.backZ, FL.toPwZ, FL.xIs, FL.xIs2, FL.xExc, FL.Rs.bind, FL.getZ, FL.setZ, FL.nilsZ, FL.zlD, FL.peekZ, FL.boolZ, FL.opZ, FL.conZ, FL.wrZ, DL.stl, DL.RR.vr, DL.Cn.d, DL.noOw, DL.permR, DL.nthR, DL.isInt, DL.isBool, DL.isStr, DL.isList, DL.isTuple, DL.isNoneD, FL.yN, FL.ysNil, FL.ysCons, FL.yT, FL.yI, FL.yIc, FL.ySub, FL.yLt, FL.yLe, FL.yGt, FL.yGe, FL.yMul, FL.yDiv, FL.yMod, FL.yPow, FL.yNeg, FL.yAdd, FL.yIsN, FL.yIsB, FL.yEq, FL.yInn, FL.yIx, FL.yLen, FL.yInt, FL.yAbs, FL.yMax, FL.yMin, FL.ySum, FL.yAll, FL.yAny, FL.yDivmod, FL.yList, FL.yTuple, FL.yMulS, FL.ySl, FL.fAppend, FL.fPop, FL.fPopAt, FL.fInsert, FL.fExtend, FL.fReverse, FL.fCount, FL.fIndex, if_pos, if_neg, Bool.not_true, Bool.not_false, Bool.xor_false, Bool.false_xor, Bool.xor_true, Bool.true_xor, if_true, if_false, Bool.false_eq_true, and_true, true_and, and_self, Option.isSome_some, Option.isSome_none, reduceIte, w]
      rw [show (0 : Int) + (k : Int) * 1 = k by omega]
      rfl, rfl⟩
    rw [List.map_map]
    exact this
  have hW := long_way (b := b) hs
  have hr : rise [0, b] [0, b + s * 300] = max (s * 300) 0 := by
    show max (0 - 0) (max (b + s * 300 - b) 0) = _
    omega
  have hr2 : rise [0, b + s * 300] [0, b] = max (-(s * 300)) 0 := by
    show max (0 - 0) (max (b - (b + s * 300)) 0) = _
    omega
  have sF : okS 2 [] := ⟨by decide, by decide, by decide, fun b hb => by cases hb⟩
  have ew := e_walk (n := 2) (bs := []) (w := [0, b]) (v := [0, b + s * 300]) sF ⟨⟨_, rfl⟩, rfl, rfl⟩ ⟨⟨_, rfl⟩, rfl, rfl⟩ (by rw [hr]; rcases hs with rfl | rfl <;> omega) (by rw [hr2]; rcases hs with rfl | rfl <;> omega)
  rw [hW] at ew
  have ew : F_walk [.fz (.tuple [.int 2, .tuple []]), .fz (msD [0, b]), .fz (msD [0, b + s * 300])] = .ok (.ow (.l (((List.range 301).map fun k => [0, b + s * (k : Nat)]).map msD))) [.fz (.tuple [.int 2, .tuple []]), .fz (msD [0, b]), .fz (msD [0, b + s * 300])] := ew
  generalize hL : (List.range 301).map (fun k => [0, b + s * ((k : Nat) : Int)]) = L at *
  have a0 : atI (L.map msD) 0 = some (msD [0, b]) := atI_of (Int.le_refl _) (by
    rw [← hL]
    show some (msD [0, b + s * ((0 : Nat) : Int)]) = _
    rw [show b + s * ((0 : Nat) : Int) = b by omega])
  have a1 : atI (L.map msD) (-1) = some (msD [0, b + s * 300]) := atI_last (by
    rw [← hL, List.range_succ, List.map_append, List.map_append]
    exact List.getLast?_concat)
  have shL := shaped_lay (lay_way L) (by decide)
  have eqL : PyData.eqv (.list (L.map msD)) (.list (L.map msD)) = true := eqv_same (lay_way L)
  refine ⟨u2, ?_, okU_le hu2 (by omega)⟩
  unfold F__law_long_right x__law_long_right
  simp only [FL.runD, FL.startZ, FL.outsZ, FL.finZ, FL.endZ, List.replicate, List.cons_append, List.nil_append, List.append_nil, FL.zSeq, FL.zIf, FL.zRet, FL.zRetN, FL.zNext, FL.zDrop, FL.zSet, FL.zAsg, FL.zPar, FL.zRaise, FL.zSt, FL.zFor, FL.zBreak, FL.zCont, FL.asgZ, FL.xVar, FL.xC, FL.xOp, FL.xUn, FL.xB, FL.xAnd, FL.xOr, FL.xNot, FL.xAndE, FL.xOrE, FL.xNotE, FL.xIf, FL.xChain, FL.xaNil, FL.xaCons, FL.peeksZ, FL.xCB, FL.frzB, FL.frzZ, FL.xfNil, FL.xfCons, FL.xTup, FL.xLst, FL.xoNone, FL.xoSome, FL.xSl, FL.xLc, FL.xYes, FL.xiSeq, FL.xiRg, FL.xiEnum, FL.xiZip, FL.xMt, FL.xCall, FL.xcNil, FL.xcFz, FL.xcBw, FL.xcAn, FL.zForN, FL.xLcN, FL.bkZ, FL.xcOw, FL.xcPerm, FL.resZ, FL.backZ, FL.toPwZ, FL.xIs, FL.xIs2, FL.xExc, FL.Rs.bind, FL.getZ, FL.setZ, FL.nilsZ, FL.zlD, FL.peekZ, FL.boolZ, FL.opZ, FL.conZ, FL.wrZ, DL.stl, DL.RR.vr, DL.Cn.d, DL.noOw, DL.permR, DL.nthR, DL.isInt, DL.isBool, DL.isStr, DL.isList, DL.isTuple, DL.isNoneD, FL.yN, FL.ysNil, FL.ysCons, FL.yT, FL.yI, FL.yIc, FL.ySub, FL.yLt, FL.yLe, FL.yGt, FL.yGe, FL.yMul, FL.yDiv, FL.yMod, FL.yPow, FL.yNeg, FL.yAdd, FL.yIsN, FL.yIsB, FL.yEq, FL.yInn, FL.yIx, FL.yLen, FL.yInt, FL.yAbs, FL.yMax, FL.yMin, FL.ySum, FL.yAll, FL.yAny, FL.yDivmod, FL.yList, FL.yTuple, FL.yMulS, FL.ySl, FL.fAppend, FL.fPop, FL.fPopAt, FL.fInsert, FL.fExtend, FL.fReverse, FL.fCount, FL.fIndex, if_pos, if_neg, Bool.not_true, Bool.not_false, Bool.xor_false, Bool.false_xor, Bool.xor_true, Bool.true_xor, if_true, if_false, Bool.false_eq_true, and_true, true_and, and_self, Option.isSome_some, Option.isSome_none, reduceIte, e1, e2, es, rg, lc, a0, a1, ew, shL, eqL]
end FP
set_option Elab.async false
set_option linter.all false
set_option maxRecDepth 100000
set_option maxHeartbeats 4000000
namespace FP
open PySem PySem.Spec PyProof.Rows L2 DL FL
theorem zip_min_comm (w v : List Int) : List.zipWith min v w = List.zipWith min w v := by
  rw [List.zipWith_comm]; congr 1; funext x y; exact Int.min_comm _ _
theorem zip_max_comm (w v : List Int) : List.zipWith max v w = List.zipWith max w v := by
  rw [List.zipWith_comm]; congr 1; funext x y; exact Int.max_comm _ _
theorem min_max_of {w v : List Int} (hl : w.length = v.length) (h : List.zipWith min w v = w) : List.zipWith max w v = v := by
  induction w generalizing v with
  | nil => cases v with
    | nil => rfl
    | cons y v => simp at hl
  | cons x w ih =>
    cases v with
    | nil => simp at hl
    | cons y v =>
      rw [List.zipWith_cons_cons, List.cons.injEq] at h
      rw [List.zipWith_cons_cons, ih (by simpa using hl) h.2]
      congr 1; omega
/-- one pair of worlds -/
theorem pair_right {N n : Int} {u : Cn} {bs : List Bd} {ws : List (List Int)} {one two : List Int} {s4 s6 s7 s8 s9 s10 : Zl} (h : okU N u) (hN : 10 ≤ N) (hs : okS n bs) (hw : Wd n bs one) (hv : Wd n bs two) (hws : ∀ w ∈ ws, Wd n bs w) (hlen : ws.length = 4)
    (hr : ∀ w v, Wd n bs w → Wd n bs v → rise w v ≤ 18) :
    ∃ u' t6 t7 t8 t9, x__law_right_b3 [.pw u, .fz (.list (ws.map msD)), .fz (msD one), .fz (sysD n bs), s4, .fz (msD two), s6, s7, s8, s9, s10, .nil, .nil] = .ok .nx [.pw u', .fz (.list (ws.map msD)), .fz (msD one), .fz (sysD n bs), s4, .fz (msD two), t6, t7, t8, t9, s10, .nil, .nil] ∧ okU (N - 1) u' := by
  obtain ⟨u1, q, e1, hu1, hq⟩ := e_pick (n := 4) h (by omega) (by decide) (by decide)
  have hl : one.length = two.length := by have := hw.l; have := hv.l; omega
  obtain ⟨third, ht⟩ : ∃ t, ws[q.toNat]? = some t := ⟨ws[q.toNat]'(by omega), List.getElem?_eq_getElem _⟩
  have htw := hws third (List.mem_of_getElem? ht)
  have at3 : atI (ws.map msD) q = some (msD third) := atI_of hq.1 (by rw [List.getElem?_map, ht]; rfl)
  have least := wd_zip (f := min) hs hw hv (by decide) fun x y x' y' m h1 h2 => by omega
  have most := wd_zip (f := max) hs hw hv (by decide) fun x y x' y' m h1 h2 => by omega
  have lc1 := lc_zip (vs := [11, 12]) (ρ := [.pw u, .fz (.list (ws.map msD)), .fz (msD one), .fz (sysD n bs), s4, .fz (msD two), s6, s7, s8, s9, s10, .nil, .nil]) (g := yT (ysCons (yN 11) (ysCons (yN 12) ysNil))) (te := x__law_right_c2) min one two fun x y => ⟨_, rfl, rfl, rfl⟩
  have lc2 := lc_zip (vs := [11, 12]) (ρ := [.pw u, .fz (.list (ws.map msD)), .fz (msD one), .fz (sysD n bs), s4, .fz (msD two), .fz (msD (List.zipWith min one two)), s7, s8, s9, s10, .nil, .nil]) (g := yT (ysCons (yN 11) (ysCons (yN 12) ysNil))) (te := x__law_right_c1) max one two fun x y => ⟨_, rfl, rfl, rfl⟩
  have el1 := e_lesser hs hw hv
  have el2 := e_lesser hs hv hw
  have eg1 := e_greater hs hw hv
  have eg2 := e_greater hs hv hw
  rw [zip_min_comm] at el2
  rw [zip_max_comm] at eg2
  have iw1 := e_is_worldW hs least
  have iw2 := e_is_worldW hs most
  have r1 := hr _ _ hw hv
  have r2 := hr _ _ hv hw
  have wr := e__law_walk_right hs hw hv (by omega) (by omega)
  have mb := e_moves_between hs hw hv
  have mb2 := e_moves_between hs least most
  have mb3 := e_moves_between hs hw htw
  have mb4 := e_moves_between hs htw hv
  have straight : (List.zipWith min one two = one ∨ List.zipWith min one two = two) → rise one two + rise two one = rise (List.zipWith min one two) (List.zipWith max one two) + rise (List.zipWith max one two) (List.zipWith min one two) := by
    rintro (e | e)
    · rw [e, min_max_of hl e]
    · have e' := e
      rw [← zip_min_comm] at e'
      rw [e, ← zip_max_comm, min_max_of hl.symm e']; omega
  have tri : ¬ (rise one third + rise third one + (rise third two + rise two third) < rise one two + rise two one) := by
    have l1 : one.length = third.length := by have := hw.l; have := htw.l; omega
    have t1 := rise_tri (a := one) (b := third) (c := two) l1 (l1.symm.trans hl)
    have t2 := rise_tri (a := two) (b := third) (c := one) (hl.symm.trans l1) l1.symm
    omega
  have shT : SeqAt.shaped (.tuple [msD one, msD two]) = true := shaped_lay (n := 2) (lay_tuple fun d hd => by
    simp only [List.mem_cons, List.mem_nil_iff, or_false] at hd
    rcases hd with rfl | rfl
    · exact lay_ms one
    · exact lay_ms two) (by decide)
  have any : ([msD one, msD two].any fun y => PyData.eqv y (msD (List.zipWith min one two))) = (decide (one = List.zipWith min one two) || decide (two = List.zipWith min one two)) := by
    rw [List.any_cons, List.any_cons, List.any_nil, eqv_ms, eqv_ms, Bool.or_false]
  generalize hL : List.zipWith min one two = L at *
  generalize hM : List.zipWith max one two = M at *
  unfold x__law_right_b3
  by_cases hin : one = L ∨ two = L
  · have dd : (decide (one = L) || decide (two = L)) = true := by simpa using hin
    have st := straight (hin.imp Eq.symm Eq.symm)
    rw [← st] at mb2
    simp only [FL.runD, FL.startZ, FL.outsZ, FL.finZ, FL.endZ, List.replicate, List.cons_append, List.nil_append, List.append_nil, FL.zSeq, FL.zIf, FL.zRet, FL.zRetN, FL.zNext, FL.zDrop, FL.zSet, FL.zAsg, FL.zPar, FL.zRaise, FL.zSt, FL.zFor, FL.zBreak, FL.zCont, FL.asgZ, FL.xVar, FL.xC, FL.xOp, FL.xUn, FL.xB, FL.xAnd, FL.xOr, FL.xNot, FL.xAndE, FL.xOrE, FL.xNotE, FL.xIf, FL.xChain, FL.xaNil, FL.xaCons, FL.peeksZ, FL.xCB, FL.frzB, FL.frzZ, FL.xfNil, FL.xfCons, FL.xTup, FL.xLst, FL.xoNone, FL.xoSome, FL.xSl, FL.xLc, FL.xYes, FL.xiSeq, FL.xiRg, FL.xiEnum, FL.xiZip, FL.xMt, FL.xCall, FL.xcNil, FL.xcFz, FL.xcBw, FL.xcAn, FL.zForN, FL.xLcN, FL.bkZ, FL.xcOw, FL.xcPerm, FL.resZ, FL.backZ, FL.toPwZ, FL.xIs, FL.xIs2, FL.xExc, FL.Rs.bind, FL.getZ, FL.setZ, FL.nilsZ, FL.zlD, FL.peekZ, FL.boolZ, FL.opZ, FL.conZ, FL.wrZ, DL.stl, DL.RR.vr, DL.Cn.d, DL.noOw, DL.permR, DL.nthR, DL.isInt, DL.isBool, DL.isStr, DL.isList, DL.isTuple, DL.isNoneD, FL.yN, FL.ysNil, FL.ysCons, FL.yT, FL.yI, FL.yIc, FL.ySub, FL.yLt, FL.yLe, FL.yGt, FL.yGe, FL.yMul, FL.yDiv, FL.yMod, FL.yPow, FL.yNeg, FL.yAdd, FL.yIsN, FL.yIsB, FL.yEq, FL.yInn, FL.yIx, FL.yLen, FL.yInt, FL.yAbs, FL.yMax, FL.yMin, FL.ySum, FL.yAll, FL.yAny, FL.yDivmod, FL.yList, FL.yTuple, FL.yMulS, FL.ySl, FL.fAppend, FL.fPop, FL.fPopAt, FL.fInsert, FL.fExtend, FL.fReverse, FL.fCount, FL.fIndex, if_pos, if_neg, Bool.not_true, Bool.not_false, Bool.xor_false, Bool.false_xor, Bool.xor_true, Bool.true_xor, if_true, if_false, Bool.false_eq_true, and_true, true_and, and_self, Option.isSome_some, Option.isSome_none, reduceIte, lc1, lc2, el1, el2, eg1, eg2, sh_ms, eqv_ms, decide_true, iw1, iw2, wr, mb, shT, any, dd, mb2, sh_int, eqv_int, e1, at3, mb3, mb4, decide_eq_false tri]
    exact ⟨_, _, _, _, _, rfl, hu1⟩
  · have dd : (decide (one = L) || decide (two = L)) = false := by simpa using hin
    simp only [FL.runD, FL.startZ, FL.outsZ, FL.finZ, FL.endZ, List.replicate, List.cons_append, List.nil_append, List.append_nil, FL.zSeq, FL.zIf, FL.zRet, FL.zRetN, FL.zNext, FL.zDrop, FL.zSet, FL.zAsg, FL.zPar, FL.zRaise, FL.zSt, FL.zFor, FL.zBreak, FL.zCont, FL.asgZ, FL.xVar, FL.xC, FL.xOp, FL.xUn, FL.xB, FL.xAnd, FL.xOr, FL.xNot, FL.xAndE, FL.xOrE, FL.xNotE, FL.xIf, FL.xChain, FL.xaNil, FL.xaCons, FL.peeksZ, FL.xCB, FL.frzB, FL.frzZ, FL.xfNil, FL.xfCons, FL.xTup, FL.xLst, FL.xoNone, FL.xoSome, FL.xSl, FL.xLc, FL.xYes, FL.xiSeq, FL.xiRg, FL.xiEnum, FL.xiZip, FL.xMt, FL.xCall, FL.xcNil, FL.xcFz, FL.xcBw, FL.xcAn, FL.zForN, FL.xLcN, FL.bkZ, FL.xcOw, FL.xcPerm, FL.resZ, FL.backZ, FL.toPwZ, FL.xIs, FL.xIs2, FL.xExc, FL.Rs.bind, FL.getZ, FL.setZ, FL.nilsZ, FL.zlD, FL.peekZ, FL.boolZ, FL.opZ, FL.conZ, FL.wrZ, DL.stl, DL.RR.vr, DL.Cn.d, DL.noOw, DL.permR, DL.nthR, DL.isInt, DL.isBool, DL.isStr, DL.isList, DL.isTuple, DL.isNoneD, FL.yN, FL.ysNil, FL.ysCons, FL.yT, FL.yI, FL.yIc, FL.ySub, FL.yLt, FL.yLe, FL.yGt, FL.yGe, FL.yMul, FL.yDiv, FL.yMod, FL.yPow, FL.yNeg, FL.yAdd, FL.yIsN, FL.yIsB, FL.yEq, FL.yInn, FL.yIx, FL.yLen, FL.yInt, FL.yAbs, FL.yMax, FL.yMin, FL.ySum, FL.yAll, FL.yAny, FL.yDivmod, FL.yList, FL.yTuple, FL.yMulS, FL.ySl, FL.fAppend, FL.fPop, FL.fPopAt, FL.fInsert, FL.fExtend, FL.fReverse, FL.fCount, FL.fIndex, if_pos, if_neg, Bool.not_true, Bool.not_false, Bool.xor_false, Bool.false_xor, Bool.xor_true, Bool.true_xor, if_true, if_false, Bool.false_eq_true, and_true, true_and, and_self, Option.isSome_some, Option.isSome_none, reduceIte, lc1, lc2, el1, el2, eg1, eg2, sh_ms, eqv_ms, decide_true, iw1, iw2, wr, mb, shT, any, dd, sh_int, eqv_int, e1, at3, mb3, mb4, decide_eq_false tri]
    exact ⟨_, _, _, _, _, rfl, hu1⟩
theorem e__law_right {N : Int} {u : Cn} (h : okU N u) (hN : 100000 ≤ N) : ∃ u', F__law_right [.ow u] = .ok (.fz (.bool true)) [.ow u'] := by
  obtain ⟨u1, n, bs, ms, e1, hu1, hs, hn, hw, hh, hms⟩ := e__law_held h (by omega)
  obtain ⟨u2, e2, hu2⟩ := e__law_far_right hu1 (by omega) hs hn hw
  obtain ⟨u3, q, e3, hu3, hq⟩ := e_pick (n := 8) hu2 (by omega) (by decide) (by decide)
  obtain ⟨u4, e4, hu4⟩ := e__law_long_right hu3 (by omega)
  have hz := szl
  have rg := rg_1 (j := 3) (by decide)
  -- behind the long way or without it
  have key : ∀ u5, okU 60000 u5 → ∃ ds u6 u7 t2 t5 t6 t7 t8 t9 t10, lcF (yN 10) xYes x__law_right_c5 [10] (rgD 0 1 (Int.toNat 3)) [.pw u5, .nil, .nil, .fz (sysD n bs), .fz (msD ms), .nil, .nil, .nil, .nil, .nil, .nil, .nil, .nil] = .ok ds [.pw u6, .nil, .nil, .fz (sysD n bs), .fz (msD ms), .nil, .nil, .nil, .nil, .nil, .nil, .nil, .nil] ∧ [msD ms].length + ds.length ≤ sizeLine ∧
      forF (yN 2) x__law_right_b4 (msD ms :: ds) [.pw u6, .fz (.list (msD ms :: ds)), .nil, .fz (sysD n bs), .fz (msD ms), .nil, .nil, .nil, .nil, .nil, .nil, .nil, .nil] = .ok .nx [.pw u7, .fz (.list (msD ms :: ds)), t2, .fz (sysD n bs), .fz (msD ms), t5, t6, t7, t8, t9, t10, .nil, .nil] := by
    intro u5 hu5
    obtain ⟨ys, ρ', e5, u6, vs, rfl, rfl, hu6, hl6, hv6⟩ := lcF_inv (g := yN 10) (tt := xYes) (te := x__law_right_c5) (vs := [10]) (items := rgD 0 1 (Int.toNat 3)) (ρ := [.pw u5, .nil, .nil, .fz (sysD n bs), .fz (msD ms), .nil, .nil, .nil, .nil, .nil, .nil, .nil, .nil])
      (fun i acc ρ => ∃ u' vs, acc = vs.map msD ∧ ρ = [.pw u', .nil, .nil, .fz (sysD n bs), .fz (msD ms), .nil, .nil, .nil, .nil, .nil, .nil, .nil, .nil] ∧ okU (60000 - 100 * (i : Int)) u' ∧ vs.length = i ∧ ∀ w ∈ vs, Wd n bs w) ⟨u5, [], rfl, rfl, okU_le hu5 (by omega), rfl, fun x hx => by cases hx⟩ (by
        rintro i d acc ρ hd ⟨u6, vs, rfl, rfl, hu, hl, hv⟩
        have hlt := (List.getElem?_eq_some_iff.mp hd).1
        rw [rgD_len] at hlt
        have hlt : i < 3 := hlt
        obtain ⟨u7, v, e, h7, hv7⟩ := e__law_other hu (by omega) hs hn hw
        refine ⟨_, rfl, .inr ⟨_, .fz (msD v), [.pw u7, .nil, .nil, .fz (sysD n bs), .fz (msD ms), .nil, .nil, .nil, .nil, .nil, .fz d, .nil, .nil], msD v, _, rfl, ?_, rfl, u7, vs ++ [v], by rw [List.map_append]; rfl, rfl, okU_le h7 (by omega), by rw [List.length_append, hl]; rfl, fun x hx => ?_⟩⟩
        · unfold x__law_right_c5
          simp only [FL.runD, FL.startZ, FL.outsZ, FL.finZ, FL.endZ, List.replicate, List.cons_append, List.nil_append, List.append_nil, FL.zSeq, FL.zIf, FL.zRet, FL.zRetN, FL.zNext, FL.zDrop, FL.zSet, FL.zAsg, FL.zPar, FL.zRaise, FL.zSt, FL.zFor, FL.zBreak, FL.zCont, FL.asgZ, FL.xVar, FL.xC, FL.xOp, FL.xUn, FL.xB, FL.xAnd, FL.xOr, FL.xNot, FL.xAndE, FL.xOrE, FL.xNotE, FL.xIf, FL.xChain, FL.xaNil, FL.xaCons, FL.peeksZ, FL.xCB, FL.frzB, FL.frzZ, FL.xfNil, FL.xfCons, FL.xTup, FL.xLst, FL.xoNone, FL.xoSome, FL.xSl, FL.xLc, FL.xYes, FL.xiSeq, FL.xiRg, FL.xiEnum, FL.xiZip, FL.xMt, FL.xCall, FL.xcNil, FL.xcFz, FL.xcBw, FL.xcAn, FL.zForN, FL.xLcN, FL.bkZ, FL.xcOw, FL.xcPerm, FL.resZ, FL.backZ, FL.toPwZ, FL.xIs, FL.xIs2, FL.xExc, FL.Rs.bind, FL.getZ, FL.setZ, FL.nilsZ, FL.zlD, FL.peekZ, FL.boolZ, FL.opZ, FL.conZ, FL.wrZ, DL.stl, DL.RR.vr, DL.Cn.d, DL.noOw, DL.permR, DL.nthR, DL.isInt, DL.isBool, DL.isStr, DL.isList, DL.isTuple, DL.isNoneD, FL.yN, FL.ysNil, FL.ysCons, FL.yT, FL.yI, FL.yIc, FL.ySub, FL.yLt, FL.yLe, FL.yGt, FL.yGe, FL.yMul, FL.yDiv, FL.yMod, FL.yPow, FL.yNeg, FL.yAdd, FL.yIsN, FL.yIsB, FL.yEq, FL.yInn, FL.yIx, FL.yLen, FL.yInt, FL.yAbs, FL.yMax, FL.yMin, FL.ySum, FL.yAll, FL.yAny, FL.yDivmod, FL.yList, FL.yTuple, FL.yMulS, FL.ySl, FL.fAppend, FL.fPop, FL.fPopAt, FL.fInsert, FL.fExtend, FL.fReverse, FL.fCount, FL.fIndex, if_pos, if_neg, Bool.not_true, Bool.not_false, Bool.xor_false, Bool.false_xor, Bool.xor_true, Bool.true_xor, if_true, if_false, Bool.false_eq_true, and_true, true_and, and_self, Option.isSome_some, Option.isSome_none, reduceIte, e]
        · rcases List.mem_append.mp hx with hx | hx
          · exact hv x hx
          · rw [List.mem_singleton.mp hx]; exact hv7)
    rw [rgD_len] at hu6 hl6
    have hl6 : vs.length = 3 := hl6
    have sz : [msD ms].length + (vs.map msD).length ≤ sizeLine := by rw [List.length_map]; simp only [List.length_cons, List.length_nil]; omega
    have hws : ∀ w ∈ ms :: vs, Wd n bs w := fun w hw' => by
      rcases List.mem_cons.mp hw' with rfl | hw'
      · exact hw
      · exact hv6 w hw'
    have hlen : (ms :: vs).length = 4 := by rw [List.length_cons, hl6]
    have em : msD ms :: vs.map msD = (ms :: vs).map msD := rfl
    generalize ms :: vs = ws at *
    obtain ⟨ρ3, e7, u7, t2, t5, t6, t7, t8, t9, t10, rfl, hu7⟩ := forF_inv (g := yN 2) (body := x__law_right_b4) (items := ws.map msD) (ρ := [.pw u6, .fz (.list (ws.map msD)), .nil, .fz (sysD n bs), .fz (msD ms), .nil, .nil, .nil, .nil, .nil, .nil, .nil, .nil])
      (fun i ρ => ∃ u' t2 t5 t6 t7 t8 t9 t10, ρ = [.pw u', .fz (.list (ws.map msD)), t2, .fz (sysD n bs), .fz (msD ms), t5, t6, t7, t8, t9, t10, .nil, .nil] ∧ okU (50000 - 100 * (i : Int)) u') ⟨u6, _, _, _, _, _, _, _, rfl, okU_le hu6 (by omega)⟩ (by
        rintro i d ρ hd ⟨u7, t2, t5, t6, t7, t8, t9, t10, rfl, hu7⟩
        have hlt := (List.getElem?_eq_some_iff.mp hd).1
        rw [List.length_map, hlen] at hlt
        rw [List.getElem?_map] at hd
        obtain ⟨one, h1, rfl⟩ := Option.map_eq_some_iff.mp hd
        have w1 := hws one (List.mem_of_getElem? h1)
        refine ⟨_, rfl, ?_⟩
        obtain ⟨ρ4, e8, u8, r5, r6, r7, r8, r9, r10, rfl, hu8⟩ := forF_inv (g := yN 5) (body := x__law_right_b3) (items := ws.map msD) (ρ := [.pw u7, .fz (.list (ws.map msD)), .fz (msD one), .fz (sysD n bs), .fz (msD ms), t5, t6, t7, t8, t9, t10, .nil, .nil])
          (fun k ρ => ∃ u' t5 t6 t7 t8 t9 t10, ρ = [.pw u', .fz (.list (ws.map msD)), .fz (msD one), .fz (sysD n bs), .fz (msD ms), t5, t6, t7, t8, t9, t10, .nil, .nil] ∧ okU (50000 - 100 * (i : Int) - 2 * (k : Int)) u') ⟨u7, _, _, _, _, _, _, rfl, okU_le hu7 (by omega)⟩ (by
            rintro k d ρ hd ⟨u8, r5, r6, r7, r8, r9, r10, rfl, hu8⟩
            have hlt2 := (List.getElem?_eq_some_iff.mp hd).1
            rw [List.length_map, hlen] at hlt2
            rw [List.getElem?_map] at hd
            obtain ⟨two, h2, rfl⟩ := Option.map_eq_some_iff.mp hd
            have w2 := hws two (List.mem_of_getElem? h2)
            refine ⟨_, rfl, ?_⟩
            obtain ⟨u9, q6, q7, q8, q9, e9, hu9⟩ := pair_right (s4 := .fz (msD ms)) (s6 := r6) (s7 := r7) (s8 := r8) (s9 := r9) (s10 := r10) hu8 (by omega) hs w1 w2 hws hlen fun w v h1 h2 => held_rise hh h1 h2
            exact ⟨_, .inl e9, u9, _, _, _, _, _, _, rfl, okU_le hu9 (by omega)⟩)
        rw [List.length_map, hlen] at hu8
        unfold x__law_right_b4
        simp only [FL.runD, FL.startZ, FL.outsZ, FL.finZ, FL.endZ, List.replicate, List.cons_append, List.nil_append, List.append_nil, FL.zSeq, FL.zIf, FL.zRet, FL.zRetN, FL.zNext, FL.zDrop, FL.zSet, FL.zAsg, FL.zPar, FL.zRaise, FL.zSt, FL.zFor, FL.zBreak, FL.zCont, FL.asgZ, FL.xVar, FL.xC, FL.xOp, FL.xUn, FL.xB, FL.xAnd, FL.xOr, FL.xNot, FL.xAndE, FL.xOrE, FL.xNotE, FL.xIf, FL.xChain, FL.xaNil, FL.xaCons, FL.peeksZ, FL.xCB, FL.frzB, FL.frzZ, FL.xfNil, FL.xfCons, FL.xTup, FL.xLst, FL.xoNone, FL.xoSome, FL.xSl, FL.xLc, FL.xYes, FL.xiSeq, FL.xiRg, FL.xiEnum, FL.xiZip, FL.xMt, FL.xCall, FL.xcNil, FL.xcFz, FL.xcBw, FL.xcAn, FL.zForN, FL.xLcN, FL.bkZ, FL.xcOw, FL.xcPerm, FL.resZ, FL.backZ, FL.toPwZ, FL.xIs, FL.xIs2, FL.xExc, FL.Rs.bind, FL.getZ, FL.setZ, FL.nilsZ, FL.zlD, FL.peekZ, FL.boolZ, FL.opZ, FL.conZ, FL.wrZ, DL.stl, DL.RR.vr, DL.Cn.d, DL.noOw, DL.permR, DL.nthR, DL.isInt, DL.isBool, DL.isStr, DL.isList, DL.isTuple, DL.isNoneD, FL.yN, FL.ysNil, FL.ysCons, FL.yT, FL.yI, FL.yIc, FL.ySub, FL.yLt, FL.yLe, FL.yGt, FL.yGe, FL.yMul, FL.yDiv, FL.yMod, FL.yPow, FL.yNeg, FL.yAdd, FL.yIsN, FL.yIsB, FL.yEq, FL.yInn, FL.yIx, FL.yLen, FL.yInt, FL.yAbs, FL.yMax, FL.yMin, FL.ySum, FL.yAll, FL.yAny, FL.yDivmod, FL.yList, FL.yTuple, FL.yMulS, FL.ySl, FL.fAppend, FL.fPop, FL.fPopAt, FL.fInsert, FL.fExtend, FL.fReverse, FL.fCount, FL.fIndex, if_pos, if_neg, Bool.not_true, Bool.not_false, Bool.xor_false, Bool.false_xor, Bool.xor_true, Bool.true_xor, if_true, if_false, Bool.false_eq_true, and_true, true_and, and_self, Option.isSome_some, Option.isSome_none, reduceIte, e8]
        exact ⟨_, .inl rfl, u8, _, _, _, _, _, _, _, rfl, okU_le hu8 (by omega)⟩)
    rw [← em] at e7
    exact ⟨_, _, _, _, _, _, _, _, _, _, e5, sz, e7⟩
  unfold F__law_right x__law_right
  by_cases hq7 : q = 7
  · obtain ⟨ds, u6, u7, t2, t5, t6, t7, t8, t9, t10, e5, sz, e7⟩ := key u4 (okU_le hu4 (by omega))
    simp only [FL.runD, FL.startZ, FL.outsZ, FL.finZ, FL.endZ, List.replicate, List.cons_append, List.nil_append, List.append_nil, FL.zSeq, FL.zIf, FL.zRet, FL.zRetN, FL.zNext, FL.zDrop, FL.zSet, FL.zAsg, FL.zPar, FL.zRaise, FL.zSt, FL.zFor, FL.zBreak, FL.zCont, FL.asgZ, FL.xVar, FL.xC, FL.xOp, FL.xUn, FL.xB, FL.xAnd, FL.xOr, FL.xNot, FL.xAndE, FL.xOrE, FL.xNotE, FL.xIf, FL.xChain, FL.xaNil, FL.xaCons, FL.peeksZ, FL.xCB, FL.frzB, FL.frzZ, FL.xfNil, FL.xfCons, FL.xTup, FL.xLst, FL.xoNone, FL.xoSome, FL.xSl, FL.xLc, FL.xYes, FL.xiSeq, FL.xiRg, FL.xiEnum, FL.xiZip, FL.xMt, FL.xCall, FL.xcNil, FL.xcFz, FL.xcBw, FL.xcAn, FL.zForN, FL.xLcN, FL.bkZ, FL.xcOw, FL.xcPerm, FL.resZ, FL.backZ, FL.toPwZ, FL.xIs, FL.xIs2, FL.xExc, FL.Rs.bind, FL.getZ, FL.setZ, FL.nilsZ, FL.zlD, FL.peekZ, FL.boolZ, FL.opZ, FL.conZ, FL.wrZ, DL.stl, DL.RR.vr, DL.Cn.d, DL.noOw, DL.permR, DL.nthR, DL.isInt, DL.isBool, DL.isStr, DL.isList, DL.isTuple, DL.isNoneD, FL.yN, FL.ysNil, FL.ysCons, FL.yT, FL.yI, FL.yIc, FL.ySub, FL.yLt, FL.yLe, FL.yGt, FL.yGe, FL.yMul, FL.yDiv, FL.yMod, FL.yPow, FL.yNeg, FL.yAdd, FL.yIsN, FL.yIsB, FL.yEq, FL.yInn, FL.yIx, FL.yLen, FL.yInt, FL.yAbs, FL.yMax, FL.yMin, FL.ySum, FL.yAll, FL.yAny, FL.yDivmod, FL.yList, FL.yTuple, FL.yMulS, FL.ySl, FL.fAppend, FL.fPop, FL.fPopAt, FL.fInsert, FL.fExtend, FL.fReverse, FL.fCount, FL.fIndex, if_pos, if_neg, Bool.not_true, Bool.not_false, Bool.xor_false, Bool.false_xor, Bool.xor_true, Bool.true_xor, if_true, if_false, Bool.false_eq_true, and_true, true_and, and_self, Option.isSome_some, Option.isSome_none, reduceIte, e1, e2, e3, e4, sh_int, eqv_int, decide_eq_true hq7, rg, e5, sz, e7]
    exact ⟨_, rfl⟩
  · obtain ⟨ds, u6, u7, t2, t5, t6, t7, t8, t9, t10, e5, sz, e7⟩ := key u3 (okU_le hu3 (by omega))
    simp only [FL.runD, FL.startZ, FL.outsZ, FL.finZ, FL.endZ, List.replicate, List.cons_append, List.nil_append, List.append_nil, FL.zSeq, FL.zIf, FL.zRet, FL.zRetN, FL.zNext, FL.zDrop, FL.zSet, FL.zAsg, FL.zPar, FL.zRaise, FL.zSt, FL.zFor, FL.zBreak, FL.zCont, FL.asgZ, FL.xVar, FL.xC, FL.xOp, FL.xUn, FL.xB, FL.xAnd, FL.xOr, FL.xNot, FL.xAndE, FL.xOrE, FL.xNotE, FL.xIf, FL.xChain, FL.xaNil, FL.xaCons, FL.peeksZ, FL.xCB, FL.frzB, FL.frzZ, FL.xfNil, FL.xfCons, FL.xTup, FL.xLst, FL.xoNone, FL.xoSome, FL.xSl, FL.xLc, FL.xYes, FL.xiSeq, FL.xiRg, FL.xiEnum, FL.xiZip, FL.xMt, FL.xCall, FL.xcNil, FL.xcFz, FL.xcBw, FL.xcAn, FL.zForN, FL.xLcN, FL.bkZ, FL.xcOw, FL.xcPerm, FL.resZ, FL.backZ, FL.toPwZ, FL.xIs, FL.xIs2, FL.xExc, FL.Rs.bind, FL.getZ, FL.setZ, FL.nilsZ, FL.zlD, FL.peekZ, FL.boolZ, FL.opZ, FL.conZ, FL.wrZ, DL.stl, DL.RR.vr, DL.Cn.d, DL.noOw, DL.permR, DL.nthR, DL.isInt, DL.isBool, DL.isStr, DL.isList, DL.isTuple, DL.isNoneD, FL.yN, FL.ysNil, FL.ysCons, FL.yT, FL.yI, FL.yIc, FL.ySub, FL.yLt, FL.yLe, FL.yGt, FL.yGe, FL.yMul, FL.yDiv, FL.yMod, FL.yPow, FL.yNeg, FL.yAdd, FL.yIsN, FL.yIsB, FL.yEq, FL.yInn, FL.yIx, FL.yLen, FL.yInt, FL.yAbs, FL.yMax, FL.yMin, FL.ySum, FL.yAll, FL.yAny, FL.yDivmod, FL.yList, FL.yTuple, FL.yMulS, FL.ySl, FL.fAppend, FL.fPop, FL.fPopAt, FL.fInsert, FL.fExtend, FL.fReverse, FL.fCount, FL.fIndex, if_pos, if_neg, Bool.not_true, Bool.not_false, Bool.xor_false, Bool.false_xor, Bool.xor_true, Bool.true_xor, if_true, if_false, Bool.false_eq_true, and_true, true_and, and_self, Option.isSome_some, Option.isSome_none, reduceIte, e1, e2, e3, sh_int, eqv_int, decide_eq_false hq7, rg, e5, sz, e7]
    exact ⟨_, rfl⟩
theorem law_true (ns : List Int) (h : ns.length ≤ 63) (_ : ∀ z ∈ ns, Builtin.Int.intBits z ≤ 1048576) : ∃ l, F_law [.sc ns] = .ok (.fz (.bool true)) l := by
  have rg := rg_1 (j := max 1 (min 3 (ns.length : Int))) (by omega)
  obtain ⟨ρ, e, s1, rfl⟩ := forF_inv (g := yN 1) (body := x_law_b1) (items := rgD 0 1 (max 1 (min 3 (ns.length : Int))).toNat) (ρ := [.sc ns, .nil]) (fun i ρ => ∃ s1, ρ = [.sc ns, s1]) ⟨_, rfl⟩ (by
    rintro i d ρ hd ⟨s1, rfl⟩
    have hlt := (List.getElem?_eq_some_iff.mp hd).1
    rw [rgD_len] at hlt
    rw [rgD_get hlt] at hd
    cases hd
    refine ⟨_, rfl, ?_⟩
    obtain ⟨u, e1, hu⟩ := e_urn (ns := ns) (t := 0 + (i : Int) * 1) (by omega) (by omega)
    obtain ⟨u', e2⟩ := e__law_right hu (by decide)
    unfold x_law_b1
    simp only [FL.runD, FL.startZ, FL.outsZ, FL.finZ, FL.endZ, List.replicate, List.cons_append, List.nil_append, List.append_nil, FL.zSeq, FL.zIf, FL.zRet, FL.zRetN, FL.zNext, FL.zDrop, FL.zSet, FL.zAsg, FL.zPar, FL.zRaise, FL.zSt, FL.zFor, FL.zBreak, FL.zCont, FL.asgZ, FL.xVar, FL.xC, FL.xOp, FL.xUn, FL.xB, FL.xAnd, FL.xOr, FL.xNot, FL.xAndE, FL.xOrE, FL.xNotE, FL.xIf, FL.xChain, FL.xaNil, FL.xaCons, FL.peeksZ, FL.xCB, FL.frzB, FL.frzZ, FL.xfNil, FL.xfCons, FL.xTup, FL.xLst, FL.xoNone, FL.xoSome, FL.xSl, FL.xLc, FL.xYes, FL.xiSeq, FL.xiRg, FL.xiEnum, FL.xiZip, FL.xMt, FL.xCall, FL.xcNil, FL.xcFz, FL.xcBw, FL.xcAn, FL.zForN, FL.xLcN, FL.bkZ, FL.xcOw, FL.xcPerm, FL.resZ, FL.backZ, FL.toPwZ, FL.xIs, FL.xIs2, FL.xExc, FL.Rs.bind, FL.getZ, FL.setZ, FL.nilsZ, FL.zlD, FL.peekZ, FL.boolZ, FL.opZ, FL.conZ, FL.wrZ, DL.stl, DL.RR.vr, DL.Cn.d, DL.noOw, DL.permR, DL.nthR, DL.isInt, DL.isBool, DL.isStr, DL.isList, DL.isTuple, DL.isNoneD, FL.yN, FL.ysNil, FL.ysCons, FL.yT, FL.yI, FL.yIc, FL.ySub, FL.yLt, FL.yLe, FL.yGt, FL.yGe, FL.yMul, FL.yDiv, FL.yMod, FL.yPow, FL.yNeg, FL.yAdd, FL.yIsN, FL.yIsB, FL.yEq, FL.yInn, FL.yIx, FL.yLen, FL.yInt, FL.yAbs, FL.yMax, FL.yMin, FL.ySum, FL.yAll, FL.yAny, FL.yDivmod, FL.yList, FL.yTuple, FL.yMulS, FL.ySl, FL.fAppend, FL.fPop, FL.fPopAt, FL.fInsert, FL.fExtend, FL.fReverse, FL.fCount, FL.fIndex, if_pos, if_neg, Bool.not_true, Bool.not_false, Bool.xor_false, Bool.false_xor, Bool.xor_true, Bool.true_xor, if_true, if_false, Bool.false_eq_true, and_true, true_and, and_self, Option.isSome_some, Option.isSome_none, reduceIte, e1, e2]
    exact ⟨_, .inl rfl, _, rfl⟩)
  unfold F_law x_law
  simp only [FL.runD, FL.startZ, FL.outsZ, FL.finZ, FL.endZ, List.replicate, List.cons_append, List.nil_append, List.append_nil, FL.zSeq, FL.zIf, FL.zRet, FL.zRetN, FL.zNext, FL.zDrop, FL.zSet, FL.zAsg, FL.zPar, FL.zRaise, FL.zSt, FL.zFor, FL.zBreak, FL.zCont, FL.asgZ, FL.xVar, FL.xC, FL.xOp, FL.xUn, FL.xB, FL.xAnd, FL.xOr, FL.xNot, FL.xAndE, FL.xOrE, FL.xNotE, FL.xIf, FL.xChain, FL.xaNil, FL.xaCons, FL.peeksZ, FL.xCB, FL.frzB, FL.frzZ, FL.xfNil, FL.xfCons, FL.xTup, FL.xLst, FL.xoNone, FL.xoSome, FL.xSl, FL.xLc, FL.xYes, FL.xiSeq, FL.xiRg, FL.xiEnum, FL.xiZip, FL.xMt, FL.xCall, FL.xcNil, FL.xcFz, FL.xcBw, FL.xcAn, FL.zForN, FL.xLcN, FL.bkZ, FL.xcOw, FL.xcPerm, FL.resZ, FL.backZ, FL.toPwZ, FL.xIs, FL.xIs2, FL.xExc, FL.Rs.bind, FL.getZ, FL.setZ, FL.nilsZ, FL.zlD, FL.peekZ, FL.boolZ, FL.opZ, FL.conZ, FL.wrZ, DL.stl, DL.RR.vr, DL.Cn.d, DL.noOw, DL.permR, DL.nthR, DL.isInt, DL.isBool, DL.isStr, DL.isList, DL.isTuple, DL.isNoneD, FL.yN, FL.ysNil, FL.ysCons, FL.yT, FL.yI, FL.yIc, FL.ySub, FL.yLt, FL.yLe, FL.yGt, FL.yGe, FL.yMul, FL.yDiv, FL.yMod, FL.yPow, FL.yNeg, FL.yAdd, FL.yIsN, FL.yIsB, FL.yEq, FL.yInn, FL.yIx, FL.yLen, FL.yInt, FL.yAbs, FL.yMax, FL.yMin, FL.ySum, FL.yAll, FL.yAny, FL.yDivmod, FL.yList, FL.yTuple, FL.yMulS, FL.ySl, FL.fAppend, FL.fPop, FL.fPopAt, FL.fInsert, FL.fExtend, FL.fReverse, FL.fCount, FL.fIndex, if_pos, if_neg, Bool.not_true, Bool.not_false, Bool.xor_false, Bool.false_xor, Bool.xor_true, Bool.true_xor, if_true, if_false, Bool.false_eq_true, and_true, true_and, and_self, Option.isSome_some, Option.isSome_none, reduceIte, rg, e]
  exact ⟨_, rfl⟩
end FP
set_option Elab.async false
set_option linter.all false
set_option maxRecDepth 100000
set_option maxHeartbeats 4000000
namespace T10
open PySem PySem.Spec PyProof.Rows L2 DL FL FP
/-- the defs of the text -/
structure Hs (K : PySem.W.Frag) (mg : Str → Option Value) : Prop where
  h_is_integer : Has K mg "is_integer" s_is_integer
  h_is_from : Has K mg "is_from" s_is_from
  h_is_between : Has K mg "is_between" s_is_between
  h_is_index : Has K mg "is_index" s_is_index
  h_is_bound : Has K mg "is_bound" s_is_bound
  h_is_system_form : Has K mg "is_system_form" s_is_system_form
  h_has_moments : Has K mg "has_moments" s_has_moments
  h_keeps_bound : Has K mg "keeps_bound" s_keeps_bound
  h_is_world_of : Has K mg "is_world_of" s_is_world_of
  h_check_system : Has K mg "check_system" s_check_system
  h_check_world : Has K mg "check_world" s_check_world
  h_is_world : Has K mg "is_world" s_is_world
  h_check_worlds : Has K mg "check_worlds" s_check_worlds
  h_lesser : Has K mg "lesser" s_lesser
  h_greater : Has K mg "greater" s_greater
  h_greatest_rise : Has K mg "greatest_rise" s_greatest_rise
  h_moves_between : Has K mg "moves_between" s_moves_between
  h_moved_up : Has K mg "moved_up" s_moved_up
  h_moved_down : Has K mg "moved_down" s_moved_down
  h_walk : Has K mg "walk" s_walk
  h__law_urn : Has K mg "_law_urn" s__law_urn
  h__law_pick : Has K mg "_law_pick" s__law_pick
  h__law_reach : Has K mg "_law_reach" s__law_reach
  h__law_frame : Has K mg "_law_frame" s__law_frame
  h__law_whole : Has K mg "_law_whole" s__law_whole
  h__law_moments : Has K mg "_law_moments" s__law_moments
  h__law_keeps : Has K mg "_law_keeps" s__law_keeps
  h__law_held : Has K mg "_law_held" s__law_held
  h__law_other : Has K mg "_law_other" s__law_other
  h__law_is_move : Has K mg "_law_is_move" s__law_is_move
  h__law_walk_right : Has K mg "_law_walk_right" s__law_walk_right
  h__law_far_right : Has K mg "_law_far_right" s__law_far_right
  h__law_long_right : Has K mg "_law_long_right" s__law_long_right
  h__law_right : Has K mg "_law_right" s__law_right
  h_law : Has K mg "law" s_law
theorem ok_is_integer {w : World} {K : PySem.W.Frag} {mg : Str → Option Value} {base : Heap} {cl : String → Addr} (T : Tx K mg cl) (Hh : Hs K mg) : FnC PW w K mg base 1 "is_integer" P_is_integer s_is_integer (spF cl F_is_integer) :=
  okF Hh.h_is_integer sc_is_integer rfl rfl fun cdv f A outer s H E hr => dv_is_integer T hr
theorem ok_is_from {w : World} {K : PySem.W.Frag} {mg : Str → Option Value} {base : Heap} {cl : String → Addr} (T : Tx K mg cl) (Hh : Hs K mg) : FnC PW w K mg base 2 "is_from" P_is_from s_is_from (spF cl F_is_from) :=
  okF Hh.h_is_from sc_is_from rfl rfl fun cdv f A outer s H E hr => dv_is_from T hr ((ok_is_integer T Hh).mono (by decide))
theorem ok_is_between {w : World} {K : PySem.W.Frag} {mg : Str → Option Value} {base : Heap} {cl : String → Addr} (T : Tx K mg cl) (Hh : Hs K mg) : FnC PW w K mg base 2 "is_between" P_is_between s_is_between (spF cl F_is_between) :=
  okF Hh.h_is_between sc_is_between rfl rfl fun cdv f A outer s H E hr => dv_is_between T hr ((ok_is_integer T Hh).mono (by decide))
theorem ok_is_index {w : World} {K : PySem.W.Frag} {mg : Str → Option Value} {base : Heap} {cl : String → Addr} (T : Tx K mg cl) (Hh : Hs K mg) : FnC PW w K mg base 3 "is_index" P_is_index s_is_index (spF cl F_is_index) :=
  okF Hh.h_is_index sc_is_index rfl rfl fun cdv f A outer s H E hr => dv_is_index T hr ((ok_is_between T Hh).mono (by decide))
theorem ok_is_bound {w : World} {K : PySem.W.Frag} {mg : Str → Option Value} {base : Heap} {cl : String → Addr} (T : Tx K mg cl) (Hh : Hs K mg) : FnC PW w K mg base 4 "is_bound" P_is_bound s_is_bound (spF cl F_is_bound) :=
  okF Hh.h_is_bound sc_is_bound rfl rfl fun cdv f A outer s H E hr => dv_is_bound T hr ((ok_is_index T Hh).mono (by decide)) ((ok_is_integer T Hh).mono (by decide))
theorem ok_is_system_form {w : World} {K : PySem.W.Frag} {mg : Str → Option Value} {base : Heap} {cl : String → Addr} (T : Tx K mg cl) (Hh : Hs K mg) : FnC PW w K mg base 5 "is_system_form" P_is_system_form s_is_system_form (spF cl F_is_system_form) :=
  okF Hh.h_is_system_form sc_is_system_form rfl rfl fun cdv f A outer s H E hr => dv_is_system_form T hr ((ok_is_bound T Hh).mono (by decide)) ((ok_is_from T Hh).mono (by decide))
theorem ok_has_moments {w : World} {K : PySem.W.Frag} {mg : Str → Option Value} {base : Heap} {cl : String → Addr} (T : Tx K mg cl) (Hh : Hs K mg) : FnC PW w K mg base 2 "has_moments" P_has_moments s_has_moments (spF cl F_has_moments) :=
  okF Hh.h_has_moments sc_has_moments rfl rfl fun cdv f A outer s H E hr => dv_has_moments T hr ((ok_is_integer T Hh).mono (by decide))
theorem ok_keeps_bound {w : World} {K : PySem.W.Frag} {mg : Str → Option Value} {base : Heap} {cl : String → Addr} (T : Tx K mg cl) (Hh : Hs K mg) : FnC PW w K mg base 1 "keeps_bound" P_keeps_bound s_keeps_bound (spF cl F_keeps_bound) :=
  okF Hh.h_keeps_bound sc_keeps_bound rfl rfl fun cdv f A outer s H E hr => dv_keeps_bound T hr
theorem ok_is_world_of {w : World} {K : PySem.W.Frag} {mg : Str → Option Value} {base : Heap} {cl : String → Addr} (T : Tx K mg cl) (Hh : Hs K mg) : FnC PW w K mg base 3 "is_world_of" P_is_world_of s_is_world_of (spF cl F_is_world_of) :=
  okF Hh.h_is_world_of sc_is_world_of rfl rfl fun cdv f A outer s H E hr => dv_is_world_of T hr ((ok_keeps_bound T Hh).mono (by decide)) ((ok_has_moments T Hh).mono (by decide))
theorem ok_check_system {w : World} {K : PySem.W.Frag} {mg : Str → Option Value} {base : Heap} {cl : String → Addr} (T : Tx K mg cl) (Hh : Hs K mg) : FnC PW w K mg base 6 "check_system" P_check_system s_check_system (spF cl F_check_system) :=
  okF Hh.h_check_system sc_check_system rfl rfl fun cdv f A outer s H E hr => dv_check_system T hr ((ok_is_system_form T Hh).mono (by decide))
theorem ok_check_world {w : World} {K : PySem.W.Frag} {mg : Str → Option Value} {base : Heap} {cl : String → Addr} (T : Tx K mg cl) (Hh : Hs K mg) : FnC PW w K mg base 4 "check_world" P_check_world s_check_world (spF cl F_check_world) :=
  okF Hh.h_check_world sc_check_world rfl rfl fun cdv f A outer s H E hr => dv_check_world T hr ((ok_is_world_of T Hh).mono (by decide))
theorem ok_is_world {w : World} {K : PySem.W.Frag} {mg : Str → Option Value} {base : Heap} {cl : String → Addr} (T : Tx K mg cl) (Hh : Hs K mg) : FnC PW w K mg base 7 "is_world" P_is_world s_is_world (spF cl F_is_world) :=
  okF Hh.h_is_world sc_is_world rfl rfl fun cdv f A outer s H E hr => dv_is_world T hr ((ok_is_world_of T Hh).mono (by decide)) ((ok_check_system T Hh).mono (by decide))
theorem ok_check_worlds {w : World} {K : PySem.W.Frag} {mg : Str → Option Value} {base : Heap} {cl : String → Addr} (T : Tx K mg cl) (Hh : Hs K mg) : FnC PW w K mg base 7 "check_worlds" P_check_worlds s_check_worlds (spF cl F_check_worlds) :=
  okF Hh.h_check_worlds sc_check_worlds rfl rfl fun cdv f A outer s H E hr => dv_check_worlds T hr ((ok_check_world T Hh).mono (by decide)) ((ok_check_system T Hh).mono (by decide))
theorem ok_lesser {w : World} {K : PySem.W.Frag} {mg : Str → Option Value} {base : Heap} {cl : String → Addr} (T : Tx K mg cl) (Hh : Hs K mg) : FnC PW w K mg base 8 "lesser" P_lesser s_lesser (spF cl F_lesser) :=
  okF Hh.h_lesser sc_lesser rfl rfl fun cdv f A outer s H E hr => dv_lesser T hr ((ok_check_worlds T Hh).mono (by decide))
theorem ok_greater {w : World} {K : PySem.W.Frag} {mg : Str → Option Value} {base : Heap} {cl : String → Addr} (T : Tx K mg cl) (Hh : Hs K mg) : FnC PW w K mg base 8 "greater" P_greater s_greater (spF cl F_greater) :=
  okF Hh.h_greater sc_greater rfl rfl fun cdv f A outer s H E hr => dv_greater T hr ((ok_check_worlds T Hh).mono (by decide))
theorem ok_greatest_rise {w : World} {K : PySem.W.Frag} {mg : Str → Option Value} {base : Heap} {cl : String → Addr} (T : Tx K mg cl) (Hh : Hs K mg) : FnC PW w K mg base 1 "greatest_rise" P_greatest_rise s_greatest_rise (spF cl F_greatest_rise) :=
  okF Hh.h_greatest_rise sc_greatest_rise rfl rfl fun cdv f A outer s H E hr => dv_greatest_rise T hr
theorem ok_moves_between {w : World} {K : PySem.W.Frag} {mg : Str → Option Value} {base : Heap} {cl : String → Addr} (T : Tx K mg cl) (Hh : Hs K mg) : FnC PW w K mg base 8 "moves_between" P_moves_between s_moves_between (spF cl F_moves_between) :=
  okF Hh.h_moves_between sc_moves_between rfl rfl fun cdv f A outer s H E hr => dv_moves_between T hr ((ok_greatest_rise T Hh).mono (by decide)) ((ok_check_worlds T Hh).mono (by decide))
theorem ok_moved_up {w : World} {K : PySem.W.Frag} {mg : Str → Option Value} {base : Heap} {cl : String → Addr} (T : Tx K mg cl) (Hh : Hs K mg) : FnC PW w K mg base 1 "moved_up" P_moved_up s_moved_up (spF cl F_moved_up) :=
  okF Hh.h_moved_up sc_moved_up rfl rfl fun cdv f A outer s H E hr => dv_moved_up T hr
theorem ok_moved_down {w : World} {K : PySem.W.Frag} {mg : Str → Option Value} {base : Heap} {cl : String → Addr} (T : Tx K mg cl) (Hh : Hs K mg) : FnC PW w K mg base 1 "moved_down" P_moved_down s_moved_down (spF cl F_moved_down) :=
  okF Hh.h_moved_down sc_moved_down rfl rfl fun cdv f A outer s H E hr => dv_moved_down T hr
theorem ok_walk {w : World} {K : PySem.W.Frag} {mg : Str → Option Value} {base : Heap} {cl : String → Addr} (T : Tx K mg cl) (Hh : Hs K mg) : FnC PW w K mg base 8 "walk" P_walk s_walk (spF cl F_walk) :=
  okF Hh.h_walk sc_walk rfl rfl fun cdv f A outer s H E hr => dv_walk T hr ((ok_greatest_rise T Hh).mono (by decide)) ((ok_moved_down T Hh).mono (by decide)) ((ok_moved_up T Hh).mono (by decide)) ((ok_check_worlds T Hh).mono (by decide))
theorem ok__law_urn {w : World} {K : PySem.W.Frag} {mg : Str → Option Value} {base : Heap} {cl : String → Addr} (T : Tx K mg cl) (Hh : Hs K mg) : FnC PW w K mg base 1 "_law_urn" P__law_urn s__law_urn (spF cl F__law_urn) :=
  okF Hh.h__law_urn sc__law_urn rfl rfl fun cdv f A outer s H E hr => dv__law_urn T hr
theorem ok__law_pick {w : World} {K : PySem.W.Frag} {mg : Str → Option Value} {base : Heap} {cl : String → Addr} (T : Tx K mg cl) (Hh : Hs K mg) : FnC PW w K mg base 1 "_law_pick" P__law_pick s__law_pick (spF cl F__law_pick) :=
  okF Hh.h__law_pick sc__law_pick rfl rfl fun cdv f A outer s H E hr => dv__law_pick T hr
theorem ok__law_reach {w : World} {K : PySem.W.Frag} {mg : Str → Option Value} {base : Heap} {cl : String → Addr} (T : Tx K mg cl) (Hh : Hs K mg) : FnC PW w K mg base 2 "_law_reach" P__law_reach s__law_reach (spF cl F__law_reach) :=
  okF Hh.h__law_reach sc__law_reach rfl rfl fun cdv f A outer s H E hr => dv__law_reach T hr ((ok__law_pick T Hh).mono (by decide))
theorem ok__law_frame {w : World} {K : PySem.W.Frag} {mg : Str → Option Value} {base : Heap} {cl : String → Addr} (T : Tx K mg cl) (Hh : Hs K mg) : FnC PW w K mg base 3 "_law_frame" P__law_frame s__law_frame (spF cl F__law_frame) :=
  okF Hh.h__law_frame sc__law_frame rfl rfl fun cdv f A outer s H E hr => dv__law_frame T hr ((ok__law_pick T Hh).mono (by decide)) ((ok__law_reach T Hh).mono (by decide))
theorem ok__law_whole {w : World} {K : PySem.W.Frag} {mg : Str → Option Value} {base : Heap} {cl : String → Addr} (T : Tx K mg cl) (Hh : Hs K mg) : FnC PW w K mg base 1 "_law_whole" P__law_whole s__law_whole (spF cl F__law_whole) :=
  okF Hh.h__law_whole sc__law_whole rfl rfl fun cdv f A outer s H E hr => dv__law_whole T hr
theorem ok__law_moments {w : World} {K : PySem.W.Frag} {mg : Str → Option Value} {base : Heap} {cl : String → Addr} (T : Tx K mg cl) (Hh : Hs K mg) : FnC PW w K mg base 2 "_law_moments" P__law_moments s__law_moments (spF cl F__law_moments) :=
  okF Hh.h__law_moments sc__law_moments rfl rfl fun cdv f A outer s H E hr => dv__law_moments T hr ((ok__law_whole T Hh).mono (by decide))
theorem ok__law_keeps {w : World} {K : PySem.W.Frag} {mg : Str → Option Value} {base : Heap} {cl : String → Addr} (T : Tx K mg cl) (Hh : Hs K mg) : FnC PW w K mg base 1 "_law_keeps" P__law_keeps s__law_keeps (spF cl F__law_keeps) :=
  okF Hh.h__law_keeps sc__law_keeps rfl rfl fun cdv f A outer s H E hr => dv__law_keeps T hr
theorem ok__law_held {w : World} {K : PySem.W.Frag} {mg : Str → Option Value} {base : Heap} {cl : String → Addr} (T : Tx K mg cl) (Hh : Hs K mg) : FnC PW w K mg base 4 "_law_held" P__law_held s__law_held (spF cl F__law_held) :=
  okF Hh.h__law_held sc__law_held rfl rfl fun cdv f A outer s H E hr => dv__law_held T hr ((ok__law_pick T Hh).mono (by decide)) ((ok__law_frame T Hh).mono (by decide))
theorem ok__law_other {w : World} {K : PySem.W.Frag} {mg : Str → Option Value} {base : Heap} {cl : String → Addr} (T : Tx K mg cl) (Hh : Hs K mg) : FnC PW w K mg base 2 "_law_other" P__law_other s__law_other (spF cl F__law_other) :=
  okF Hh.h__law_other sc__law_other rfl rfl fun cdv f A outer s H E hr => dv__law_other T hr ((ok__law_keeps T Hh).mono (by decide)) ((ok__law_pick T Hh).mono (by decide))
theorem ok__law_is_move {w : World} {K : PySem.W.Frag} {mg : Str → Option Value} {base : Heap} {cl : String → Addr} (T : Tx K mg cl) (Hh : Hs K mg) : FnC PW w K mg base 1 "_law_is_move" P__law_is_move s__law_is_move (spF cl F__law_is_move) :=
  okF Hh.h__law_is_move sc__law_is_move rfl rfl fun cdv f A outer s H E hr => dv__law_is_move T hr
theorem ok__law_walk_right {w : World} {K : PySem.W.Frag} {mg : Str → Option Value} {base : Heap} {cl : String → Addr} (T : Tx K mg cl) (Hh : Hs K mg) : FnC PW w K mg base 9 "_law_walk_right" P__law_walk_right s__law_walk_right (spF cl F__law_walk_right) :=
  okF Hh.h__law_walk_right sc__law_walk_right rfl rfl fun cdv f A outer s H E hr => dv__law_walk_right T hr ((ok_moves_between T Hh).mono (by decide)) ((ok_walk T Hh).mono (by decide)) ((ok__law_is_move T Hh).mono (by decide)) ((ok__law_moments T Hh).mono (by decide)) ((ok_is_world T Hh).mono (by decide))
theorem ok__law_far_right {w : World} {K : PySem.W.Frag} {mg : Str → Option Value} {base : Heap} {cl : String → Addr} (T : Tx K mg cl) (Hh : Hs K mg) : FnC PW w K mg base 9 "_law_far_right" P__law_far_right s__law_far_right (spF cl F__law_far_right) :=
  okF Hh.h__law_far_right sc__law_far_right rfl rfl fun cdv f A outer s H E hr => dv__law_far_right T hr ((ok_greater T Hh).mono (by decide)) ((ok_lesser T Hh).mono (by decide)) ((ok__law_whole T Hh).mono (by decide)) ((ok_moves_between T Hh).mono (by decide)) ((ok__law_reach T Hh).mono (by decide))
theorem ok__law_long_right {w : World} {K : PySem.W.Frag} {mg : Str → Option Value} {base : Heap} {cl : String → Addr} (T : Tx K mg cl) (Hh : Hs K mg) : FnC PW w K mg base 9 "_law_long_right" P__law_long_right s__law_long_right (spF cl F__law_long_right) :=
  okF Hh.h__law_long_right sc__law_long_right rfl rfl fun cdv f A outer s H E hr => dv__law_long_right T hr ((ok_walk T Hh).mono (by decide)) ((ok__law_pick T Hh).mono (by decide)) ((ok__law_reach T Hh).mono (by decide))
theorem ok__law_right {w : World} {K : PySem.W.Frag} {mg : Str → Option Value} {base : Heap} {cl : String → Addr} (T : Tx K mg cl) (Hh : Hs K mg) : FnC PW w K mg base 10 "_law_right" P__law_right s__law_right (spF cl F__law_right) :=
  okF Hh.h__law_right sc__law_right rfl rfl fun cdv f A outer s H E hr => dv__law_right T hr ((ok_moves_between T Hh).mono (by decide)) ((ok__law_pick T Hh).mono (by decide)) ((ok__law_walk_right T Hh).mono (by decide)) ((ok_is_world T Hh).mono (by decide)) ((ok_greater T Hh).mono (by decide)) ((ok_lesser T Hh).mono (by decide)) ((ok__law_other T Hh).mono (by decide)) ((ok__law_long_right T Hh).mono (by decide)) ((ok__law_far_right T Hh).mono (by decide)) ((ok__law_held T Hh).mono (by decide))
theorem ok_law {w : World} {K : PySem.W.Frag} {mg : Str → Option Value} {base : Heap} {cl : String → Addr} (T : Tx K mg cl) (Hh : Hs K mg) : FnC PW w K mg base 11 "law" P_law s_law (spF cl F_law) :=
  okF Hh.h_law sc_law rfl rfl fun cdv f A outer s H E hr => dv_law T hr ((ok__law_right T Hh).mono (by decide)) ((ok__law_urn T Hh).mono (by decide))

theorem all_mk {w : World} {K : PySem.W.Frag} {h : Heap} {mg : Str → Option Value} (X : K.In h) (G : h.Ns mainGlobals mg) {C1 : Addr} {C2 : Addr}
    {f_is_integer : Addr} {oc_is_integer : Value} {od_is_integer an_is_integer : Option Addr} {sl_is_integer : Array (Option Value)} {kV_is_integer dc_is_integer pm_is_integer cd_is_integer ct_is_integer : Value} {f_is_from : Addr} {oc_is_from : Value} {od_is_from an_is_from : Option Addr} {sl_is_from : Array (Option Value)} {kV_is_from dc_is_from pm_is_from cd_is_from ct_is_from : Value} {f_is_between : Addr} {oc_is_between : Value} {od_is_between an_is_between : Option Addr} {sl_is_between : Array (Option Value)} {kV_is_between dc_is_between pm_is_between cd_is_between ct_is_between : Value} {f_is_index : Addr} {oc_is_index : Value} {od_is_index an_is_index : Option Addr} {sl_is_index : Array (Option Value)} {kV_is_index dc_is_index pm_is_index cd_is_index ct_is_index : Value} {f_is_bound : Addr} {oc_is_bound : Value} {od_is_bound an_is_bound : Option Addr} {sl_is_bound : Array (Option Value)} {kV_is_bound dc_is_bound pm_is_bound cd_is_bound ct_is_bound : Value} {f_is_system_form : Addr} {oc_is_system_form : Value} {od_is_system_form an_is_system_form : Option Addr} {sl_is_system_form : Array (Option Value)} {kV_is_system_form dc_is_system_form pm_is_system_form cd_is_system_form ct_is_system_form : Value} {f_has_moments : Addr} {oc_has_moments : Value} {od_has_moments an_has_moments : Option Addr} {sl_has_moments : Array (Option Value)} {kV_has_moments dc_has_moments pm_has_moments cd_has_moments ct_has_moments : Value} {f_keeps_bound : Addr} {oc_keeps_bound : Value} {od_keeps_bound an_keeps_bound : Option Addr} {sl_keeps_bound : Array (Option Value)} {kV_keeps_bound dc_keeps_bound pm_keeps_bound cd_keeps_bound ct_keeps_bound : Value} {f_is_world_of : Addr} {oc_is_world_of : Value} {od_is_world_of an_is_world_of : Option Addr} {sl_is_world_of : Array (Option Value)} {kV_is_world_of dc_is_world_of pm_is_world_of cd_is_world_of ct_is_world_of : Value} {f_check_system : Addr} {oc_check_system : Value} {od_check_system an_check_system : Option Addr} {sl_check_system : Array (Option Value)} {kV_check_system dc_check_system pm_check_system cd_check_system ct_check_system : Value} {f_check_world : Addr} {oc_check_world : Value} {od_check_world an_check_world : Option Addr} {sl_check_world : Array (Option Value)} {kV_check_world dc_check_world pm_check_world cd_check_world ct_check_world : Value} {f_is_world : Addr} {oc_is_world : Value} {od_is_world an_is_world : Option Addr} {sl_is_world : Array (Option Value)} {kV_is_world dc_is_world pm_is_world cd_is_world ct_is_world : Value} {f_check_worlds : Addr} {oc_check_worlds : Value} {od_check_worlds an_check_worlds : Option Addr} {sl_check_worlds : Array (Option Value)} {kV_check_worlds dc_check_worlds pm_check_worlds cd_check_worlds ct_check_worlds : Value} {f_lesser : Addr} {oc_lesser : Value} {od_lesser an_lesser : Option Addr} {sl_lesser : Array (Option Value)} {kV_lesser dc_lesser pm_lesser cd_lesser ct_lesser : Value} {f_greater : Addr} {oc_greater : Value} {od_greater an_greater : Option Addr} {sl_greater : Array (Option Value)} {kV_greater dc_greater pm_greater cd_greater ct_greater : Value} {f_greatest_rise : Addr} {oc_greatest_rise : Value} {od_greatest_rise an_greatest_rise : Option Addr} {sl_greatest_rise : Array (Option Value)} {kV_greatest_rise dc_greatest_rise pm_greatest_rise cd_greatest_rise ct_greatest_rise : Value} {f_moves_between : Addr} {oc_moves_between : Value} {od_moves_between an_moves_between : Option Addr} {sl_moves_between : Array (Option Value)} {kV_moves_between dc_moves_between pm_moves_between cd_moves_between ct_moves_between : Value} {f_moved_up : Addr} {oc_moved_up : Value} {od_moved_up an_moved_up : Option Addr} {sl_moved_up : Array (Option Value)} {kV_moved_up dc_moved_up pm_moved_up cd_moved_up ct_moved_up : Value} {f_moved_down : Addr} {oc_moved_down : Value} {od_moved_down an_moved_down : Option Addr} {sl_moved_down : Array (Option Value)} {kV_moved_down dc_moved_down pm_moved_down cd_moved_down ct_moved_down : Value} {f_walk : Addr} {oc_walk : Value} {od_walk an_walk : Option Addr} {sl_walk : Array (Option Value)} {kV_walk dc_walk pm_walk cd_walk ct_walk : Value} {f__law_urn : Addr} {oc__law_urn : Value} {od__law_urn an__law_urn : Option Addr} {sl__law_urn : Array (Option Value)} {kV__law_urn dc__law_urn pm__law_urn cd__law_urn ct__law_urn : Value} {f__law_pick : Addr} {oc__law_pick : Value} {od__law_pick an__law_pick : Option Addr} {sl__law_pick : Array (Option Value)} {kV__law_pick dc__law_pick pm__law_pick cd__law_pick ct__law_pick : Value} {f__law_reach : Addr} {oc__law_reach : Value} {od__law_reach an__law_reach : Option Addr} {sl__law_reach : Array (Option Value)} {kV__law_reach dc__law_reach pm__law_reach cd__law_reach ct__law_reach : Value} {f__law_frame : Addr} {oc__law_frame : Value} {od__law_frame an__law_frame : Option Addr} {sl__law_frame : Array (Option Value)} {kV__law_frame dc__law_frame pm__law_frame cd__law_frame ct__law_frame : Value} {f__law_whole : Addr} {oc__law_whole : Value} {od__law_whole an__law_whole : Option Addr} {sl__law_whole : Array (Option Value)} {kV__law_whole dc__law_whole pm__law_whole cd__law_whole ct__law_whole : Value} {f__law_moments : Addr} {oc__law_moments : Value} {od__law_moments an__law_moments : Option Addr} {sl__law_moments : Array (Option Value)} {kV__law_moments dc__law_moments pm__law_moments cd__law_moments ct__law_moments : Value} {f__law_keeps : Addr} {oc__law_keeps : Value} {od__law_keeps an__law_keeps : Option Addr} {sl__law_keeps : Array (Option Value)} {kV__law_keeps dc__law_keeps pm__law_keeps cd__law_keeps ct__law_keeps : Value} {f__law_held : Addr} {oc__law_held : Value} {od__law_held an__law_held : Option Addr} {sl__law_held : Array (Option Value)} {kV__law_held dc__law_held pm__law_held cd__law_held ct__law_held : Value} {f__law_other : Addr} {oc__law_other : Value} {od__law_other an__law_other : Option Addr} {sl__law_other : Array (Option Value)} {kV__law_other dc__law_other pm__law_other cd__law_other ct__law_other : Value} {f__law_is_move : Addr} {oc__law_is_move : Value} {od__law_is_move an__law_is_move : Option Addr} {sl__law_is_move : Array (Option Value)} {kV__law_is_move dc__law_is_move pm__law_is_move cd__law_is_move ct__law_is_move : Value} {f__law_walk_right : Addr} {oc__law_walk_right : Value} {od__law_walk_right an__law_walk_right : Option Addr} {sl__law_walk_right : Array (Option Value)} {kV__law_walk_right dc__law_walk_right pm__law_walk_right cd__law_walk_right ct__law_walk_right : Value} {f__law_far_right : Addr} {oc__law_far_right : Value} {od__law_far_right an__law_far_right : Option Addr} {sl__law_far_right : Array (Option Value)} {kV__law_far_right dc__law_far_right pm__law_far_right cd__law_far_right ct__law_far_right : Value} {f__law_long_right : Addr} {oc__law_long_right : Value} {od__law_long_right an__law_long_right : Option Addr} {sl__law_long_right : Array (Option Value)} {kV__law_long_right dc__law_long_right pm__law_long_right cd__law_long_right ct__law_long_right : Value} {f__law_right : Addr} {oc__law_right : Value} {od__law_right an__law_right : Option Addr} {sl__law_right : Array (Option Value)} {kV__law_right dc__law_right pm__law_right cd__law_right ct__law_right : Value} {f_law : Addr} {oc_law : Value} {od_law an_law : Option Addr} {sl_law : Array (Option Value)} {kV_law dc_law pm_law cd_law ct_law : Value}
    (a1 : PySem.W.nsIn K mainGlobals "InvalidSystem" = some (some (.ref C1)))
    (x1 : PySem.W.excIn K C1 [.type "ValueError", .type "Exception", .type "BaseException", .type "object"] "ValueError.__new__" = true)
    (k1 : PySem.W.keepIn K (.ref C1) = true)
    (b1 : PySem.W.subIn K (.ref C1) (.type "BaseException") = some true)
    (t1 : PySem.W.typeIn K (.ref C1) = some (.type "type"))
    (a2 : PySem.W.nsIn K mainGlobals "InvalidWorld" = some (some (.ref C2)))
    (x2 : PySem.W.excIn K C2 [.type "ValueError", .type "Exception", .type "BaseException", .type "object"] "ValueError.__new__" = true)
    (k2 : PySem.W.keepIn K (.ref C2) = true)
    (b2 : PySem.W.subIn K (.ref C2) (.type "BaseException") = some true)
    (t2 : PySem.W.typeIn K (.ref C2) = some (.type "type"))
    (z_abs : PySem.W.nsIn K mainGlobals "abs" = some none)
    (z_all : PySem.W.nsIn K mainGlobals "all" = some none)
    (z_bool : PySem.W.nsIn K mainGlobals "bool" = some none)
    (z_int : PySem.W.nsIn K mainGlobals "int" = some none)
    (z_isinstance : PySem.W.nsIn K mainGlobals "isinstance" = some none)
    (z_len : PySem.W.nsIn K mainGlobals "len" = some none)
    (z_list : PySem.W.nsIn K mainGlobals "list" = some none)
    (z_max : PySem.W.nsIn K mainGlobals "max" = some none)
    (z_min : PySem.W.nsIn K mainGlobals "min" = some none)
    (z_range : PySem.W.nsIn K mainGlobals "range" = some none)
    (z_tuple : PySem.W.nsIn K mainGlobals "tuple" = some none)
    (z_zip : PySem.W.nsIn K mainGlobals "zip" = some none)
    (ne_2_1 : C2 ≠ C1)
    (fa_is_integer : PySem.W.nsIn K mainGlobals "is_integer" = some (some (.ref f_is_integer)))
    (fl_is_integer : K.lookup f_is_integer = some ⟨oc_is_integer, od_is_integer, .func (PySem.W.fnOf "is_integer" "is_integer" (defArgs s_is_integer) (defBody s_is_integer) (defScope s_is_integer) .none kV_is_integer dc_is_integer pm_is_integer an_is_integer cd_is_integer ct_is_integer), sl_is_integer⟩)
    (fc_is_integer : PySem.W.codeIn K cd_is_integer "is_integer" = true)
    (fk_is_integer : PySem.W.keepIn K (.ref f_is_integer) = true)
    (fa_is_from : PySem.W.nsIn K mainGlobals "is_from" = some (some (.ref f_is_from)))
    (fl_is_from : K.lookup f_is_from = some ⟨oc_is_from, od_is_from, .func (PySem.W.fnOf "is_from" "is_from" (defArgs s_is_from) (defBody s_is_from) (defScope s_is_from) .none kV_is_from dc_is_from pm_is_from an_is_from cd_is_from ct_is_from), sl_is_from⟩)
    (fc_is_from : PySem.W.codeIn K cd_is_from "is_from" = true)
    (fk_is_from : PySem.W.keepIn K (.ref f_is_from) = true)
    (fa_is_between : PySem.W.nsIn K mainGlobals "is_between" = some (some (.ref f_is_between)))
    (fl_is_between : K.lookup f_is_between = some ⟨oc_is_between, od_is_between, .func (PySem.W.fnOf "is_between" "is_between" (defArgs s_is_between) (defBody s_is_between) (defScope s_is_between) .none kV_is_between dc_is_between pm_is_between an_is_between cd_is_between ct_is_between), sl_is_between⟩)
    (fc_is_between : PySem.W.codeIn K cd_is_between "is_between" = true)
    (fk_is_between : PySem.W.keepIn K (.ref f_is_between) = true)
    (fa_is_index : PySem.W.nsIn K mainGlobals "is_index" = some (some (.ref f_is_index)))
    (fl_is_index : K.lookup f_is_index = some ⟨oc_is_index, od_is_index, .func (PySem.W.fnOf "is_index" "is_index" (defArgs s_is_index) (defBody s_is_index) (defScope s_is_index) .none kV_is_index dc_is_index pm_is_index an_is_index cd_is_index ct_is_index), sl_is_index⟩)
    (fc_is_index : PySem.W.codeIn K cd_is_index "is_index" = true)
    (fk_is_index : PySem.W.keepIn K (.ref f_is_index) = true)
    (fa_is_bound : PySem.W.nsIn K mainGlobals "is_bound" = some (some (.ref f_is_bound)))
    (fl_is_bound : K.lookup f_is_bound = some ⟨oc_is_bound, od_is_bound, .func (PySem.W.fnOf "is_bound" "is_bound" (defArgs s_is_bound) (defBody s_is_bound) (defScope s_is_bound) .none kV_is_bound dc_is_bound pm_is_bound an_is_bound cd_is_bound ct_is_bound), sl_is_bound⟩)
    (fc_is_bound : PySem.W.codeIn K cd_is_bound "is_bound" = true)
    (fk_is_bound : PySem.W.keepIn K (.ref f_is_bound) = true)
    (fa_is_system_form : PySem.W.nsIn K mainGlobals "is_system_form" = some (some (.ref f_is_system_form)))
    (fl_is_system_form : K.lookup f_is_system_form = some ⟨oc_is_system_form, od_is_system_form, .func (PySem.W.fnOf "is_system_form" "is_system_form" (defArgs s_is_system_form) (defBody s_is_system_form) (defScope s_is_system_form) .none kV_is_system_form dc_is_system_form pm_is_system_form an_is_system_form cd_is_system_form ct_is_system_form), sl_is_system_form⟩)
    (fc_is_system_form : PySem.W.codeIn K cd_is_system_form "is_system_form" = true)
    (fk_is_system_form : PySem.W.keepIn K (.ref f_is_system_form) = true)
    (fa_has_moments : PySem.W.nsIn K mainGlobals "has_moments" = some (some (.ref f_has_moments)))
    (fl_has_moments : K.lookup f_has_moments = some ⟨oc_has_moments, od_has_moments, .func (PySem.W.fnOf "has_moments" "has_moments" (defArgs s_has_moments) (defBody s_has_moments) (defScope s_has_moments) .none kV_has_moments dc_has_moments pm_has_moments an_has_moments cd_has_moments ct_has_moments), sl_has_moments⟩)
    (fc_has_moments : PySem.W.codeIn K cd_has_moments "has_moments" = true)
    (fk_has_moments : PySem.W.keepIn K (.ref f_has_moments) = true)
    (fa_keeps_bound : PySem.W.nsIn K mainGlobals "keeps_bound" = some (some (.ref f_keeps_bound)))
    (fl_keeps_bound : K.lookup f_keeps_bound = some ⟨oc_keeps_bound, od_keeps_bound, .func (PySem.W.fnOf "keeps_bound" "keeps_bound" (defArgs s_keeps_bound) (defBody s_keeps_bound) (defScope s_keeps_bound) .none kV_keeps_bound dc_keeps_bound pm_keeps_bound an_keeps_bound cd_keeps_bound ct_keeps_bound), sl_keeps_bound⟩)
    (fc_keeps_bound : PySem.W.codeIn K cd_keeps_bound "keeps_bound" = true)
    (fk_keeps_bound : PySem.W.keepIn K (.ref f_keeps_bound) = true)
    (fa_is_world_of : PySem.W.nsIn K mainGlobals "is_world_of" = some (some (.ref f_is_world_of)))
    (fl_is_world_of : K.lookup f_is_world_of = some ⟨oc_is_world_of, od_is_world_of, .func (PySem.W.fnOf "is_world_of" "is_world_of" (defArgs s_is_world_of) (defBody s_is_world_of) (defScope s_is_world_of) .none kV_is_world_of dc_is_world_of pm_is_world_of an_is_world_of cd_is_world_of ct_is_world_of), sl_is_world_of⟩)
    (fc_is_world_of : PySem.W.codeIn K cd_is_world_of "is_world_of" = true)
    (fk_is_world_of : PySem.W.keepIn K (.ref f_is_world_of) = true)
    (fa_check_system : PySem.W.nsIn K mainGlobals "check_system" = some (some (.ref f_check_system)))
    (fl_check_system : K.lookup f_check_system = some ⟨oc_check_system, od_check_system, .func (PySem.W.fnOf "check_system" "check_system" (defArgs s_check_system) (defBody s_check_system) (defScope s_check_system) .none kV_check_system dc_check_system pm_check_system an_check_system cd_check_system ct_check_system), sl_check_system⟩)
    (fc_check_system : PySem.W.codeIn K cd_check_system "check_system" = true)
    (fk_check_system : PySem.W.keepIn K (.ref f_check_system) = true)
    (fa_check_world : PySem.W.nsIn K mainGlobals "check_world" = some (some (.ref f_check_world)))
    (fl_check_world : K.lookup f_check_world = some ⟨oc_check_world, od_check_world, .func (PySem.W.fnOf "check_world" "check_world" (defArgs s_check_world) (defBody s_check_world) (defScope s_check_world) .none kV_check_world dc_check_world pm_check_world an_check_world cd_check_world ct_check_world), sl_check_world⟩)
    (fc_check_world : PySem.W.codeIn K cd_check_world "check_world" = true)
    (fk_check_world : PySem.W.keepIn K (.ref f_check_world) = true)
    (fa_is_world : PySem.W.nsIn K mainGlobals "is_world" = some (some (.ref f_is_world)))
    (fl_is_world : K.lookup f_is_world = some ⟨oc_is_world, od_is_world, .func (PySem.W.fnOf "is_world" "is_world" (defArgs s_is_world) (defBody s_is_world) (defScope s_is_world) .none kV_is_world dc_is_world pm_is_world an_is_world cd_is_world ct_is_world), sl_is_world⟩)
    (fc_is_world : PySem.W.codeIn K cd_is_world "is_world" = true)
    (fk_is_world : PySem.W.keepIn K (.ref f_is_world) = true)
    (fa_check_worlds : PySem.W.nsIn K mainGlobals "check_worlds" = some (some (.ref f_check_worlds)))
    (fl_check_worlds : K.lookup f_check_worlds = some ⟨oc_check_worlds, od_check_worlds, .func (PySem.W.fnOf "check_worlds" "check_worlds" (defArgs s_check_worlds) (defBody s_check_worlds) (defScope s_check_worlds) .none kV_check_worlds dc_check_worlds pm_check_worlds an_check_worlds cd_check_worlds ct_check_worlds), sl_check_worlds⟩)
    (fc_check_worlds : PySem.W.codeIn K cd_check_worlds "check_worlds" = true)
    (fk_check_worlds : PySem.W.keepIn K (.ref f_check_worlds) = true)
    (fa_lesser : PySem.W.nsIn K mainGlobals "lesser" = some (some (.ref f_lesser)))
    (fl_lesser : K.lookup f_lesser = some ⟨oc_lesser, od_lesser, .func (PySem.W.fnOf "lesser" "lesser" (defArgs s_lesser) (defBody s_lesser) (defScope s_lesser) .none kV_lesser dc_lesser pm_lesser an_lesser cd_lesser ct_lesser), sl_lesser⟩)
    (fc_lesser : PySem.W.codeIn K cd_lesser "lesser" = true)
    (fk_lesser : PySem.W.keepIn K (.ref f_lesser) = true)
    (fa_greater : PySem.W.nsIn K mainGlobals "greater" = some (some (.ref f_greater)))
    (fl_greater : K.lookup f_greater = some ⟨oc_greater, od_greater, .func (PySem.W.fnOf "greater" "greater" (defArgs s_greater) (defBody s_greater) (defScope s_greater) .none kV_greater dc_greater pm_greater an_greater cd_greater ct_greater), sl_greater⟩)
    (fc_greater : PySem.W.codeIn K cd_greater "greater" = true)
    (fk_greater : PySem.W.keepIn K (.ref f_greater) = true)
    (fa_greatest_rise : PySem.W.nsIn K mainGlobals "greatest_rise" = some (some (.ref f_greatest_rise)))
    (fl_greatest_rise : K.lookup f_greatest_rise = some ⟨oc_greatest_rise, od_greatest_rise, .func (PySem.W.fnOf "greatest_rise" "greatest_rise" (defArgs s_greatest_rise) (defBody s_greatest_rise) (defScope s_greatest_rise) .none kV_greatest_rise dc_greatest_rise pm_greatest_rise an_greatest_rise cd_greatest_rise ct_greatest_rise), sl_greatest_rise⟩)
    (fc_greatest_rise : PySem.W.codeIn K cd_greatest_rise "greatest_rise" = true)
    (fk_greatest_rise : PySem.W.keepIn K (.ref f_greatest_rise) = true)
    (fa_moves_between : PySem.W.nsIn K mainGlobals "moves_between" = some (some (.ref f_moves_between)))
    (fl_moves_between : K.lookup f_moves_between = some ⟨oc_moves_between, od_moves_between, .func (PySem.W.fnOf "moves_between" "moves_between" (defArgs s_moves_between) (defBody s_moves_between) (defScope s_moves_between) .none kV_moves_between dc_moves_between pm_moves_between an_moves_between cd_moves_between ct_moves_between), sl_moves_between⟩)
    (fc_moves_between : PySem.W.codeIn K cd_moves_between "moves_between" = true)
    (fk_moves_between : PySem.W.keepIn K (.ref f_moves_between) = true)
    (fa_moved_up : PySem.W.nsIn K mainGlobals "moved_up" = some (some (.ref f_moved_up)))
    (fl_moved_up : K.lookup f_moved_up = some ⟨oc_moved_up, od_moved_up, .func (PySem.W.fnOf "moved_up" "moved_up" (defArgs s_moved_up) (defBody s_moved_up) (defScope s_moved_up) .none kV_moved_up dc_moved_up pm_moved_up an_moved_up cd_moved_up ct_moved_up), sl_moved_up⟩)
    (fc_moved_up : PySem.W.codeIn K cd_moved_up "moved_up" = true)
    (fk_moved_up : PySem.W.keepIn K (.ref f_moved_up) = true)
    (fa_moved_down : PySem.W.nsIn K mainGlobals "moved_down" = some (some (.ref f_moved_down)))
    (fl_moved_down : K.lookup f_moved_down = some ⟨oc_moved_down, od_moved_down, .func (PySem.W.fnOf "moved_down" "moved_down" (defArgs s_moved_down) (defBody s_moved_down) (defScope s_moved_down) .none kV_moved_down dc_moved_down pm_moved_down an_moved_down cd_moved_down ct_moved_down), sl_moved_down⟩)
    (fc_moved_down : PySem.W.codeIn K cd_moved_down "moved_down" = true)
    (fk_moved_down : PySem.W.keepIn K (.ref f_moved_down) = true)
    (fa_walk : PySem.W.nsIn K mainGlobals "walk" = some (some (.ref f_walk)))
    (fl_walk : K.lookup f_walk = some ⟨oc_walk, od_walk, .func (PySem.W.fnOf "walk" "walk" (defArgs s_walk) (defBody s_walk) (defScope s_walk) .none kV_walk dc_walk pm_walk an_walk cd_walk ct_walk), sl_walk⟩)
    (fc_walk : PySem.W.codeIn K cd_walk "walk" = true)
    (fk_walk : PySem.W.keepIn K (.ref f_walk) = true)
    (fa__law_urn : PySem.W.nsIn K mainGlobals "_law_urn" = some (some (.ref f__law_urn)))
    (fl__law_urn : K.lookup f__law_urn = some ⟨oc__law_urn, od__law_urn, .func (PySem.W.fnOf "_law_urn" "_law_urn" (defArgs s__law_urn) (defBody s__law_urn) (defScope s__law_urn) .none kV__law_urn dc__law_urn pm__law_urn an__law_urn cd__law_urn ct__law_urn), sl__law_urn⟩)
    (fc__law_urn : PySem.W.codeIn K cd__law_urn "_law_urn" = true)
    (fk__law_urn : PySem.W.keepIn K (.ref f__law_urn) = true)
    (fa__law_pick : PySem.W.nsIn K mainGlobals "_law_pick" = some (some (.ref f__law_pick)))
    (fl__law_pick : K.lookup f__law_pick = some ⟨oc__law_pick, od__law_pick, .func (PySem.W.fnOf "_law_pick" "_law_pick" (defArgs s__law_pick) (defBody s__law_pick) (defScope s__law_pick) .none kV__law_pick dc__law_pick pm__law_pick an__law_pick cd__law_pick ct__law_pick), sl__law_pick⟩)
    (fc__law_pick : PySem.W.codeIn K cd__law_pick "_law_pick" = true)
    (fk__law_pick : PySem.W.keepIn K (.ref f__law_pick) = true)
    (fa__law_reach : PySem.W.nsIn K mainGlobals "_law_reach" = some (some (.ref f__law_reach)))
    (fl__law_reach : K.lookup f__law_reach = some ⟨oc__law_reach, od__law_reach, .func (PySem.W.fnOf "_law_reach" "_law_reach" (defArgs s__law_reach) (defBody s__law_reach) (defScope s__law_reach) .none kV__law_reach dc__law_reach pm__law_reach an__law_reach cd__law_reach ct__law_reach), sl__law_reach⟩)
    (fc__law_reach : PySem.W.codeIn K cd__law_reach "_law_reach" = true)
    (fk__law_reach : PySem.W.keepIn K (.ref f__law_reach) = true)
    (fa__law_frame : PySem.W.nsIn K mainGlobals "_law_frame" = some (some (.ref f__law_frame)))
    (fl__law_frame : K.lookup f__law_frame = some ⟨oc__law_frame, od__law_frame, .func (PySem.W.fnOf "_law_frame" "_law_frame" (defArgs s__law_frame) (defBody s__law_frame) (defScope s__law_frame) .none kV__law_frame dc__law_frame pm__law_frame an__law_frame cd__law_frame ct__law_frame), sl__law_frame⟩)
    (fc__law_frame : PySem.W.codeIn K cd__law_frame "_law_frame" = true)
    (fk__law_frame : PySem.W.keepIn K (.ref f__law_frame) = true)
    (fa__law_whole : PySem.W.nsIn K mainGlobals "_law_whole" = some (some (.ref f__law_whole)))
    (fl__law_whole : K.lookup f__law_whole = some ⟨oc__law_whole, od__law_whole, .func (PySem.W.fnOf "_law_whole" "_law_whole" (defArgs s__law_whole) (defBody s__law_whole) (defScope s__law_whole) .none kV__law_whole dc__law_whole pm__law_whole an__law_whole cd__law_whole ct__law_whole), sl__law_whole⟩)
    (fc__law_whole : PySem.W.codeIn K cd__law_whole "_law_whole" = true)
    (fk__law_whole : PySem.W.keepIn K (.ref f__law_whole) = true)
    (fa__law_moments : PySem.W.nsIn K mainGlobals "_law_moments" = some (some (.ref f__law_moments)))
    (fl__law_moments : K.lookup f__law_moments = some ⟨oc__law_moments, od__law_moments, .func (PySem.W.fnOf "_law_moments" "_law_moments" (defArgs s__law_moments) (defBody s__law_moments) (defScope s__law_moments) .none kV__law_moments dc__law_moments pm__law_moments an__law_moments cd__law_moments ct__law_moments), sl__law_moments⟩)
    (fc__law_moments : PySem.W.codeIn K cd__law_moments "_law_moments" = true)
    (fk__law_moments : PySem.W.keepIn K (.ref f__law_moments) = true)
    (fa__law_keeps : PySem.W.nsIn K mainGlobals "_law_keeps" = some (some (.ref f__law_keeps)))
    (fl__law_keeps : K.lookup f__law_keeps = some ⟨oc__law_keeps, od__law_keeps, .func (PySem.W.fnOf "_law_keeps" "_law_keeps" (defArgs s__law_keeps) (defBody s__law_keeps) (defScope s__law_keeps) .none kV__law_keeps dc__law_keeps pm__law_keeps an__law_keeps cd__law_keeps ct__law_keeps), sl__law_keeps⟩)
    (fc__law_keeps : PySem.W.codeIn K cd__law_keeps "_law_keeps" = true)
    (fk__law_keeps : PySem.W.keepIn K (.ref f__law_keeps) = true)
    (fa__law_held : PySem.W.nsIn K mainGlobals "_law_held" = some (some (.ref f__law_held)))
    (fl__law_held : K.lookup f__law_held = some ⟨oc__law_held, od__law_held, .func (PySem.W.fnOf "_law_held" "_law_held" (defArgs s__law_held) (defBody s__law_held) (defScope s__law_held) .none kV__law_held dc__law_held pm__law_held an__law_held cd__law_held ct__law_held), sl__law_held⟩)
    (fc__law_held : PySem.W.codeIn K cd__law_held "_law_held" = true)
    (fk__law_held : PySem.W.keepIn K (.ref f__law_held) = true)
    (fa__law_other : PySem.W.nsIn K mainGlobals "_law_other" = some (some (.ref f__law_other)))
    (fl__law_other : K.lookup f__law_other = some ⟨oc__law_other, od__law_other, .func (PySem.W.fnOf "_law_other" "_law_other" (defArgs s__law_other) (defBody s__law_other) (defScope s__law_other) .none kV__law_other dc__law_other pm__law_other an__law_other cd__law_other ct__law_other), sl__law_other⟩)
    (fc__law_other : PySem.W.codeIn K cd__law_other "_law_other" = true)
    (fk__law_other : PySem.W.keepIn K (.ref f__law_other) = true)
    (fa__law_is_move : PySem.W.nsIn K mainGlobals "_law_is_move" = some (some (.ref f__law_is_move)))
    (fl__law_is_move : K.lookup f__law_is_move = some ⟨oc__law_is_move, od__law_is_move, .func (PySem.W.fnOf "_law_is_move" "_law_is_move" (defArgs s__law_is_move) (defBody s__law_is_move) (defScope s__law_is_move) .none kV__law_is_move dc__law_is_move pm__law_is_move an__law_is_move cd__law_is_move ct__law_is_move), sl__law_is_move⟩)
    (fc__law_is_move : PySem.W.codeIn K cd__law_is_move "_law_is_move" = true)
    (fk__law_is_move : PySem.W.keepIn K (.ref f__law_is_move) = true)
    (fa__law_walk_right : PySem.W.nsIn K mainGlobals "_law_walk_right" = some (some (.ref f__law_walk_right)))
    (fl__law_walk_right : K.lookup f__law_walk_right = some ⟨oc__law_walk_right, od__law_walk_right, .func (PySem.W.fnOf "_law_walk_right" "_law_walk_right" (defArgs s__law_walk_right) (defBody s__law_walk_right) (defScope s__law_walk_right) .none kV__law_walk_right dc__law_walk_right pm__law_walk_right an__law_walk_right cd__law_walk_right ct__law_walk_right), sl__law_walk_right⟩)
    (fc__law_walk_right : PySem.W.codeIn K cd__law_walk_right "_law_walk_right" = true)
    (fk__law_walk_right : PySem.W.keepIn K (.ref f__law_walk_right) = true)
    (fa__law_far_right : PySem.W.nsIn K mainGlobals "_law_far_right" = some (some (.ref f__law_far_right)))
    (fl__law_far_right : K.lookup f__law_far_right = some ⟨oc__law_far_right, od__law_far_right, .func (PySem.W.fnOf "_law_far_right" "_law_far_right" (defArgs s__law_far_right) (defBody s__law_far_right) (defScope s__law_far_right) .none kV__law_far_right dc__law_far_right pm__law_far_right an__law_far_right cd__law_far_right ct__law_far_right), sl__law_far_right⟩)
    (fc__law_far_right : PySem.W.codeIn K cd__law_far_right "_law_far_right" = true)
    (fk__law_far_right : PySem.W.keepIn K (.ref f__law_far_right) = true)
    (fa__law_long_right : PySem.W.nsIn K mainGlobals "_law_long_right" = some (some (.ref f__law_long_right)))
    (fl__law_long_right : K.lookup f__law_long_right = some ⟨oc__law_long_right, od__law_long_right, .func (PySem.W.fnOf "_law_long_right" "_law_long_right" (defArgs s__law_long_right) (defBody s__law_long_right) (defScope s__law_long_right) .none kV__law_long_right dc__law_long_right pm__law_long_right an__law_long_right cd__law_long_right ct__law_long_right), sl__law_long_right⟩)
    (fc__law_long_right : PySem.W.codeIn K cd__law_long_right "_law_long_right" = true)
    (fk__law_long_right : PySem.W.keepIn K (.ref f__law_long_right) = true)
    (fa__law_right : PySem.W.nsIn K mainGlobals "_law_right" = some (some (.ref f__law_right)))
    (fl__law_right : K.lookup f__law_right = some ⟨oc__law_right, od__law_right, .func (PySem.W.fnOf "_law_right" "_law_right" (defArgs s__law_right) (defBody s__law_right) (defScope s__law_right) .none kV__law_right dc__law_right pm__law_right an__law_right cd__law_right ct__law_right), sl__law_right⟩)
    (fc__law_right : PySem.W.codeIn K cd__law_right "_law_right" = true)
    (fk__law_right : PySem.W.keepIn K (.ref f__law_right) = true)
    (fa_law : PySem.W.nsIn K mainGlobals "law" = some (some (.ref f_law)))
    (fl_law : K.lookup f_law = some ⟨oc_law, od_law, .func (PySem.W.fnOf "law" "law" (defArgs s_law) (defBody s_law) (defScope s_law) .none kV_law dc_law pm_law an_law cd_law ct_law), sl_law⟩)
    (fc_law : PySem.W.codeIn K cd_law "law" = true)
    (fk_law : PySem.W.keepIn K (.ref f_law) = true) :
    ∀ base : Heap, ∃ cl, FnC PW w K mg base 11 "law" P_law s_law (spF cl F_law) := by
  intro base
  have T : Tx K mg (fun n => if n = "InvalidSystem" then C1 else C2) := {
    triv_ := trivial
    b_abs := PySem.W.mg_none_of X G z_abs
    b_all := PySem.W.mg_none_of X G z_all
    b_bool := PySem.W.mg_none_of X G z_bool
    b_int := PySem.W.mg_none_of X G z_int
    b_isinstance := PySem.W.mg_none_of X G z_isinstance
    b_len := PySem.W.mg_none_of X G z_len
    b_list := PySem.W.mg_none_of X G z_list
    b_max := PySem.W.mg_none_of X G z_max
    b_min := PySem.W.mg_none_of X G z_min
    b_range := PySem.W.mg_none_of X G z_range
    b_tuple := PySem.W.mg_none_of X G z_tuple
    b_zip := PySem.W.mg_none_of X G z_zip
    x_InvalidSystem := ⟨PySem.W.mg_of X G a1, x1, k1, b1, t1⟩
    x_InvalidWorld := ⟨PySem.W.mg_of X G a2, x2, k2, b2, t2⟩
    ne_2_1 := ne_2_1 }
  have Hh : Hs K mg := ⟨has_mk X G fa_is_integer fl_is_integer fc_is_integer fk_is_integer, has_mk X G fa_is_from fl_is_from fc_is_from fk_is_from, has_mk X G fa_is_between fl_is_between fc_is_between fk_is_between, has_mk X G fa_is_index fl_is_index fc_is_index fk_is_index, has_mk X G fa_is_bound fl_is_bound fc_is_bound fk_is_bound, has_mk X G fa_is_system_form fl_is_system_form fc_is_system_form fk_is_system_form, has_mk X G fa_has_moments fl_has_moments fc_has_moments fk_has_moments, has_mk X G fa_keeps_bound fl_keeps_bound fc_keeps_bound fk_keeps_bound, has_mk X G fa_is_world_of fl_is_world_of fc_is_world_of fk_is_world_of, has_mk X G fa_check_system fl_check_system fc_check_system fk_check_system, has_mk X G fa_check_world fl_check_world fc_check_world fk_check_world, has_mk X G fa_is_world fl_is_world fc_is_world fk_is_world, has_mk X G fa_check_worlds fl_check_worlds fc_check_worlds fk_check_worlds, has_mk X G fa_lesser fl_lesser fc_lesser fk_lesser, has_mk X G fa_greater fl_greater fc_greater fk_greater, has_mk X G fa_greatest_rise fl_greatest_rise fc_greatest_rise fk_greatest_rise, has_mk X G fa_moves_between fl_moves_between fc_moves_between fk_moves_between, has_mk X G fa_moved_up fl_moved_up fc_moved_up fk_moved_up, has_mk X G fa_moved_down fl_moved_down fc_moved_down fk_moved_down, has_mk X G fa_walk fl_walk fc_walk fk_walk, has_mk X G fa__law_urn fl__law_urn fc__law_urn fk__law_urn, has_mk X G fa__law_pick fl__law_pick fc__law_pick fk__law_pick, has_mk X G fa__law_reach fl__law_reach fc__law_reach fk__law_reach, has_mk X G fa__law_frame fl__law_frame fc__law_frame fk__law_frame, has_mk X G fa__law_whole fl__law_whole fc__law_whole fk__law_whole, has_mk X G fa__law_moments fl__law_moments fc__law_moments fk__law_moments, has_mk X G fa__law_keeps fl__law_keeps fc__law_keeps fk__law_keeps, has_mk X G fa__law_held fl__law_held fc__law_held fk__law_held, has_mk X G fa__law_other fl__law_other fc__law_other fk__law_other, has_mk X G fa__law_is_move fl__law_is_move fc__law_is_move fk__law_is_move, has_mk X G fa__law_walk_right fl__law_walk_right fc__law_walk_right fk__law_walk_right, has_mk X G fa__law_far_right fl__law_far_right fc__law_far_right fk__law_far_right, has_mk X G fa__law_long_right fl__law_long_right fc__law_long_right fk__law_long_right, has_mk X G fa__law_right fl__law_right fc__law_right fk__law_right, has_mk X G fa_law fl_law fc_law fk_law⟩
  exact ⟨_, ok_law T Hh⟩

end T10
open PySem PySem.W PyProof.Rows
theorem PySem.Challenge.cw_keptwhatever_k10_whole_lattices_and_walk_holds : PySem.Challenge.rw_keptwhatever_k10_whole_lattices_and_walk.Holds := by
  w_on; o_law; k_head; (case hw => w_witness2)
  k_fill
  refine FL.law_endF (l := PySem.Challenge.rw_keptwhatever_k10_whole_lattices_and_walk) (k := 11) (x := "script") (st := T10.s_law) (F := FP.F_law) rfl rfl ⟨rfl, by decide, by decide⟩ (fun w h Y => PySem.W.kIn_of Y) T10.bp_law ?F ?P
  case F =>
    intro w mg h KX G base _ _
    refine' T10.all_mk KX G ?a1 ?x1 ?k1 ?b1 ?t1 ?a2 ?x2 ?k2 ?b2 ?t2 ?z_abs ?z_all ?z_bool ?z_int ?z_isinstance ?z_len ?z_list ?z_max ?z_min ?z_range ?z_tuple ?z_zip ?ne_2_1 ?fa_is_integer ?fl_is_integer ?fc_is_integer ?fk_is_integer ?fa_is_from ?fl_is_from ?fc_is_from ?fk_is_from ?fa_is_between ?fl_is_between ?fc_is_between ?fk_is_between ?fa_is_index ?fl_is_index ?fc_is_index ?fk_is_index ?fa_is_bound ?fl_is_bound ?fc_is_bound ?fk_is_bound ?fa_is_system_form ?fl_is_system_form ?fc_is_system_form ?fk_is_system_form ?fa_has_moments ?fl_has_moments ?fc_has_moments ?fk_has_moments ?fa_keeps_bound ?fl_keeps_bound ?fc_keeps_bound ?fk_keeps_bound ?fa_is_world_of ?fl_is_world_of ?fc_is_world_of ?fk_is_world_of ?fa_check_system ?fl_check_system ?fc_check_system ?fk_check_system ?fa_check_world ?fl_check_world ?fc_check_world ?fk_check_world ?fa_is_world ?fl_is_world ?fc_is_world ?fk_is_world ?fa_check_worlds ?fl_check_worlds ?fc_check_worlds ?fk_check_worlds ?fa_lesser ?fl_lesser ?fc_lesser ?fk_lesser ?fa_greater ?fl_greater ?fc_greater ?fk_greater ?fa_greatest_rise ?fl_greatest_rise ?fc_greatest_rise ?fk_greatest_rise ?fa_moves_between ?fl_moves_between ?fc_moves_between ?fk_moves_between ?fa_moved_up ?fl_moved_up ?fc_moved_up ?fk_moved_up ?fa_moved_down ?fl_moved_down ?fc_moved_down ?fk_moved_down ?fa_walk ?fl_walk ?fc_walk ?fk_walk ?fa__law_urn ?fl__law_urn ?fc__law_urn ?fk__law_urn ?fa__law_pick ?fl__law_pick ?fc__law_pick ?fk__law_pick ?fa__law_reach ?fl__law_reach ?fc__law_reach ?fk__law_reach ?fa__law_frame ?fl__law_frame ?fc__law_frame ?fk__law_frame ?fa__law_whole ?fl__law_whole ?fc__law_whole ?fk__law_whole ?fa__law_moments ?fl__law_moments ?fc__law_moments ?fk__law_moments ?fa__law_keeps ?fl__law_keeps ?fc__law_keeps ?fk__law_keeps ?fa__law_held ?fl__law_held ?fc__law_held ?fk__law_held ?fa__law_other ?fl__law_other ?fc__law_other ?fk__law_other ?fa__law_is_move ?fl__law_is_move ?fc__law_is_move ?fk__law_is_move ?fa__law_walk_right ?fl__law_walk_right ?fc__law_walk_right ?fk__law_walk_right ?fa__law_far_right ?fl__law_far_right ?fc__law_far_right ?fk__law_far_right ?fa__law_long_right ?fl__law_long_right ?fc__law_long_right ?fk__law_long_right ?fa__law_right ?fl__law_right ?fc__law_right ?fk__law_right ?fa_law ?fl_law ?fc_law ?fk_law base
    (case a1 => k_is)
    (case x1 => k_exc)
    (case k1 => k_is)
    (case b1 => k_is)
    (case t1 => k_is)
    (case a2 => k_is)
    (case x2 => k_exc)
    (case k2 => k_is)
    (case b2 => k_is)
    (case t2 => k_is)
    (case z_abs => k_is)
    (case z_all => k_is)
    (case z_bool => k_is)
    (case z_int => k_is)
    (case z_isinstance => k_is)
    (case z_len => k_is)
    (case z_list => k_is)
    (case z_max => k_is)
    (case z_min => k_is)
    (case z_range => k_is)
    (case z_tuple => k_is)
    (case z_zip => k_is)
    (case ne_2_1 => decide)
    (case fa_is_integer => k_is)
    (case fl_is_integer => k_is)
    (case fc_is_integer => k_is)
    (case fk_is_integer => k_is)
    (case fa_is_from => k_is)
    (case fl_is_from => k_is)
    (case fc_is_from => k_is)
    (case fk_is_from => k_is)
    (case fa_is_between => k_is)
    (case fl_is_between => k_is)
    (case fc_is_between => k_is)
    (case fk_is_between => k_is)
    (case fa_is_index => k_is)
    (case fl_is_index => k_is)
    (case fc_is_index => k_is)
    (case fk_is_index => k_is)
    (case fa_is_bound => k_is)
    (case fl_is_bound => k_is)
    (case fc_is_bound => k_is)
    (case fk_is_bound => k_is)
    (case fa_is_system_form => k_is)
    (case fl_is_system_form => k_is)
    (case fc_is_system_form => k_is)
    (case fk_is_system_form => k_is)
    (case fa_has_moments => k_is)
    (case fl_has_moments => k_is)
    (case fc_has_moments => k_is)
    (case fk_has_moments => k_is)
    (case fa_keeps_bound => k_is)
    (case fl_keeps_bound => k_is)
    (case fc_keeps_bound => k_is)
    (case fk_keeps_bound => k_is)
    (case fa_is_world_of => k_is)
    (case fl_is_world_of => k_is)
    (case fc_is_world_of => k_is)
    (case fk_is_world_of => k_is)
    (case fa_check_system => k_is)
    (case fl_check_system => k_is)
    (case fc_check_system => k_is)
    (case fk_check_system => k_is)
    (case fa_check_world => k_is)
    (case fl_check_world => k_is)
    (case fc_check_world => k_is)
    (case fk_check_world => k_is)
    (case fa_is_world => k_is)
    (case fl_is_world => k_is)
    (case fc_is_world => k_is)
    (case fk_is_world => k_is)
    (case fa_check_worlds => k_is)
    (case fl_check_worlds => k_is)
    (case fc_check_worlds => k_is)
    (case fk_check_worlds => k_is)
    (case fa_lesser => k_is)
    (case fl_lesser => k_is)
    (case fc_lesser => k_is)
    (case fk_lesser => k_is)
    (case fa_greater => k_is)
    (case fl_greater => k_is)
    (case fc_greater => k_is)
    (case fk_greater => k_is)
    (case fa_greatest_rise => k_is)
    (case fl_greatest_rise => k_is)
    (case fc_greatest_rise => k_is)
    (case fk_greatest_rise => k_is)
    (case fa_moves_between => k_is)
    (case fl_moves_between => k_is)
    (case fc_moves_between => k_is)
    (case fk_moves_between => k_is)
    (case fa_moved_up => k_is)
    (case fl_moved_up => k_is)
    (case fc_moved_up => k_is)
    (case fk_moved_up => k_is)
    (case fa_moved_down => k_is)
    (case fl_moved_down => k_is)
    (case fc_moved_down => k_is)
    (case fk_moved_down => k_is)
    (case fa_walk => k_is)
    (case fl_walk => k_is)
    (case fc_walk => k_is)
    (case fk_walk => k_is)
    (case fa__law_urn => k_is)
    (case fl__law_urn => k_is)
    (case fc__law_urn => k_is)
    (case fk__law_urn => k_is)
    (case fa__law_pick => k_is)
    (case fl__law_pick => k_is)
    (case fc__law_pick => k_is)
    (case fk__law_pick => k_is)
    (case fa__law_reach => k_is)
    (case fl__law_reach => k_is)
    (case fc__law_reach => k_is)
    (case fk__law_reach => k_is)
    (case fa__law_frame => k_is)
    (case fl__law_frame => k_is)
    (case fc__law_frame => k_is)
    (case fk__law_frame => k_is)
    (case fa__law_whole => k_is)
    (case fl__law_whole => k_is)
    (case fc__law_whole => k_is)
    (case fk__law_whole => k_is)
    (case fa__law_moments => k_is)
    (case fl__law_moments => k_is)
    (case fc__law_moments => k_is)
    (case fk__law_moments => k_is)
    (case fa__law_keeps => k_is)
    (case fl__law_keeps => k_is)
    (case fc__law_keeps => k_is)
    (case fk__law_keeps => k_is)
    (case fa__law_held => k_is)
    (case fl__law_held => k_is)
    (case fc__law_held => k_is)
    (case fk__law_held => k_is)
    (case fa__law_other => k_is)
    (case fl__law_other => k_is)
    (case fc__law_other => k_is)
    (case fk__law_other => k_is)
    (case fa__law_is_move => k_is)
    (case fl__law_is_move => k_is)
    (case fc__law_is_move => k_is)
    (case fk__law_is_move => k_is)
    (case fa__law_walk_right => k_is)
    (case fl__law_walk_right => k_is)
    (case fc__law_walk_right => k_is)
    (case fk__law_walk_right => k_is)
    (case fa__law_far_right => k_is)
    (case fl__law_far_right => k_is)
    (case fc__law_far_right => k_is)
    (case fk__law_far_right => k_is)
    (case fa__law_long_right => k_is)
    (case fl__law_long_right => k_is)
    (case fc__law_long_right => k_is)
    (case fk__law_long_right => k_is)
    (case fa__law_right => k_is)
    (case fl__law_right => k_is)
    (case fc__law_right => k_is)
    (case fk__law_right => k_is)
    (case fa_law => k_is)
    (case fl_law => k_is)
    (case fc_law => k_is)
    (case fk_law => k_is)
  case P => exact FP.law_true

