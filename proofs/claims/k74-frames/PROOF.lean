import PyProof.Rows.All
import HandS.ForMost
import HandS.Wide
import HandS.TupAny
import HandS.Style
import HandS.IsInst
import HandS.Zip
import HandS.TupMul
import KE.KItemsList
import KE.GoesEnum
import PySem.Challenge.RW_howitbegan_k74_frames_are_read_up_to_the
set_option Elab.async false
set_option linter.all false
set_option maxRecDepth 100000
/-! Mir: a plain value of Python's data, what stands for it, and readings by plain functions. -/
namespace Mir
open PySem PySem.Spec L2

/-- plain data; ref: a shared cell; own: the list of a slot; tmp: a list just made; scr: the law's script -/
inductive Dv where
  | non | bl (b : Bool) | int (i : Int) | str (x : Str)
  | tup (ds : List Dv) | lst (ds : List Dv)
  | ref (i : Nat) | own (i : Nat) | tmp (ds : List Dv) | scr (ns : List Int)
inductive Cell where
  | lst (ds : List Dv)
inductive Sl where
  | val (d : Dv) | own (ds : List Dv)
structure Mem where
  env : List (Option Sl)
  hp : List Cell
abbrev Exn := Str × List Dv
inductive Res (α : Type) where
  | ok (a : α) (s : Mem) | ex (e : Exn) (s : Mem) | no
def Mo (α : Type) := Mem → Res α
def Mo.pure {α : Type} (a : α) : Mo α := fun s => .ok a s
def Mo.bind {α β : Type} (m : Mo α) (f : α → Mo β) : Mo β := fun s => match m s with
  | .ok a s1 => f a s1
  | .ex e s1 => .ex e s1
  | .no => .no
def Wp {α : Type} (r : Res α) (Q : α → Mem → Prop) (E : Exn → Mem → Prop) : Prop := match r with
  | .ok a s => Q a s
  | .ex e s => E e s
  | .no => False
theorem Wp.bind {α β : Type} {m : Mo α} {f : α → Mo β} {s : Mem} {Q : β → Mem → Prop} {E : Exn → Mem → Prop} (h : Wp (m.bind f s) Q E) : Wp (m s) (fun a s1 => Wp (f a s1) Q E) E := by
  unfold Mo.bind at h
  cases hm : m s with
  | ok a s1 => rw [hm] at h; exact h
  | ex e s1 => rw [hm] at h; exact h
  | no => rw [hm] at h; exact h
theorem Wp.imp {α : Type} {r : Res α} {Q Q' : α → Mem → Prop} {E E' : Exn → Mem → Prop} (h : Wp r Q E) (hq : ∀ a s, Q a s → Q' a s) (he : ∀ e s, E e s → E' e s) : Wp r Q' E' := by
  cases r with
  | ok a s => exact hq _ _ h
  | ex e s => exact he _ _ h
  | no => exact h

mutual
inductive Rep (K : PySem.W.Frag) (ι : List Addr) (F : Hp) : Dv → V → Prop
  | non : Rep K ι F .non .non
  | bl (b : Bool) : Rep K ι F (.bl b) (.bl b)
  | int (i : Int) : Rep K ι F (.int i) (.int i)
  | str (x : Str) : Rep K ι F (.str x) (.str x)
  | tup {a : Addr} {vs : List V} {ds : List Dv} : SqT K F a vs → Reps K ι F ds vs → Rep K ι F (.tup ds) (.ref a)
  | lst {a : Addr} {vs : List V} {ds : List Dv} : Rd F a (.lst vs) → Reps K ι F ds vs → Rep K ι F (.lst ds) (.ref a)
  | ref {i : Nat} {a : Addr} : ι[i]? = some a → Rep K ι F (.ref i) (.ref a)
  | scr {a : Addr} {ns : List Int} : SqL K F a (ns.map V.int) → Rep K ι F (.scr ns) (.ref a)
inductive Reps (K : PySem.W.Frag) (ι : List Addr) (F : Hp) : List Dv → List V → Prop
  | nil : Reps K ι F [] []
  | cons {d : Dv} {v : V} {ds : List Dv} {vs : List V} : Rep K ι F d v → Reps K ι F ds vs → Reps K ι F (d :: ds) (v :: vs)
end

theorem same_rd {H H' : Hp} {a : Addr} {u : HO} (e : Same H H') (h : Rd H a u) : Rd H' a u := by
  rcases h with h | ⟨o, h⟩
  · exact .inl (e a _ h)
  · exact .inr ⟨o, e a _ h⟩
theorem same_t {K : PySem.W.Frag} {H H' : Hp} {a : Addr} {xs : List V} (e : Same H H') (h : SqT K H a xs) : SqT K H' a xs := by
  rcases h with h | h
  · exact .inl (same_rd e h)
  · exact .inr h
theorem pre_get {α : Type} {l m : List α} {i : Nat} {a : α} (h : l <+: m) (e : l[i]? = some a) : m[i]? = some a := by
  obtain ⟨t, rfl⟩ := h
  rw [List.getElem?_append_left (List.getElem?_eq_some_iff.mp e).1]
  exact e
mutual
theorem Rep.mono {K : PySem.W.Frag} {ι ι' : List Addr} {F F' : Hp} (hi : ι <+: ι') (hf : Same F F') : ∀ {d : Dv} {v : V}, Rep K ι F d v → Rep K ι' F' d v
  | _, _, .non => .non
  | _, _, .bl b => .bl b
  | _, _, .int i => .int i
  | _, _, .str x => .str x
  | _, _, .tup h r => .tup (same_t hf h) (Reps.mono hi hf r)
  | _, _, .lst h r => .lst (same_rd hf h) (Reps.mono hi hf r)
  | _, _, .ref h => .ref (pre_get hi h)
  | _, _, .scr h => .scr (Same.seq hf h)
theorem Reps.mono {K : PySem.W.Frag} {ι ι' : List Addr} {F F' : Hp} (hi : ι <+: ι') (hf : Same F F') : ∀ {ds : List Dv} {vs : List V}, Reps K ι F ds vs → Reps K ι' F' ds vs
  | _, _, .nil => .nil
  | _, _, .cons a b => .cons (Rep.mono hi hf a) (Reps.mono hi hf b)
end
section
variable {K : PySem.W.Frag} {ι ι' : List Addr} {F F' H H' : Hp} {ds es : List Dv} {vs us : List V}
theorem Reps.length : ∀ {ds : List Dv} {vs : List V}, Reps K ι F ds vs → vs.length = ds.length
  | _, _, .nil => rfl
  | _, _, .cons _ b => congrArg (· + 1) (Reps.length b)
theorem Reps.append : ∀ {ds es : List Dv} {vs us : List V}, Reps K ι F ds vs → Reps K ι F es us → Reps K ι F (ds ++ es) (vs ++ us)
  | _, _, _, _, .nil, s => s
  | _, _, _, _, .cons a b, s => .cons a (Reps.append b s)
theorem Reps.get : ∀ {ds : List Dv} {vs : List V} {i : Nat} {d : Dv}, Reps K ι F ds vs → ds[i]? = some d → ∃ v, vs[i]? = some v ∧ Rep K ι F d v
  | _, _, _, _, .nil, e => by simp at e
  | _, _, 0, _, .cons a _, e => by
    simp at e
    subst e
    exact ⟨_, rfl, a⟩
  | _, _, i + 1, d, .cons _ b, e => by
    obtain ⟨v, h1, h2⟩ := Reps.get (i := i) (d := d) b (by simpa using e)
    exact ⟨v, by simpa using h1, h2⟩
theorem Reps.take : ∀ {ds : List Dv} {vs : List V} (n : Nat), Reps K ι F ds vs → Reps K ι F (ds.take n) (vs.take n)
  | _, _, 0, _ => .nil
  | _, _, _ + 1, .nil => .nil
  | _, _, n + 1, .cons a b => .cons a (Reps.take n b)
theorem Reps.drop : ∀ {ds : List Dv} {vs : List V} (n : Nat), Reps K ι F ds vs → Reps K ι F (ds.drop n) (vs.drop n)
  | _, _, 0, r => r
  | _, _, _ + 1, .nil => .nil
  | _, _, n + 1, .cons _ b => Reps.drop n b
theorem Reps.dropLast {ds : List Dv} {vs : List V} (h : Reps K ι F ds vs) : Reps K ι F ds.dropLast vs.dropLast := by
  rw [List.dropLast_eq_take, List.dropLast_eq_take, h.length]
  exact h.take _
theorem Reps.reverse : ∀ {ds : List Dv} {vs : List V}, Reps K ι F ds vs → Reps K ι F ds.reverse vs.reverse
  | _, _, .nil => .nil
  | _, _, .cons a b => by
    rw [List.reverse_cons, List.reverse_cons]
    exact (Reps.reverse b).append (.cons a .nil)
theorem Reps.set {d : Dv} {v : V} (r : Rep K ι F d v) : ∀ {ds : List Dv} {vs : List V} (i : Nat), Reps K ι F ds vs → Reps K ι F (ds.set i d) (vs.set i v)
  | _, _, _, .nil => .nil
  | _, _, 0, .cons _ b => .cons r b
  | _, _, i + 1, .cons a b => .cons a (Reps.set r i b)
theorem Reps.rep (h : Reps K ι F ds vs) : ∀ k : Nat, Reps K ι F (List.replicate k ds).flatten (List.replicate k vs).flatten
  | 0 => .nil
  | k + 1 => by
    rw [List.replicate_succ, List.replicate_succ, List.flatten_cons, List.flatten_cons]
    exact h.append (Reps.rep h k)
end

/-- the heap: F what never changes, the shared cells at ι -/
structure HS (K : PySem.W.Frag) (ι : List Addr) (F H : Hp) (h : List Cell) : Prop where
  le : Same F H
  len : ι.length = h.length
  nd : ι.Nodup
  out : ∀ a ∈ ι, F a = none
  cell : ∀ (i : Nat) (a : Addr) (ds : List Dv), ι[i]? = some a → h[i]? = some (.lst ds) → ∃ vs, H a = some (.lst vs) ∧ Reps K ι F ds vs
structure Sta (K : PySem.W.Frag) (σ : L2.St) (s : Mem) (ι : List Addr) (F H : Hp) : Prop where
  hs : HS K ι F H s.hp
  len : s.env.length = σ.length
  val : ∀ (i : Nat) (d : Dv), s.env[i]? = some (some (.val d)) → ∃ v, σ[i]? = some (some v) ∧ Rep K ι F d v
  own : ∀ (i : Nat) (ds : List Dv), s.env[i]? = some (some (.own ds)) → ∃ a vs, σ[i]? = some (some (.ref a)) ∧ F a = none ∧ a ∉ ι ∧ H a = some (.lst vs) ∧ Reps K ι F ds vs
  apart : ∀ (i j : Nat) (a : Addr) (ds es : List Dv), s.env[i]? = some (some (.own ds)) → s.env[j]? = some (some (.own es)) → σ[i]? = some (some (.ref a)) → σ[j]? = some (some (.ref a)) → i = j
def Owned (σ : L2.St) (s : Mem) (a : Addr) : Prop := ∃ (i : Nat) (ds : List Dv), s.env[i]? = some (some (.own ds)) ∧ σ[i]? = some (some (.ref a))
def VR (K : PySem.W.Frag) (σ : L2.St) (s : Mem) (ι : List Addr) (F H : Hp) (d : Dv) (v : V) : Prop := match d with
  | .own i => ∃ (a : Addr) (ds : List Dv), s.env[i]? = some (some (.own ds)) ∧ σ[i]? = some (some (.ref a)) ∧ v = .ref a
  | .tmp ds => ∃ p vs, v = .ref p ∧ H p = some (.lst vs) ∧ F p = none ∧ p ∉ ι ∧ ¬ Owned σ s p ∧ Reps K ι F ds vs
  | d => Rep K ι F d v
/-- what a step keeps -/
structure Post (σ : L2.St) (s s' : Mem) (ι ι' : List Addr) (F F' H H' : Hp) : Prop where
  io : ι <+: ι'
  exF : Same F F'
  newF : ∀ b, F b = none → H b ≠ none → F' b = none
  newI : ∀ b, b ∈ ι' → b ∉ ι → H b = none
  dom : ∀ b, H' b = none → H b = none
  keep : ∀ (b : Addr) (o : HO), H b = some o → b ∉ ι → ¬ Owned σ s b → H' b = some o
  shape : ∀ i : Nat, (∃ ds : List Dv, s'.env[i]? = some (some (.own ds))) ↔ (∃ ds : List Dv, s.env[i]? = some (some (.own ds)))
section
variable {K : PySem.W.Frag} {σ : L2.St} {s s1 s2 : Mem} {ι ι1 ι2 : List Addr} {F F1 F2 H H1 H2 : Hp} {d : Dv} {v : V}
theorem Post.owned (p : Post σ s s1 ι ι1 F F1 H H1) {a : Addr} : Owned σ s1 a ↔ Owned σ s a := by
  constructor
  · rintro ⟨i, ds, h1, h2⟩
    obtain ⟨es, h3⟩ := (p.shape i).mp ⟨ds, h1⟩
    exact ⟨i, es, h3, h2⟩
  · rintro ⟨i, ds, h1, h2⟩
    obtain ⟨es, h3⟩ := (p.shape i).mpr ⟨ds, h1⟩
    exact ⟨i, es, h3, h2⟩
theorem Post.refl : Post σ s s ι ι F F H H := ⟨List.prefix_refl _, Same.refl _, fun _ h _ => h, fun _ h n => (n h).elim, fun _ h => h, fun _ _ h _ _ => h, fun _ => Iff.rfl⟩
theorem Post.trans (p : Post σ s s1 ι ι1 F F1 H H1) (q : Post σ s1 s2 ι1 ι2 F1 F2 H1 H2) : Post σ s s2 ι ι2 F F2 H H2 where
  io := p.io.trans q.io
  exF := p.exF.trans q.exF
  newF := fun b h n => q.newF b (p.newF b h n) fun z => n (p.dom b z)
  newI := fun b h n => by
    by_cases hb : b ∈ ι1
    · exact p.newI b hb n
    · exact p.dom b (q.newI b h hb)
  dom := fun b h => p.dom b (q.dom b h)
  keep := fun b o h n1 n2 => q.keep b o (p.keep b o h n1 n2) (fun z => by
    have := p.newI b z n1
    rw [h] at this
    cases this) fun z => n2 (p.owned.mp z)
  shape := fun i => (q.shape i).trans (p.shape i)
theorem VR.mono (p : Post σ s s1 ι ι1 F F1 H H1) (h : VR K σ s ι F H d v) : VR K σ s1 ι1 F1 H1 d v := by
  cases d with
  | own i =>
    obtain ⟨a, ds, h1, h2, h3⟩ := h
    obtain ⟨es, h4⟩ := (p.shape i).mpr ⟨ds, h1⟩
    exact ⟨a, es, h4, h2, h3⟩
  | tmp ds =>
    obtain ⟨q, vs, h1, h2, h3, h4, h5, h6⟩ := h
    have hn : q ∉ ι1 := fun z => by
      have := p.newI q z h4
      rw [h2] at this
      cases this
    exact ⟨q, vs, h1, p.keep q _ h2 h4 h5, p.newF q h3 (by rw [h2]; exact fun z => nomatch z), hn, fun z => h5 (p.owned.mp z), h6.mono p.io p.exF⟩
  | _ => exact Rep.mono p.io p.exF h
end
/-- how an exception lies; for now none is told -/
def ExRep (K : PySem.W.Frag) (ι : List Addr) (F H : Hp) (e : Exn) (c : Value) (d : Option Addr) : Prop := True
abbrev XE := L2.St → XK
/-- a reading by a plain function, from where it stands -/
def Leaf (K : PySem.W.Frag) (E : XE) {α : Type} (m : Mo α) (σ : L2.St) (s : Mem) (ι : List Addr) (F H : Hp) (Q : α → Mem → List Addr → Hp → Hp → Prop) : Prop :=
  Wp (m s) (fun d s' => ∀ ι' F' H', Post σ s s' ι ι' F F' H H' → Sta K σ s' ι' F' H' → Q d s' ι' F' H')
    (fun e s' => ∀ ι' F' H' c x, Post σ s s' ι ι' F F' H H' → Sta K σ s' ι' F' H' → ExRep K ι' F' H' e c x → E σ c x H')
/-- what is just made is new to the heap ahead -/
def New (H : Hp) (d : Dv) (v : V) : Prop := match d with
  | .tmp _ => ∀ p, v = .ref p → H p = none
  | _ => True
def tI (K : PySem.W.Frag) (E : XE) (m : Mo Dv) : TE := fun σ H Q => ∃ s ι F, Sta K σ s ι F H ∧ Leaf K E m σ s ι F H fun d s' ι' F' H' => ∀ v, VR K σ s' ι' F' H' d v → New H d v → Q v H'
def tT (K : PySem.W.Frag) (E : XE) (m : Mo Bool) : TT := fun σ H Q => ∃ s ι F, Sta K σ s ι F H ∧ Leaf K E m σ s ι F H fun b s' ι' F' H' => Q b H'
section
variable {K : PySem.W.Frag} {E : XE} {σ : L2.St} {s s1 s2 : Mem} {ι ι1 ι2 : List Addr} {F F1 F2 H H1 H2 : Hp} {d : Dv} {v : V} {α β : Type}
theorem Leaf.bind {m : Mo α} {f : α → Mo β} {Q : β → Mem → List Addr → Hp → Hp → Prop} (h : Leaf K E (m.bind f) σ s ι F H Q) :
    Leaf K E m σ s ι F H fun a s1 ι1 F1 H1 => Post σ s s1 ι ι1 F F1 H H1 ∧ Sta K σ s1 ι1 F1 H1 ∧ Leaf K E (f a) σ s1 ι1 F1 H1 Q := by
  refine (Wp.bind h).imp (fun a s1 h1 ι1 F1 H1 p st => ⟨p, st, h1.imp (fun b s2 h2 ι2 F2 H2 p2 st2 => h2 ι2 F2 H2 (p.trans p2) st2) fun e s2 h2 ι2 F2 H2 c x p2 st2 r => h2 ι2 F2 H2 c x (p.trans p2) st2 r⟩) (fun _ _ h1 => h1)
theorem Leaf.imp {m : Mo α} {Q Q' : α → Mem → List Addr → Hp → Hp → Prop} (h : Leaf K E m σ s ι F H Q) (hq : ∀ d s' ι' F' H', Q d s' ι' F' H' → Q' d s' ι' F' H') : Leaf K E m σ s ι F H Q' :=
  Wp.imp h (fun d s' h1 ι' F' H' p st => hq _ _ _ _ _ (h1 ι' F' H' p st)) fun _ _ h1 => h1
theorem Leaf.pure {a : α} {Q : α → Mem → List Addr → Hp → Hp → Prop} (st : Sta K σ s ι F H) (h : Leaf K E (Mo.pure a) σ s ι F H Q) : Q a s ι F H := h ι F H Post.refl st
theorem tI.imp {m : Mo Dv} {Q Q' : VK} (h : tI K E m σ H Q) (hq : ∀ v H', Q v H' → Q' v H') : tI K E m σ H Q' := by
  obtain ⟨s, ι, F, st, h⟩ := h
  exact ⟨s, ι, F, st, h.imp fun d s' ι' F' H' q v r n => hq _ _ (q v r n)⟩
end

/-! ### new things -/
section
variable {K : PySem.W.Frag} {σ : L2.St} {s s1 s2 : Mem} {ι ι1 ι2 : List Addr} {F F1 F2 H H1 H2 : Hp} {d : Dv} {v : V} {p : Addr} {o : HO}
theorem same_upd {H : Hp} {p : Addr} {o : HO} (h : H p = none) : Same H (upd H p o) := fun b x e => by
  rw [upd_ne (ne_of_none e h)]
  exact e
theorem Same.free' {H H' : Hp} (e : Same H H') {l : Addr} (h : H' l = none) : H l = none := e.free h
/-- a thing laid that the frozen part does not know -/
theorem Sta.laid (st : Sta K σ s ι F H) (hp : H p = none) : Sta K σ s ι F (upd H p o) := by
  refine ⟨⟨st.hs.le.trans (same_upd hp), st.hs.len, st.hs.nd, st.hs.out, fun i a ds h1 h2 => ?_⟩, st.len, st.val, fun i ds h => ?_, st.apart⟩
  · obtain ⟨vs, h3, h4⟩ := st.hs.cell i a ds h1 h2
    exact ⟨vs, same_upd hp _ _ h3, h4⟩
  · obtain ⟨a, vs, h1, h2, h3, h4, h5⟩ := st.own i ds h
    exact ⟨a, vs, h1, h2, h3, same_upd hp _ _ h4, h5⟩
theorem Sta.cellAt (st : Sta K σ s ι F H) (h : p ∈ ι) : H p ≠ none := by
  obtain ⟨i, hi, e⟩ := List.mem_iff_getElem.mp h
  have h1 : ι[i]? = some p := by rw [List.getElem?_eq_getElem hi, e]
  have hl : i < s.hp.length := by rw [← st.hs.len]; exact hi
  cases hc : s.hp[i] with
  | lst ds =>
    obtain ⟨vs, h2, _⟩ := st.hs.cell i p ds h1 (by rw [List.getElem?_eq_getElem hl, hc])
    rw [h2]
    exact fun z => nomatch z
theorem Sta.ownAt (st : Sta K σ s ι F H) (h : Owned σ s p) : F p = none ∧ p ∉ ι ∧ H p ≠ none := by
  obtain ⟨i, ds, h1, h2⟩ := h
  obtain ⟨a, vs, h3, h4, h5, h6, _⟩ := st.own i ds h1
  rw [h2] at h3
  cases h3
  exact ⟨h4, h5, by rw [h6]; exact fun z => nomatch z⟩
theorem Post.laid (hp : H p = none) : Post σ s s ι ι F F H (upd H p o) := by
  refine ⟨List.prefix_refl _, Same.refl _, fun _ h _ => h, fun _ h n => (n h).elim, fun b h => ?_, fun b u h _ _ => same_upd hp b u h, fun _ => Iff.rfl⟩
  by_cases e : b = p
  · rw [e]; exact hp
  · rw [upd_ne e] at h; exact h
/-- something frozen -/
theorem Sta.frz (st : Sta K σ s ι F H) (ho : H p = some o) (hF : F p = none) (hi : p ∉ ι) (hw : ¬ Owned σ s p) : Sta K σ s ι (upd F p o) H := by
  have sm : Same F (upd F p o) := same_upd hF
  refine ⟨⟨fun b u e => ?_, st.hs.len, st.hs.nd, fun a ha => ?_, fun i a ds h1 h2 => ?_⟩, st.len, fun i d h => ?_, fun i ds h => ?_, st.apart⟩
  · by_cases hb : b = p
    · rw [hb, upd_same] at e
      rw [hb, ho, Option.some.inj e]
    · rw [upd_ne hb] at e
      exact st.hs.le b u e
  · rw [upd_ne (show a ≠ p from fun e => hi (e ▸ ha))]
    exact st.hs.out a ha
  · obtain ⟨vs, h3, h4⟩ := st.hs.cell i a ds h1 h2
    exact ⟨vs, h3, h4.mono (List.prefix_refl _) sm⟩
  · obtain ⟨v, h1, h2⟩ := st.val i d h
    exact ⟨v, h1, h2.mono (List.prefix_refl _) sm⟩
  · obtain ⟨a, vs, h1, h2, h3, h4, h5⟩ := st.own i ds h
    have ne : a ≠ p := fun e => hw ⟨i, ds, h, e ▸ h1⟩
    exact ⟨a, vs, h1, by rw [upd_ne ne]; exact h2, h3, h4, h5.mono (List.prefix_refl _) sm⟩
/-- a step behind which a thing that is new is frozen -/
theorem Post.frz (q : Post σ s s1 ι ι1 F F1 H H1) (hF : F1 p = none) (hn : H p = none) : Post σ s s1 ι ι1 F (upd F1 p o) H H1 :=
  ⟨q.io, q.exF.trans (same_upd hF), fun b h n => by
    have hb : b ≠ p := fun e => n (e ▸ hn)
    rw [upd_ne hb]
    exact q.newF b h n, q.newI, q.dom, q.keep, q.shape⟩
end

theorem PE.imp {X : Cx} {e : Expr} {t t' : TE} (h : PE X e t) (hi : ∀ σ H Q, t' σ H Q → t σ H Q) : PE X e t' := ⟨fun pins s σ H Q I q => h.run pins s σ H Q I (hi σ H Q q)⟩
theorem PT.imp {X : Cx} {e : Expr} {t t' : TT} (h : PT X e t) (hi : ∀ σ H Q, t' σ H Q → t σ H Q) : PT X e t' := ⟨fun pins s σ H Q I q => h.run pins s σ H Q I (hi σ H Q q)⟩
theorem PS.imp {X : Cx} {e : Stmt} {t t' : TS} (h : PS X e t) (hi : ∀ Dv σ H, t' Dv σ H → t Dv σ H) : PS X e t' := ⟨fun pins s σ H Dv I q => h.run pins s σ H Dv I (hi Dv σ H q)⟩
theorem PSs.imp {X : Cx} {e : List Stmt} {t t' : TS} (h : PSs X e t) (hi : ∀ Dv σ H, t' Dv σ H → t Dv σ H) : PSs X e t' := ⟨fun pins s σ H Dv I q => h.run pins s σ H Dv I (hi Dv σ H q)⟩
theorem PA.imp {X : Cx} {e : List Expr} {t t' : TA} (h : PA X e t) (hi : ∀ σ H Q, t' σ H Q → t σ H Q) : PA X e t' := ⟨fun pos pins s σ H Q I q => h.run pos pins s σ H Q I (hi σ H Q q)⟩
theorem PI.imp {X : Cx} {tg e : Expr} {t t' : L2.TI} (h : PI X tg e t) (hi : ∀ σ H Res, t' σ H Res → t σ H Res) : PI X tg e t' := ⟨fun pins s σ H Res I q => h.run pins s σ H Res I (hi σ H Res q)⟩
end Mir

set_option Elab.async false
set_option linter.all false
set_option maxRecDepth 100000
/-! Mir: expressions. -/
namespace Mir
open PySem PySem.Spec L2
def lim : Nat := 16777216
theorem lim_eq : sizeLine = lim := sizeLine_eq
/-- what is there to be read -/
def peek (s : Mem) : Dv → Dv
  | .own i => match s.env[i]? with
    | some (some (.own ds)) => .lst ds
    | _ => .own i
  | .tmp ds => .lst ds
  | .ref i => match s.hp[i]? with
    | some (.lst ds) => .lst ds
    | none => .ref i
  | d => d
def PV (K : PySem.W.Frag) (ι : List Addr) (F H : Hp) (d : Dv) (v : V) : Prop := match d with
  | .non => v = .non
  | .bl b => v = .bl b
  | .int i => v = .int i
  | .str x => v = .str x
  | .tup ds => ∃ a vs, v = .ref a ∧ SqT K F a vs ∧ Reps K ι F ds vs
  | .lst ds => ∃ a vs, v = .ref a ∧ Rd H a (.lst vs) ∧ Reps K ι F ds vs
  | .scr ns => ∃ a, v = .ref a ∧ SqL K H a (ns.map V.int)
  | _ => True
section
variable {K : PySem.W.Frag} {E : XE} {σ : L2.St} {s s1 s2 : Mem} {ι ι1 ι2 : List Addr} {F F1 F2 H H1 H2 : Hp} {d e z : Dv} {v w : V} {p : Addr} {Q : VK}
theorem rep_pv (sm : Same F H) (r : Rep K ι F d v) : PV K ι F H d v := by
  cases r with
  | non => exact rfl
  | bl b => exact rfl
  | int i => exact rfl
  | str x => exact rfl
  | tup h r => exact ⟨_, _, rfl, h, r⟩
  | lst h r => exact ⟨_, _, rfl, same_rd sm h, r⟩
  | ref h => exact True.intro
  | scr h => exact ⟨_, rfl, Same.seq sm h⟩
theorem peek_pv (st : Sta K σ s ι F H) (r : VR K σ s ι F H d v) : PV K ι F H (peek s d) v := by
  cases d with
  | own i =>
    obtain ⟨a, ds, h1, h2, rfl⟩ := r
    have e : peek s (.own i) = .lst ds := by simp only [peek, h1]
    rw [e]
    obtain ⟨b, vs, h3, _, _, h4, h5⟩ := st.own i ds h1
    rw [h2] at h3
    cases h3
    exact ⟨a, vs, rfl, .inl h4, h5⟩
  | tmp ds =>
    obtain ⟨q, vs, rfl, h1, _, _, _, h2⟩ := r
    exact ⟨q, vs, rfl, .inl h1, h2⟩
  | ref i =>
    have r' : Rep K ι F (.ref i) v := r
    cases r' with
    | ref h =>
      cases hc : s.hp[i]? with
      | none =>
        have e : peek s (.ref i) = .ref i := by simp only [peek, hc]
        rw [e]
        exact True.intro
      | some c =>
        cases c with
        | lst ds =>
          have e : peek s (.ref i) = .lst ds := by simp only [peek, hc]
          rw [e]
          obtain ⟨vs, h3, h4⟩ := st.hs.cell i _ ds h hc
          exact ⟨_, vs, rfl, .inl h3, h4⟩
  | _ => exact rep_pv st.hs.le r
/-- where a result may go -/
def Out (K : PySem.W.Frag) (σ : L2.St) (s : Mem) (ι : List Addr) (F H : Hp) (z : Dv) (Q : VK) : Prop :=
  ∀ ι' F' H', Post σ s s ι ι' F F' H H' → Sta K σ s ι' F' H' → ∀ v, VR K σ s ι' F' H' z v → New H z v → Q v H'
theorem out_plain (st : Sta K σ s ι F H) (o : Out K σ s ι F H z Q) (r : VR K σ s ι F H z v) (n : New H z v) : Q v H := o ι F H Post.refl st v r n
theorem rep_vr (r : Rep K ι F d v) : VR K σ s ι F H d v := by
  cases r with
  | non => exact .non
  | bl b => exact .bl b
  | int i => exact .int i
  | str x => exact .str x
  | tup h r => exact .tup h r
  | lst h r => exact .lst h r
  | ref h => exact .ref h
  | scr h => exact .scr h
theorem rep_new (r : Rep K ι F d v) : New H d v := by cases r <;> exact True.intro
theorem out_rep (st : Sta K σ s ι F H) (o : Out K σ s ι F H z Q) (r : Rep K ι F z v) : Q v H := out_plain st o (rep_vr r) (rep_new r)
theorem vr_tmp {ds : List Dv} {vs : List V} (st : Sta K σ s ι F H) (hp : H p = none) (r : Reps K ι F ds vs) : VR K σ s ι F (upd H p (.lst vs)) (.tmp ds) (.ref p) :=
  ⟨p, vs, rfl, upd_same, st.hs.le.free hp, fun z => st.cellAt z hp, fun z => (st.ownAt z).2.2 hp, r⟩
theorem out_tmp {ds : List Dv} {vs : List V} (st : Sta K σ s ι F H) (o : Out K σ s ι F H (.tmp ds) Q) (r : Reps K ι F ds vs) (hp : H p = none) : Q (.ref p) (upd H p (.lst vs)) :=
  o ι F _ (Post.laid hp) (st.laid hp) _ (vr_tmp st hp r) fun q e => by
    cases e
    exact hp
theorem laid_tup {vs : List V} (st : Sta K σ s ι F H) (hp : H p = none) : Sta K σ s ι (upd F p (.tup vs)) (upd H p (.tup vs)) ∧ Post σ s s ι ι F (upd F p (.tup vs)) H (upd H p (.tup vs)) :=
  ⟨(st.laid hp).frz upd_same (st.hs.le.free hp) (fun z => st.cellAt z hp) fun z => (st.ownAt z).2.2 hp, (Post.laid hp).frz (st.hs.le.free hp) hp⟩
theorem out_tup {ds : List Dv} {vs : List V} (st : Sta K σ s ι F H) (o : Out K σ s ι F H (.tup ds) Q) (r : Reps K ι F ds vs) (hp : H p = none) : Q (.ref p) (upd H p (.tup vs)) := by
  obtain ⟨h1, h2⟩ := laid_tup (vs := vs) st hp
  exact o ι _ _ h2 h1 _ (Rep.tup (.inl (.inl upd_same)) (r.mono (List.prefix_refl _) (same_upd (st.hs.le.free hp)))) True.intro
end

/-! ### two-place operations -/
def lift2 (g : Dv → Dv → Option Dv) (d e : Dv) : Mo Dv := fun s => match g (peek s d) (peek s e) with
  | some z => .ok z s
  | none => .no
def Opg (X : Cx) (f : Value → Value → Sem Value) (g : Dv → Dv → Option Dv) : Prop := ∃ r : R2, OpR X f r ∧
  ∀ σ s ι F H dx dy x y z Q, Sta X.K σ s ι F H → PV X.K ι F H dx x → PV X.K ι F H dy y → g dx dy = some z → Out X.K σ s ι F H z Q → r x y H Q
def mBin (g : Dv → Dv → Option Dv) (ma mb : Mo Dv) : Mo Dv := ma.bind fun d => mb.bind fun e => lift2 g d e
section
variable {X : Cx} {E : XE} {σ : L2.St} {H : Hp} {Q : VK} {a b : Expr} {ma mb : Mo Dv} {f : Value → Value → Sem Value} {g : Dv → Dv → Option Dv} {pos : Pos}
theorem leaf_lift2 {K : PySem.W.Frag} {s : Mem} {ι : List Addr} {F : Hp} {d e : Dv} {Q : Dv → Mem → List Addr → Hp → Hp → Prop} (h : Leaf K E (lift2 g d e) σ s ι F H Q) :
    ∃ z, g (peek s d) (peek s e) = some z ∧ ∀ ι' F' H', Post σ s s ι ι' F F' H H' → Sta K σ s ι' F' H' → Q z s ι' F' H' := by
  unfold Leaf lift2 at h
  cases hg : g (peek s d) (peek s e) with
  | none => rw [hg] at h; exact h.elim
  | some z => rw [hg] at h; exact ⟨z, rfl, h⟩
theorem new_back {K : PySem.W.Frag} {s s1 : Mem} {ι ι1 : List Addr} {F F1 H1 : Hp} {z : Dv} {v : V} (p : Post σ s s1 ι ι1 F F1 H H1) (n : New H1 z v) : New H z v := by
  cases z with
  | tmp ds => exact fun q e => p.dom q (n q e)
  | _ => exact True.intro
theorem bin_to {r : R2} (hr : ∀ σ s ι F H dx dy x y z Q, Sta X.K σ s ι F H → PV X.K ι F H dx x → PV X.K ι F H dy y → g dx dy = some z → Out X.K σ s ι F H z Q → r x y H Q) (h : tI X.K E (mBin g ma mb) σ H Q) :
    tOp r (tI X.K E ma) (tI X.K E mb) σ H Q := by
  obtain ⟨s, ι, F, st, h⟩ := h
  refine ⟨s, ι, F, st, h.bind.imp fun d s1 ι1 F1 H1 ⟨p1, st1, h1⟩ v rv nv => ?_⟩
  refine ⟨s1, ι1, F1, st1, h1.bind.imp fun e s2 ι2 F2 H2 ⟨p2, st2, h2⟩ w rw' nw => ?_⟩
  obtain ⟨z, hz, q⟩ := leaf_lift2 h2
  exact hr σ s2 ι2 F2 H2 _ _ v w z Q st2 (peek_pv st2 (rv.mono p2)) (peek_pv st2 rw') hz fun ι' F' H' p st' u ru nu => q ι' F' H' p st' u ru (new_back (K := X.K) p1 (new_back (K := X.K) p2 nu))
theorem se_bin {o : Operator} (ho : Opg X (binaryOp o) g) (ha : PE X a (tI X.K E ma)) (hb : PE X b (tI X.K E mb)) : PE X (.BinOp a o b pos) (tI X.K E (mBin g ma mb)) := by
  obtain ⟨r, h1, h2⟩ := ho
  exact PE.imp (pe_op h1 ha hb) fun σ H Q h => bin_to h2 h
theorem se_cmp {o : CmpOp} (ho : Opg X (compareOp o) g) (ha : PE X a (tI X.K E ma)) (hb : PE X b (tI X.K E mb)) (hm : behindInMarks o b = false) : PE X (.Compare a [o] [b] pos) (tI X.K E (mBin g ma mb)) := by
  obtain ⟨r, h1, h2⟩ := ho
  exact PE.imp (pe_cmpR h1 ha hb hm) fun σ H Q h => bin_to h2 h
/-- a value that is a bool, as a test -/
def toB (d : Dv) : Mo Bool := fun s => match d with
  | .bl b => .ok b s
  | _ => .no
def mTest (m : Mo Dv) : Mo Bool := m.bind toB
theorem test_to {m : Mo Dv} {Q : Bool → Hp → Prop} (h : tT X.K E (mTest m) σ H Q) : tTest (tI X.K E m) σ H Q := by
  obtain ⟨s, ι, F, st, h⟩ := h
  refine ⟨s, ι, F, st, h.bind.imp fun d s1 ι1 F1 H1 ⟨p1, st1, h1⟩ v rv nv => ?_⟩
  cases d with
  | bl b =>
    have r' : Rep X.K ι1 F1 (.bl b) v := rv
    cases r'
    exact ⟨b, rfl, Leaf.pure st1 h1⟩
  | _ => exact (show False from h1).elim
theorem tTest_imp {t t' : TE} {Q : Bool → Hp → Prop} (hi : ∀ σ H Q, t' σ H Q → t σ H Q) (h : tTest t' σ H Q) : tTest t σ H Q := hi _ _ _ h
theorem st_cmp {o : CmpOp} (ho : Opg X (compareOp o) g) (ha : PE X a (tI X.K E ma)) (hb : PE X b (tI X.K E mb)) (hm : behindInMarks o b = false) : PT X (.Compare a [o] [b] pos) (tT X.K E (mTest (mBin g ma mb))) := by
  obtain ⟨r, h1, h2⟩ := ho
  exact PT.imp (pt_cmpR h1 ha hb hm) fun σ H Q h => tTest_imp (fun σ H Q h => bin_to h2 h) (test_to h)
theorem st_val {e : Expr} {m : Mo Dv} (h : PE X e (tI X.K E m)) (he : ∀ whole, isTrue e X.env whole = (do let v ← whole; standAt e.pos; holding [v] (truthy v)) := by intro _; rfl) : PT X e (tT X.K E (mTest m)) :=
  PT.imp (pt_val h he) fun σ H Q h => test_to h

/-! ### names and constants -/
def mC (d : Dv) : Mo Dv := Mo.pure d
def mVar (i : Nat) : Mo Dv := fun s => match s.env[i]? with
  | some (some (.val d)) => .ok d s
  | some (some (.own _)) => .ok (.own i) s
  | _ => .no
theorem c_to {d : Dv} {v : V} (r : ∀ K ι F, Rep K ι F d v) (h : tI X.K E (mC d) σ H Q) : tC v σ H Q := by
  obtain ⟨s, ι, F, st, h⟩ := h
  exact Leaf.pure st h v (rep_vr (r _ _ _)) (rep_new (r X.K ι F))
theorem se_int {i j pos} : PE X (.Constant (.int i) j pos) (tI X.K E (mC (.int i))) := PE.imp pe_int fun σ H Q h => c_to (fun _ _ _ => .int i) h
theorem se_bl {b j pos} : PE X (.Constant (.bool b) j pos) (tI X.K E (mC (.bl b))) := PE.imp pe_bl fun σ H Q h => c_to (fun _ _ _ => .bl b) h
theorem se_non {j pos} : PE X (.Constant .none j pos) (tI X.K E (mC .non)) := PE.imp pe_non fun σ H Q h => c_to (fun _ _ _ => .non) h
theorem se_str {x j pos} : PE X (.Constant (.str x) j pos) (tI X.K E (mC (.str x))) := PE.imp pe_str fun σ H Q h => c_to (fun _ _ _ => .str x) h
/-- a constant of the module -/
theorem se_glob {x : Str} {d : Dv} {v : V} {u : Value} {pos : Pos} (hg : Gl X x) (hm : X.mg x = some u) (rv : RelV v u) (r : ∀ K ι F, Rep K ι F d v) (hd : (x == ("__debug__" : Str)) = false := by decide) : PE X (.Name x pos) (tI X.K E (mC d)) :=
  PE.imp (pe_glob hg hm rv hd) fun σ H Q h => c_to r h
theorem var_to {i : Nat} (h : tI X.K E (mVar i) σ H Q) : tVar i σ H Q := by
  obtain ⟨s, ι, F, st, h⟩ := h
  unfold Leaf mVar at h
  cases he : s.env[i]? with
  | none => rw [he] at h; exact h.elim
  | some o =>
    cases o with
    | none => rw [he] at h; exact h.elim
    | some sl =>
      rw [he] at h
      cases sl with
      | val d =>
        obtain ⟨v, h1, h2⟩ := st.val i d he
        exact ⟨v, h1, h ι F H Post.refl st v (rep_vr h2) (rep_new h2)⟩
      | own ds =>
        obtain ⟨a, vs, h1, _⟩ := st.own i ds he
        exact ⟨.ref a, h1, h ι F H Post.refl st (.ref a) ⟨a, ds, he, h1, rfl⟩ True.intro⟩
theorem se_var (i : Nat) {x : Str} {pos : Pos} (hN : X.N[i]? = some x := by rfl) (hv : Vis X.env.scope x := by first | exact Or.inl rfl | exact Or.inr (Or.inl rfl) | exact Or.inr (Or.inr rfl)) (hd : (x == ("__debug__" : Str)) = false := by decide)
    (hcd : (x == ("__classdict__" : Str)) = false := by decide) : PE X (.Name x pos) (tI X.K E (mVar i)) := PE.imp (pe_var hN hv hd hcd) fun σ H Q h => var_to h
/-- what is never come to -/
def mNo {α : Type} : Mo α := fun _ => .no
theorem se_no {e : Expr} : PE X e (tI X.K E mNo) := ⟨fun pins s σ H Q I h => by
  obtain ⟨_, _, _, _, h⟩ := h
  exact (show False from h).elim⟩

/-! ### argument lists, displays -/
/-- what is just made is frozen -/
def mFrz (m : Mo Dv) : Mo Dv := m.bind fun d s => match d with
  | .tmp ds => .ok (.lst ds) s
  | .own _ => .no
  | d => .ok d s
theorem frz_to {m : Mo Dv} {K : PySem.W.Frag} {s : Mem} {ι : List Addr} {F : Hp} {Q : Dv → Mem → List Addr → Hp → Hp → Prop} (h : Leaf K E (mFrz m) σ s ι F H Q) :
    Leaf K E m σ s ι F H fun d s1 ι1 F1 H1 => Post σ s s1 ι ι1 F F1 H H1 ∧ Sta K σ s1 ι1 F1 H1 ∧ ∀ v, VR K σ s1 ι1 F1 H1 d v → New H d v → ∃ e F2, Post σ s s1 ι ι1 F F2 H H1 ∧ Sta K σ s1 ι1 F2 H1 ∧ Rep K ι1 F2 e v ∧ Q e s1 ι1 F2 H1 := by
  refine (Wp.bind h).imp (fun d s1 h1 ι1 F1 H1 p1 st1 => ⟨p1, st1, fun v rv nv => ?_⟩) fun _ _ h1 => h1
  cases d with
  | tmp ds =>
    obtain ⟨q, vs, rfl, g1, g2, g3, g4, g5⟩ := rv
    have st2 := st1.frz g1 g2 g3 g4
    have p2 := p1.frz (o := .lst vs) g2 (nv q rfl)
    exact ⟨.lst ds, _, p2, st2, .lst (.inl upd_same) (g5.mono (List.prefix_refl _) (same_upd g2)), h1 ι1 _ H1 p2 st2⟩
  | own i => exact (show False from h1).elim
  | _ => exact ⟨_, F1, p1, st1, rv, h1 ι1 F1 H1 p1 st1⟩
def tIA (K : PySem.W.Frag) (E : XE) (m : Mo (List Dv)) : TA := fun σ H Q => ∃ s ι F, Sta K σ s ι F H ∧ Leaf K E m σ s ι F H fun ds s' ι' F' H' => ∀ vs, Reps K ι' F' ds vs → Q vs H'
def mNil : Mo (List Dv) := Mo.pure []
def mCons (m : Mo Dv) (ms : Mo (List Dv)) : Mo (List Dv) := (mFrz m).bind fun d => ms.bind fun ds => Mo.pure (d :: ds)
theorem nil_to {Q : List V → Hp → Prop} (h : tIA X.K E mNil σ H Q) : tNil σ H Q := by
  obtain ⟨s, ι, F, st, h⟩ := h
  exact Leaf.pure st h [] .nil
theorem cons_to {m : Mo Dv} {ms : Mo (List Dv)} {Q : List V → Hp → Prop} (h : tIA X.K E (mCons m ms) σ H Q) : tCons (tI X.K E m) (tIA X.K E ms) σ H Q := by
  obtain ⟨s, ι, F, st, h⟩ := h
  refine ⟨s, ι, F, st, (frz_to h.bind).imp fun d s1 ι1 F1 H1 ⟨_, _, h1⟩ v rv nv => ?_⟩
  obtain ⟨e, F2, p2, st2, re, _, _, h2⟩ := h1 v rv nv
  refine ⟨s1, ι1, F2, st2, h2.bind.imp fun ds s3 ι3 F3 H3 ⟨p3, st3, h3⟩ vs rs => ?_⟩
  exact Leaf.pure st3 h3 (v :: vs) (.cons (re.mono p3.io p3.exF) rs)
theorem sa_nil : PA X [] (tIA X.K E mNil) := PA.imp pa_nil fun σ H Q h => nil_to h
theorem sa_cons {e : Expr} {es : List Expr} {m : Mo Dv} {ms : Mo (List Dv)} (ha : PE X e (tI X.K E m)) (hr : PA X es (tIA X.K E ms)) (hs : starEach (e :: es) X.env = (false, eval e X.env) :: starEach es X.env := by rfl) : PA X (e :: es) (tIA X.K E (mCons m ms)) :=
  PA.imp (pa_cons ha hr hs) fun σ H Q h => cons_to h
def mGuard {α : Type} (c : Prop) [Decidable c] (z : α) : Mo α := fun s => if c then .ok z s else .no
theorem Leaf.guard {K : PySem.W.Frag} {s : Mem} {ι : List Addr} {F : Hp} {α : Type} {c : Prop} [Decidable c] {z : α} {Q : α → Mem → List Addr → Hp → Hp → Prop} (h : Leaf K E (mGuard c z) σ s ι F H Q) :
    c ∧ ∀ ι' F' H', Post σ s s ι ι' F F' H H' → Sta K σ s ι' F' H' → Q z s ι' F' H' := by
  unfold Leaf mGuard at h
  by_cases hc : c
  · rw [if_pos hc] at h
    exact ⟨hc, h⟩
  · rw [if_neg hc] at h
    exact h.elim
def mTup (ms : Mo (List Dv)) : Mo Dv := ms.bind fun ds => mGuard (ds.length ≤ lim) (.tup ds)
def mLst (ms : Mo (List Dv)) : Mo Dv := ms.bind fun ds => mGuard (ds.length ≤ lim) (.tmp ds)
theorem se_tup {es : List Expr} {ms : Mo (List Dv)} {x1} (h : PA X es (tIA X.K E ms)) : PE X (.Tuple es x1 pos) (tI X.K E (mTup ms)) := by
  refine PE.imp (pe_tup h) fun σ H Q h => ?_
  obtain ⟨s, ι, F, st, h⟩ := h
  refine ⟨s, ι, F, st, h.bind.imp fun ds s1 ι1 F1 H1 ⟨p1, st1, h1⟩ vs rs => ?_⟩
  obtain ⟨hc, q⟩ := h1.guard
  exact ⟨by rw [rs.length, lim_eq]; exact hc, fun p hp => out_tup (Q := Q) st1 (fun ι' F' H' pp ss v rv nv => q ι' F' H' pp ss v rv True.intro) rs hp⟩
theorem se_lst {es : List Expr} {ms : Mo (List Dv)} (h : PA X es (tIA X.K E ms)) : PE X (.List es pos) (tI X.K E (mLst ms)) := by
  refine PE.imp (pe_lst h) fun σ H Q h => ?_
  obtain ⟨s, ι, F, st, h⟩ := h
  refine ⟨s, ι, F, st, h.bind.imp fun ds s1 ι1 F1 H1 ⟨p1, st1, h1⟩ vs rs => ?_⟩
  obtain ⟨hc, q⟩ := h1.guard
  exact ⟨by rw [rs.length, lim_eq]; exact hc, fun p hp => out_tmp (Q := Q) st1 (fun ι' F' H' pp ss v rv nv => q ι' F' H' pp ss v rv (new_back (K := X.K) p1 nv)) rs hp⟩
end
end Mir

set_option Elab.async false
set_option linter.all false
set_option maxRecDepth 100000
/-! Mir: operations by values. -/
namespace Mir
open PySem PySem.Spec L2

/-! ### data for == -/
mutual
def toPy : Dv → Option PyData
  | .non => some .none
  | .bl b => some (.bool b)
  | .int i => some (.int i)
  | .str x => some (.str x)
  | .tup ds => (toPys ds).map .tuple
  | .lst ds => (toPys ds).map .list
  | .ref _ => none
  | .own _ => none
  | .tmp _ => none
  | .scr _ => none
def toPys : List Dv → Option (List PyData)
  | [] => some []
  | d :: ds => (toPy d).bind fun e => (toPys ds).map (e :: ·)
end
mutual
theorem rep_dp {K : PySem.W.Frag} {ι : List Addr} {F H : Hp} (sm : Same F H) : ∀ {d : Dv} {v : V} {e : PyData}, Rep K ι F d v → toPy d = some e → Dp K H v e
  | _, _, e, .non, h => by
    cases Option.some.inj h
    exact .non
  | _, _, e, .bl b, h => by
    cases Option.some.inj h
    exact .bl b
  | _, _, e, .int i, h => by
    cases Option.some.inj h
    exact .int i
  | _, _, e, .str x, h => by
    cases Option.some.inj h
    exact .str x
  | _, _, e, .tup hs r, h => by
    unfold toPy at h
    obtain ⟨es, h1, rfl⟩ := Option.map_eq_some_iff.mp h
    exact .tup (same_t sm hs) (reps_dp sm r h1)
  | _, _, e, .lst hs r, h => by
    unfold toPy at h
    obtain ⟨es, h1, rfl⟩ := Option.map_eq_some_iff.mp h
    exact .lst (.inl (same_rd sm hs)) (reps_dp sm r h1)
  | _, _, e, .ref _, h => by cases h
  | _, _, e, .scr _, h => by cases h
theorem reps_dp {K : PySem.W.Frag} {ι : List Addr} {F H : Hp} (sm : Same F H) : ∀ {ds : List Dv} {vs : List V} {es : List PyData}, Reps K ι F ds vs → toPys ds = some es → DpAll K H vs es
  | _, _, es, .nil, h => by
    cases Option.some.inj h
    exact .nil
  | _, _, es, .cons r rs, h => by
    unfold toPys at h
    obtain ⟨e, h1, h2⟩ := Option.bind_eq_some_iff.mp h
    obtain ⟨es', h3, rfl⟩ := Option.map_eq_some_iff.mp h2
    exact .cons (rep_dp sm r h1) (reps_dp sm rs h3)
end
theorem pv_dp {K : PySem.W.Frag} {ι : List Addr} {F H : Hp} (sm : Same F H) {d : Dv} {v : V} {e : PyData} (r : PV K ι F H d v) (h : toPy d = some e) : Dp K H v e := by
  cases d with
  | non => cases r; cases Option.some.inj h; exact .non
  | bl b => cases r; cases Option.some.inj h; exact .bl b
  | int i => cases r; cases Option.some.inj h; exact .int i
  | str x => cases r; cases Option.some.inj h; exact .str x
  | tup ds =>
    obtain ⟨a, vs, rfl, hs, rs⟩ := r
    unfold toPy at h
    obtain ⟨es, h1, rfl⟩ := Option.map_eq_some_iff.mp h
    exact .tup (same_t sm hs) (reps_dp sm rs h1)
  | lst ds =>
    obtain ⟨a, vs, rfl, hs, rs⟩ := r
    unfold toPy at h
    obtain ⟨es, h1, rfl⟩ := Option.map_eq_some_iff.mp h
    exact .lst (.inl hs) (reps_dp sm rs h1)
  | _ => cases h

/-! ### the plain operations -/
def gAdd : Dv → Dv → Option Dv
  | .int i, .int j => some (.int (i + j))
  | .lst xs, .lst ys => if xs.length + ys.length ≤ lim then some (.tmp (xs ++ ys)) else none
  | .tup xs, .tup ys => if xs.length + ys.length ≤ lim then some (.tup (xs ++ ys)) else none
  | .str x, .str y => if x.length + y.length ≤ lim then some (.str (x ++ y)) else none
  | _, _ => none
def gSub : Dv → Dv → Option Dv
  | .int i, .int j => some (.int (i - j))
  | _, _ => none
def mulOk (i j : Int) : Bool := decide (i.natAbs < 18446744073709551616) || decide (j.natAbs < 18446744073709551616) || decide (i.natAbs.log2 + j.natAbs.log2 < 1000000)
def gMul : Dv → Dv → Option Dv
  | .int i, .int j => if mulOk i j = true then some (.int (i * j)) else none
  | .lst xs, .int k => if 0 ≤ k ∧ k ≤ 1000000 ∧ xs.length * k.toNat ≤ lim then some (.tmp (List.replicate k.toNat xs).flatten) else none
  | .tup xs, .int k => if xs.length = 1 ∧ 2 ≤ k ∧ k ≤ 1000000 then some (.tup (List.replicate k.toNat xs).flatten) else none
  | _, _ => none
def gDiv : Dv → Dv → Option Dv
  | .int i, .int j => if 0 < j ∧ (j < 1073741824 ∨ j.natAbs.log2 < 9000) then some (.int (i / j)) else none
  | _, _ => none
def gMod : Dv → Dv → Option Dv
  | .int i, .int j => if 0 < j then some (.int (i % j)) else none
  | _, _ => none
def gPow : Dv → Dv → Option Dv
  | .int i, .int j => if 0 ≤ j ∧ j ≤ 1000000 ∧ i.natAbs < 18446744073709551616 then some (.int (i ^ j.toNat)) else none
  | _, _ => none
def gInts (f : Int → Int → Bool) : Dv → Dv → Option Dv
  | .int i, .int j => some (.bl (f i j))
  | _, _ => none
abbrev gLt := gInts fun i j => decide (i < j)
abbrev gLe := gInts fun i j => decide (i ≤ j)
abbrev gGt := gInts fun i j => decide (j < i)
abbrev gGe := gInts fun i j => decide (j ≤ i)
def gDat (neg : Bool) (d e : Dv) : Option Dv := match toPy d, toPy e with
  | some x, some y => if SeqAt.shaped x = true ∧ SeqAt.shaped y = true then some (.bl (if neg then !PyData.eqv x y else PyData.eqv x y)) else none
  | _, _ => none
def gEq : Dv → Dv → Option Dv
  | .int i, .int j => some (.bl (decide (i = j)))
  | .str x, .str y => some (.bl (decide (x = y)))
  | d, e => gDat false d e
def gNe : Dv → Dv → Option Dv
  | .int i, .int j => some (.bl (!decide (i = j)))
  | .str x, .str y => some (.bl (!decide (x = y)))
  | d, e => gDat true d e
def isNon : Dv → Bool
  | .non => true
  | _ => false
def isBl (b : Bool) : Dv → Bool
  | .bl c => c == b
  | _ => false
def gIs : Dv → Dv → Option Dv
  | d, .non => some (.bl (isNon d))
  | d, .bl b => some (.bl (isBl b d))
  | _, _ => none
def gIsNot : Dv → Dv → Option Dv
  | d, .non => some (.bl (!isNon d))
  | _, _ => none

section
variable {X : Cx}
theorem OpR.imp {f : Value → Value → Sem Value} {r r' : R2} (h : OpR X f r) (hi : ∀ x y H Q, r' x y H Q → r x y H Q) : OpR X f r' := fun pins s σ H x y v u Q I rx ry q => h pins s σ H x y v u Q I rx ry (hi _ _ _ _ q)

/-! ### lists added, repeated, where they are only read -/
def rCatR : R2 := fun x y H Q => ∃ l b xs zs, x = .ref l ∧ y = .ref b ∧ Rd H l (.lst xs) ∧ Rd H b (.lst zs) ∧ xs.length + zs.length ≤ sizeLine ∧ ∀ p, H p = none → Q (.ref p) (upd H p (.lst (xs ++ zs)))
theorem rd_lst {pins : List (Addr × Obj)} {σ : L2.St} {H : Hp} {s : Shared} {l : Addr} {xs : List V} (I : Inv X pins σ H s) (h : Rd H l (.lst xs)) :
    ∃ (its : List Value) (n : Nat), Vals xs its ∧ s.heap.get? l = some { cls := .type "list", data := .seq its.toArray n } := (h.ok I.hok).2
theorem op_catR : OpR X (binaryOp .Add) rCatR := by
  intro pins s σ H x y v u Q I rx ry ⟨l, b, xs, zs, ex, ey, hl, hb, hz, q⟩
  subst ex ey
  cases rx
  cases ry
  obtain ⟨i1, n1, v1, e1⟩ := rd_lst I hl
  obtain ⟨i2, n2, v2, e2⟩ := rd_lst I hb
  have z1 := v1.length
  have z2 := v2.length
  have app : i1.toArray ++ i2.toArray = (i1 ++ i2).toArray := by simp
  refine PySem.P.add_list e1 e2 ?_ (by rw [List.size_toArray, List.size_toArray, ← z1, ← z2]; exact hz)
  rw [app]
  have fr : H s.heap.objs.size = none := I.fresh
  exact ⟨.ref s.heap.objs.size, upd H s.heap.objs.size (.lst (xs ++ zs)), I.lnew (t' := s.toks) (v1.append v2) (by rw [List.length_append]; exact hz), rfl, q _ fr⟩
def rRepR : R2 := fun x y H Q => ∃ l k xs, x = .ref l ∧ y = .int k ∧ Rd H l (.lst xs) ∧ 0 ≤ k ∧ k ≤ 1000000 ∧ xs.length * k.toNat ≤ sizeLine ∧
  ∀ p, H p = none → Q (.ref p) (upd H p (.lst (List.replicate k.toNat xs).flatten))
open PyProof.Rows in
theorem op_repR : OpR X (binaryOp .Mult) rRepR := by
  intro pins s σ H x y v u Q I rx ry ⟨l, k, xs, ex, ey, hl, k0, k1, hz, q⟩
  subst ex ey
  cases rx
  obtain ⟨t, et⟩ := ry
  subst et
  obtain ⟨its, n, vv, e⟩ := rd_lst I hl
  have zl := vv.length
  have cap : its.toArray.size * k.toNat ≤ sizeLine := by rw [List.size_toArray, ← zl]; exact hz
  have g1 : ¬ its.toArray.size * k.toNat > (2 ^ 63 - 1) / 8 := fun bad => by
    have big : (sizeLine : Nat) ≤ (2 ^ 63 - 1) / 8 := by decide
    omega
  have g2 : ¬ (!Builtin.List.listFitsIndex k) = true := by
    rw [fitsIndex_both (show -(2 ^ 63) ≤ k by omega) (show k < 2 ^ 63 by omega)]
    decide
  have g3 : ¬ Builtin.List.listTooLong (its.toArray.size * k.toNat) = true := by
    rw [notLongL cap]
    decide
  have flat : ∀ m : Nat, List.foldl (fun a b => a ++ b) #[] (List.replicate m its.toArray) = (List.replicate m its).flatten.toArray := fun m => by
    have w := foldl_rep its m []
    rwa [List.nil_append] at w
  have made : List.foldl (fun a b => a ++ b) #[] (List.replicate (if its.toArray.isEmpty = true then 0 else k.toNat) its.toArray) = (List.replicate k.toNat its).flatten.toArray := by
    rw [flat]
    cases its with
    | nil => simp
    | cons a rest => rw [if_neg (by simp)]
  refine wpAny_binaryOp_repeat_ref (T := "list") (U := "int") (by decide) ⟨_, e, rfl⟩ (fun s2 => typeIs_int s2 k t) noFill_list_mul F.fills_int_mul F.slot_int_rmul repeat_list F.slot_int_index.lookup
    (call_meets F.slot_int_rmul (typeIs_int s k t) F.entry_int_rmul (F.args_int_rmul_2 _ _) (int___rmul___int_list k t l its.toArray n) ⟨e, rfl, ⟨_, e, rfl⟩, ?_⟩)
  refine call_meets F.slot_list_mul ⟨_, e, rfl⟩ F.entry_list_mul (F.args_list_mul_2 _ _) (AutoListH.list___mul___list_int_3 l its.toArray n k t g2 g1 g3) ⟨e, ?_⟩
  rw [made]
  exact ⟨.ref s.heap.objs.size, _, I.lnew (t' := s.toks) (vv.rep k.toNat) (by rw [PyProof.Rows.lm_len_rep_flat, Nat.mul_comm]; exact hz), rfl, q _ I.fresh⟩

/-! ### the rules -/
theorem mulOk_ok {i j : Int} (h : mulOk i j = true) : IntMulOk i j := by
  unfold mulOk at h
  rw [Bool.or_eq_true, Bool.or_eq_true] at h
  rcases h with (h | h) | h
  · have z := of_decide_eq_true h
    exact CMul.ok (.inl ⟨by omega, by omega⟩)
  · have z := of_decide_eq_true h
    exact CMul.ok (.inr ⟨by omega, by omega⟩)
  · exact CMulW.ok (show _ < _ from of_decide_eq_true h)
theorem op_mulM : OpR X (binaryOp .Mult) (rI (fun i j => mulOk i j = true) fun i j => .int (i * j)) := opI fun _ _ _ _ _ _ _ hc q => PyProof.Rows.mul_int q (mulOk_ok hc)
theorem op_divM : OpR X (binaryOp .FloorDiv) (rI (fun i j => 0 < j ∧ (j < 1073741824 ∨ j.natAbs.log2 < 9000)) fun i j => .int (i / j)) := by
  intro pins s σ H x y v u Q I rx ry ⟨i, j, ex, ey, ⟨c1, c2⟩, q⟩
  rcases c2 with c2 | c2
  · exact op_fdiv pins s σ H x y v u Q I rx ry ⟨i, j, ex, ey, ⟨c1, c2⟩, q⟩
  · exact op_fdivW pins s σ H x y v u Q I rx ry ⟨i, j, ex, ey, ⟨c1, c2⟩, q⟩
theorem vr_out {K : PySem.W.Frag} {σ : L2.St} {s : Mem} {ι : List Addr} {F H : Hp} {Q : VK} {z : Dv} {v : V} (st : Sta K σ s ι F H) (o : Out K σ s ι F H z Q) (r : Rep K ι F z v) : Q v H := out_rep st o r

theorem og_add : Opg X (binaryOp .Add) gAdd := by
  refine ⟨_, OpR.or op_add (OpR.or op_catR (OpR.or op_catA op_add_str)), fun σ s ι F H dx dy x y z Q st px py hg o => ?_⟩
  unfold gAdd at hg
  split at hg
  · cases hg; cases px; cases py
    exact .inl ⟨_, _, rfl, rfl, out_rep st o (.int _)⟩
  · rename_i xs ys
    split at hg
    · rename_i hc
      cases hg
      obtain ⟨a, vs, rfl, h1, r1⟩ := px
      obtain ⟨b, us, rfl, h2, r2⟩ := py
      exact .inr (.inl ⟨a, b, vs, us, rfl, rfl, h1, h2, by rw [r1.length, r2.length, lim_eq]; exact hc, fun p hp => out_tmp st o (r1.append r2) hp⟩)
    · cases hg
  · rename_i xs ys
    split at hg
    · rename_i hc
      cases hg
      obtain ⟨a, vs, rfl, h1, r1⟩ := px
      obtain ⟨b, us, rfl, h2, r2⟩ := py
      refine .inr (.inr (.inl ⟨a, b, vs, us, rfl, rfl, same_t st.hs.le h1, same_t st.hs.le h2, by rw [r1.length, r2.length, lim_eq]; exact hc, fun e => ?_, fun _ e => ?_, fun _ _ p hp => out_tup st o (r1.append r2) hp⟩))
      · subst e
        cases r1
        exact out_rep st o (.tup h2 r2)
      · subst e
        cases r2
        rw [List.append_nil] at o
        exact out_rep st o (.tup h1 r1)
    · cases hg
  · rename_i xs ys
    split at hg
    · rename_i hc
      cases hg; cases px; cases py
      exact .inr (.inr (.inr ⟨_, _, rfl, rfl, by rw [lim_eq]; exact hc, out_rep st o (.str _)⟩))
    · cases hg
  · cases hg
theorem og_sub : Opg X (binaryOp .Sub) gSub := by
  refine ⟨_, op_sub, fun σ s ι F H dx dy x y z Q st px py hg o => ?_⟩
  unfold gSub at hg
  split at hg
  · cases hg; cases px; cases py
    exact ⟨_, _, rfl, rfl, out_rep st o (.int _)⟩
  · cases hg
theorem og_div : Opg X (binaryOp .FloorDiv) gDiv := by
  refine ⟨_, op_divM, fun σ s ι F H dx dy x y z Q st px py hg o => ?_⟩
  unfold gDiv at hg
  split at hg
  · split at hg
    · rename_i hc
      cases hg; cases px; cases py
      exact ⟨_, _, rfl, rfl, hc, out_rep st o (.int _)⟩
    · cases hg
  · cases hg
theorem og_mod : Opg X (binaryOp .Mod) gMod := by
  refine ⟨_, op_mod, fun σ s ι F H dx dy x y z Q st px py hg o => ?_⟩
  unfold gMod at hg
  split at hg
  · split at hg
    · rename_i hc
      cases hg; cases px; cases py
      exact ⟨_, _, rfl, rfl, hc, out_rep st o (.int _)⟩
    · cases hg
  · cases hg
theorem og_pow : Opg X (binaryOp .Pow) gPow := by
  refine ⟨_, op_pow, fun σ s ι F H dx dy x y z Q st px py hg o => ?_⟩
  unfold gPow at hg
  split at hg
  · split at hg
    · rename_i hc
      cases hg; cases px; cases py
      exact ⟨_, _, rfl, rfl, ⟨hc.1, hc.2.1, by omega⟩, out_rep st o (.int _)⟩
    · cases hg
  · cases hg
/-- a tuple of one thing, repeated -/
def rRepO (K : PySem.W.Frag) : R2 := fun x y H Q => ∃ l k xs, x = .ref l ∧ y = .int k ∧ SqT K H l xs ∧ xs.length = 1 ∧ 2 ≤ k ∧ k ≤ 1000000 ∧ ∀ p, H p = none → Q (.ref p) (upd H p (.tup (List.replicate k.toNat xs).flatten))
open PyProof.Rows in
theorem op_repO : OpR X (binaryOp .Mult) (rRepO X.K) := by
  intro pins s σ H x y v u Q I rx ry ⟨l, k, xs, ex, ey, hT, hx, k2, k6, q⟩
  subst ex ey
  cases rx
  obtain ⟨t, et⟩ := ry
  subst et
  obtain ⟨its, vv, ⟨⟨cls, dd, data, sl⟩, ho, hc, n, hd⟩, _⟩ := I.tuple hT
  simp only at hc hd
  subst hc hd
  have zl : its.length = 1 := by rw [← vv.length, hx]
  have z1 : its.toArray.size = 1 := by rw [List.size_toArray, zl]
  have ze : its.toArray.isEmpty = false := by
    cases its with
    | nil => cases zl
    | cons a rest => rfl
  have fl : (List.replicate k.toNat its).flatten.length ≤ sizeLine := by
    rw [PyProof.Rows.lm_len_rep_flat, zl, lim_eq]
    unfold lim
    omega
  have g0 : (decide (k < -(2 ^ 63)) || decide (k ≥ 2 ^ 63)) = false := by
    rw [decide_eq_false (by omega), decide_eq_false (by omega)] <;> rfl
  have g1 : (its.toArray.isEmpty || k == 1) = false := by
    rw [ze, Bool.false_or, beq_eq_false_iff_ne]
    omega
  have g2 : (decide (k ≤ 0) || its.toArray.isEmpty) = false := by
    rw [ze, Bool.or_false]
    exact decide_eq_false (by omega)
  have g4 : Builtin.Tuple.tupleTooMany (((its.toArray.size : Nat) : Int) * k) = false := by
    rw [z1]
    unfold Builtin.Tuple.tupleTooMany
    rw [lim_eq]
    unfold lim
    exact decide_eq_false (by omega)
  have g3 : ¬ ((its.toArray.size : Nat) : Int) * k > (2 ^ 63 - 1) / 8 := by
    rw [z1]
    omega
  refine wpAny_binaryOp_repeat_ref (T := "tuple") (U := "int") (by decide) ⟨_, ho, rfl⟩ (fun s2 => typeIs_int s2 k t) noFill_tuple_mul F.fills_int_mul F.slot_int_rmul repeat_tuple F.slot_int_index.lookup
    (call_meets F.slot_int_rmul (typeIs_int s k t) F.entry_int_rmul (F.args_int_rmul_2 _ _) (int_rmul_tuple k t l its.toArray n dd sl) ⟨ho, rfl, ⟨_, ho, rfl⟩, ?_⟩)
  refine call_meets F.slot_tuple_mul ⟨_, ho, rfl⟩ F.entry_tuple_mul (F.args_tuple_mul_2 _ _) (tuple_mulW l its.toArray n dd sl k t g0 g1 g2 g3 g4 (by rw [size_rep, List.size_toArray]; exact fl)) ⟨ho, ?_⟩
  rw [size_rep]
  refine ⟨.ref s.heap.objs.size, _, I.laid (t' := s.toks) (o := .tup (List.replicate k.toNat xs).flatten) (fun b ob e => Heap.get?_push_of_some _ e) (Nat.le_refl _) ?_, rfl, q _ (I.hok.fresh (Nat.le_refl _))⟩
  refine ⟨?_, (List.replicate k.toNat its).flatten, vv.rep k.toNat, IsTup.new _ _⟩
  rw [PyProof.Rows.lm_len_rep_flat, hx, lim_eq]
  unfold lim
  omega
theorem og_mul : Opg X (binaryOp .Mult) gMul := by
  refine ⟨_, OpR.or op_mulM (OpR.or op_repR op_repO), fun σ s ι F H dx dy x y z Q st px py hg o => ?_⟩
  unfold gMul at hg
  split at hg
  · split at hg
    · rename_i hc
      cases hg; cases px; cases py
      exact .inl ⟨_, _, rfl, rfl, hc, out_rep st o (.int _)⟩
    · cases hg
  · split at hg
    · rename_i hc
      cases hg
      obtain ⟨a, vs, rfl, h1, r1⟩ := px
      cases py
      exact .inr (.inl ⟨a, _, vs, rfl, rfl, h1, hc.1, hc.2.1, by rw [r1.length, lim_eq]; exact hc.2.2, fun p hp => out_tmp st o (r1.rep _) hp⟩)
    · cases hg
  · split at hg
    · rename_i hc
      cases hg
      obtain ⟨a, vs, rfl, h1, r1⟩ := px
      cases py
      exact .inr (.inr ⟨a, _, vs, rfl, rfl, same_t st.hs.le h1, by rw [r1.length]; exact hc.1, hc.2.1, hc.2.2, fun p hp => out_tup st o (r1.rep _) hp⟩)
    · cases hg
  · cases hg
theorem og_ints {op : CmpOp} {f : Int → Int → Bool} (h : OpR X (compareOp op) (rI0 fun i j => .bl (f i j))) : Opg X (compareOp op) (gInts f) := by
  refine ⟨_, h, fun σ s ι F H dx dy x y z Q st px py hg o => ?_⟩
  unfold gInts at hg
  split at hg
  · cases hg; cases px; cases py
    exact ⟨_, _, rfl, rfl, out_rep st o (.bl _)⟩
  · cases hg
theorem og_lt : Opg X (compareOp .Lt) gLt := og_ints op_lt
theorem og_le : Opg X (compareOp .LtE) gLe := og_ints op_le
theorem og_gt : Opg X (compareOp .Gt) gGt := og_ints op_gt
theorem og_ge : Opg X (compareOp .GtE) gGe := og_ints op_ge
theorem dat_to {K : PySem.W.Frag} {ι : List Addr} {F H : Hp} {neg : Bool} {dx dy z : Dv} {x y : V} (sm : Same F H) (px : PV K ι F H dx x) (py : PV K ι F H dy y) (hg : gDat neg dx dy = some z) :
    ∃ d e, Dp K H x d ∧ Dp K H y e ∧ SeqAt.shaped d = true ∧ SeqAt.shaped e = true ∧ z = .bl (if neg then !PyData.eqv d e else PyData.eqv d e) := by
  unfold gDat at hg
  split at hg
  · rename_i d e h1 h2
    split at hg
    · rename_i hc
      cases hg
      exact ⟨d, e, pv_dp sm px h1, pv_dp sm py h2, hc.1, hc.2, rfl⟩
    · cases hg
  · cases hg
theorem og_eq (hu : X.A.units + 64 < cLine) : Opg X (compareOp .Eq) gEq := by
  refine ⟨_, OpR.or op_eq (op_eqD hu), fun σ s ι F H dx dy x y z Q st px py hg o => ?_⟩
  unfold gEq at hg
  split at hg
  · cases hg; cases px; cases py
    refine .inl ⟨rfl, ?_⟩
    simp only [V.int.injEq]
    exact out_rep st o (.bl _)
  · cases hg; cases px; cases py
    refine .inl ⟨rfl, ?_⟩
    simp only [V.str.injEq]
    exact out_rep st o (.bl _)
  · obtain ⟨d, e, h1, h2, h3, h4, rfl⟩ := dat_to st.hs.le px py hg
    exact .inr ⟨d, e, h1, h2, h3, h4, out_rep st o (.bl _)⟩
theorem og_ne (hu : X.A.units + 64 < cLine) : Opg X (compareOp .NotEq) gNe := by
  refine ⟨_, OpR.or op_ne (op_neD hu), fun σ s ι F H dx dy x y z Q st px py hg o => ?_⟩
  unfold gNe at hg
  split at hg
  · cases hg; cases px; cases py
    refine .inl ⟨rfl, ?_⟩
    simp only [V.int.injEq]
    exact out_rep st o (.bl _)
  · cases hg; cases px; cases py
    refine .inl ⟨rfl, ?_⟩
    simp only [V.str.injEq]
    exact out_rep st o (.bl _)
  · obtain ⟨d, e, h1, h2, h3, h4, rfl⟩ := dat_to st.hs.le px py hg
    exact .inr ⟨d, e, h1, h2, h3, h4, out_rep st o (.bl _)⟩

/-! ### is -/
def rIsA (b : Bool) : R2 := fun x y H Q => y = .bl b ∧ Q (.bl (decide (x = .bl b))) H
theorem op_isA (b : Bool) : OpR X (compareOp .Is) (rIsA b) := by
  intro pins s σ H x y v u Q I rx ry ⟨ey, q⟩
  subst ey
  cases (show u = Value.bool b from ry)
  have oth : ∀ w : Value, v = w → plainIs w (.bool b) = true → w ≠ .bool b → x ≠ .bl b → wpAny (model X.prog X.w) X.A (compareOp .Is v (.bool b)) (EP X pins σ Q) X.xe s := fun w e p n nx => by
    subst e
    rw [decide_eq_false nx] at q
    exact wpAny_is_other p n ⟨.bl false, H, I, rfl, q⟩
  cases x with
  | bl c =>
    cases (show v = Value.bool c from rx)
    by_cases e : c = b
    · subst e
      rw [decide_eq_true rfl] at q
      exact wpAny_is_self rfl ⟨.bl true, H, I, rfl, q⟩
    · exact oth _ rfl rfl (fun z => e (Value.bool.inj z)) (fun z => e (V.bl.inj z))
  | non => exact oth _ (show v = Value.none from rx) rfl (fun z => nomatch z) (fun z => nomatch z)
  | int i => obtain ⟨t, e⟩ := (show ∃ t, v = Value.int i t from rx); exact oth _ e rfl (fun z => nomatch z) (fun z => nomatch z)
  | str i => obtain ⟨t, e⟩ := (show ∃ t, v = Value.str i t from rx); exact oth _ e rfl (fun z => nomatch z) (fun z => nomatch z)
  | byt i => obtain ⟨t, e⟩ := (show ∃ t, v = Value.bytes i t from rx); exact oth _ e rfl (fun z => nomatch z) (fun z => nomatch z)
  | flt i => obtain ⟨t, e⟩ := (show ∃ t, v = Value.float i t from rx); exact oth _ e rfl (fun z => nomatch z) (fun z => nomatch z)
  | ref a => exact oth _ (show v = Value.ref a from rx) rfl (fun z => nomatch z) (fun z => nomatch z)
  | ty n => exact oth _ (show v = Value.type n from rx) rfl (fun z => nomatch z) (fun z => nomatch z)
theorem pv_non {K : PySem.W.Frag} {ι : List Addr} {F H : Hp} {d : Dv} {v : V} (hd : ∀ i, d ≠ .ref i) (ho : ∀ i, d ≠ .own i) (ht : ∀ i, d ≠ .tmp i) (r : PV K ι F H d v) : decide (v = .non) = isNon d := by
  cases d with
  | non => cases r; rfl
  | bl b => cases r; rfl
  | int b => cases r; rfl
  | str b => cases r; rfl
  | tup ds => obtain ⟨a, vs, rfl, _⟩ := r; rfl
  | lst ds => obtain ⟨a, vs, rfl, _⟩ := r; rfl
  | scr ds => obtain ⟨a, rfl, _⟩ := r; rfl
  | ref i => exact absurd rfl (hd i)
  | own i => exact absurd rfl (ho i)
  | tmp i => exact absurd rfl (ht i)
end
end Mir

set_option Elab.async false
set_option linter.all false
set_option maxRecDepth 100000
/-! Mir: subscripts, built-in calls, tests, calls. -/
namespace Mir
open PySem PySem.Spec L2
section
variable {X : Cx} {E : XE} {σ : L2.St} {H : Hp} {Q : VK} {a b e : Expr} {es : List Expr} {m ma mb : Mo Dv} {g : Dv → Dv → Option Dv} {x : Str} {p pos : Pos}

/-! ### is -/
def knows : Dv → Bool
  | .ref _ => false
  | .own _ => false
  | .tmp _ => false
  | _ => true
def gIs1 : Dv → Dv → Option Dv
  | d, .non => if knows d = true then some (.bl (isNon d)) else none
  | d, .bl b => if knows d = true then some (.bl (isBl b d)) else none
  | _, _ => none
def gNot1 : Dv → Dv → Option Dv
  | d, .non => if knows d = true then some (.bl (!isNon d)) else none
  | _, _ => none
theorem pv_isn {K : PySem.W.Frag} {ι : List Addr} {F H : Hp} {d : Dv} {v : V} (k : knows d = true) (r : PV K ι F H d v) : decide (v = .non) = isNon d := by
  cases d with
  | ref i => cases k
  | own i => cases k
  | tmp i => cases k
  | tup ds => obtain ⟨a, vs, rfl, _⟩ := r; rfl
  | lst ds => obtain ⟨a, vs, rfl, _⟩ := r; rfl
  | scr ds => obtain ⟨a, rfl, _⟩ := r; rfl
  | _ => cases r; rfl
theorem pv_isb {K : PySem.W.Frag} {ι : List Addr} {F H : Hp} {d : Dv} {v : V} {b : Bool} (k : knows d = true) (r : PV K ι F H d v) : decide (v = .bl b) = isBl b d := by
  cases d with
  | ref i => cases k
  | own i => cases k
  | tmp i => cases k
  | tup ds => obtain ⟨a, vs, rfl, _⟩ := r; rfl
  | lst ds => obtain ⟨a, vs, rfl, _⟩ := r; rfl
  | scr ds => obtain ⟨a, rfl, _⟩ := r; rfl
  | bl c => cases r; cases b <;> cases c <;> rfl
  | _ => cases r; rfl
theorem og_is : Opg X (compareOp .Is) gIs1 := by
  refine ⟨_, OpR.or op_isN (OpR.or (op_isA true) (op_isA false)), fun σ s ι F H dx dy x y z Q st px py hg o => ?_⟩
  unfold gIs1 at hg
  split at hg
  · split at hg
    · rename_i hk
      cases hg; cases py
      exact .inl ⟨rfl, by rw [pv_isn hk px]; exact out_rep st o (.bl _)⟩
    · cases hg
  · rename_i b
    split at hg
    · rename_i hk
      cases hg; cases py
      cases b with
      | true => exact .inr (.inl ⟨rfl, by rw [pv_isb hk px]; exact out_rep st o (.bl _)⟩)
      | false => exact .inr (.inr ⟨rfl, by rw [pv_isb hk px]; exact out_rep st o (.bl _)⟩)
    · cases hg
  · cases hg
theorem og_isNot : Opg X (compareOp .IsNot) gNot1 := by
  refine ⟨_, op_notN, fun σ s ι F H dx dy x y z Q st px py hg o => ?_⟩
  unfold gNot1 at hg
  split at hg
  · split at hg
    · rename_i hk
      cases hg; cases py
      exact ⟨rfl, by rw [pv_isn hk px]; exact out_rep st o (.bl _)⟩
    · cases hg
  · cases hg

/-! ### subscripts -/
def gIx : Dv → Dv → Option Dv
  | .lst xs, .int i => atI xs i
  | .tup xs, .int i => atI xs i
  | .str z, .int i => if z.length ≤ lim then (atI z.cps.toList i).map fun c => .str ⟨#[c]⟩ else none
  | _, _ => none
theorem reps_at {K : PySem.W.Frag} {ι : List Addr} {F : Hp} {ds : List Dv} {vs : List V} {i : Int} {d : Dv} (r : Reps K ι F ds vs) (h : atI ds i = some d) : ∃ v, atI vs i = some v ∧ Rep K ι F d v := by
  unfold atI at h ⊢
  rw [r.length]
  cases hx : ixN ds.length i with
  | none => rw [hx] at h; cases h
  | some j =>
    rw [hx] at h
    exact r.get h
def Ixg (X : Cx) (g : Dv → Dv → Option Dv) : Prop := ∃ r : R2, IxR X r ∧
  ∀ σ s ι F H dx dy x y z Q, Sta X.K σ s ι F H → PV X.K ι F H dx x → PV X.K ι F H dy y → g dx dy = some z → Out X.K σ s ι F H z Q → r x y H Q
theorem ig_ix : Ixg X gIx := by
  refine ⟨_, ix_list.or (ix_tup.or ix_str), fun σ s ι F H dx dy x y z Q st px py hg o => ?_⟩
  unfold gIx at hg
  split at hg
  · obtain ⟨a, vs, rfl, h1, r1⟩ := px
    cases py
    obtain ⟨v, h2, h3⟩ := reps_at r1 hg
    exact .inl ⟨a, vs, _, v, rfl, rfl, .inl h1, h2, out_rep st o h3⟩
  · obtain ⟨a, vs, rfl, h1, r1⟩ := px
    cases py
    obtain ⟨v, h2, h3⟩ := reps_at r1 hg
    exact .inr (.inl ⟨a, vs, _, v, rfl, rfl, same_t st.hs.le h1, h2, out_rep st o h3⟩)
  · split at hg
    · rename_i hc
      cases px; cases py
      obtain ⟨c, h1, rfl⟩ := Option.map_eq_some_iff.mp hg
      exact .inr (.inr ⟨_, _, c, rfl, rfl, by rw [lim_eq]; exact hc, h1, out_rep st o (.str _)⟩)
    · cases hg
  · cases hg
theorem se_ix (ha : PE X a (tI X.K E ma)) (hb : PE X b (tI X.K E mb)) (hs : PlainIx b := by exact fun _ _ => rfl) : PE X (.Subscript a b pos) (tI X.K E (mBin gIx ma mb)) := by
  obtain ⟨r, h1, h2⟩ := ig_ix (X := X)
  exact PE.imp (pe_ix h1 ha hb hs) fun σ H Q h => bin_to h2 h
def tO (K : PySem.W.Frag) (E : XE) (m : Mo (Option Int)) : TO := fun σ H Q => ∃ s ι F, Sta K σ s ι F H ∧ Leaf K E m σ s ι F H fun o s' ι' F' H' => Q o H'
def toI (d : Dv) : Mo (Option Int) := fun s => match d with
  | .int i => .ok (some i) s
  | _ => .no
def mNoPart : Mo (Option Int) := Mo.pure none
def mPart (m : Mo Dv) : Mo (Option Int) := m.bind toI
theorem PO.imp {X : Cx} {e : Option Expr} {t t' : TO} (h : PO X e t) (hi : ∀ σ H Q, t' σ H Q → t σ H Q) : PO X e t' := ⟨fun pins s σ H Q I q => h.run pins s σ H Q I (hi σ H Q q)⟩
theorem so_none : PO X none (tO X.K E mNoPart) := PO.imp po_none fun σ H Q h => by
  obtain ⟨s, ι, F, st, h⟩ := h
  exact Leaf.pure st h
theorem so_some (h : PE X e (tI X.K E m)) : PO X (some e) (tO X.K E (mPart m)) := PO.imp (po_some h) fun σ H Q h => by
  obtain ⟨s, ι, F, st, h⟩ := h
  refine ⟨s, ι, F, st, h.bind.imp fun d s1 ι1 F1 H1 ⟨p1, st1, h1⟩ v rv nv => ?_⟩
  cases d with
  | int i =>
    have r' : Rep X.K ι1 F1 (.int i) v := rv
    cases r'
    exact ⟨i, rfl, Leaf.pure st1 h1⟩
  | _ => exact (show False from h1).elim
def cutD {α : Type} (xs : List α) (lo hi : Option Int) : List α := (xs.drop (HT.sIx xs.length 0 lo)).take (HT.sIx xs.length xs.length hi - HT.sIx xs.length 0 lo)
def gSl (d : Dv) (lo hi : Option Int) : Option Dv := match d with
  | .lst xs => some (.tmp (cutD xs lo hi))
  | .tup xs => some (.tup (cutD xs lo hi))
  | .scr ns => some (.tmp ((cutD ns lo hi).map .int))
  | _ => none
def liftS (d : Dv) (lo hi : Option Int) : Mo Dv := fun s => match gSl (peek s d) lo hi with
  | some z => .ok z s
  | none => .no
def mSl (m : Mo Dv) (ml mh : Mo (Option Int)) : Mo Dv := m.bind fun d => ml.bind fun lo => mh.bind fun hi => liftS d lo hi
theorem cut_reps {K : PySem.W.Frag} {ι : List Addr} {F : Hp} {ds : List Dv} {vs : List V} (lo hi : Option Int) (r : Reps K ι F ds vs) : Reps K ι F (cutD ds lo hi) (cutV vs lo hi) := by
  unfold cutD cutV
  rw [r.length]
  exact (r.drop _).take _
theorem ints_reps {K : PySem.W.Frag} {ι : List Addr} {F : Hp} : ∀ ns : List Int, Reps K ι F (ns.map .int) (ns.map V.int)
  | [] => .nil
  | n :: ns => .cons (.int n) (ints_reps ns)
theorem cut_map {α β : Type} (f : α → β) (xs : List α) (lo hi : Option Int) : cutD (xs.map f) lo hi = (cutD xs lo hi).map f := by
  unfold cutD
  rw [List.length_map, List.map_take, List.map_drop]
theorem cut_whole {α : Type} (xs : List α) (lo hi : Option Int) (h : HT.sIx xs.length 0 lo = 0 ∧ HT.sIx xs.length xs.length hi = xs.length) : cutD xs lo hi = xs := by
  unfold cutD
  rw [h.1, h.2, List.drop_zero, Nat.sub_zero, List.take_length]
theorem se_sl {lo hi : Option Expr} {ml mh : Mo (Option Int)} {p2 : Pos} (he : PE X e (tI X.K E m)) (hl : PO X lo (tO X.K E ml)) (hu : PO X hi (tO X.K E mh)) : PE X (.Subscript e (.Slice lo hi none p2) pos) (tI X.K E (mSl m ml mh)) := by
  refine PE.imp (pe_slice (sl_list.or sl_tupA) he hl hu) fun σ H Q h => ?_
  obtain ⟨s, ι, F, st, h⟩ := h
  refine ⟨s, ι, F, st, h.bind.imp fun d s1 ι1 F1 H1 ⟨p1, st1, h1⟩ v rv nv => ?_⟩
  refine ⟨s1, ι1, F1, st1, h1.bind.imp fun l s2 ι2 F2 H2 ⟨p2, st2, h2⟩ => ?_⟩
  refine ⟨s2, ι2, F2, st2, h2.bind.imp fun u s3 ι3 F3 H3 ⟨p3, st3, h3⟩ => ?_⟩
  have px := peek_pv st3 (rv.mono (p2.trans p3))
  have q : ∀ z, gSl (peek s3 d) l u = some z → Out X.K σ s3 ι3 F3 H3 z Q := fun z hz ι' F' H' p st' w rw' nw => by
    unfold Leaf liftS at h3
    rw [hz] at h3
    exact h3 ι' F' H' p st' w rw' (new_back (K := X.K) p1 (new_back (K := X.K) p2 (new_back (K := X.K) p3 nw)))
  have hs : (gSl (peek s3 d) l u).isSome = true := by
    unfold Leaf liftS at h3
    cases hz : gSl (peek s3 d) l u with
    | none => rw [hz] at h3; exact h3.elim
    | some z => rfl
  revert q hs px
  cases peek s3 d with
  | lst xs =>
    intro px q _
    obtain ⟨a, vs, rfl, k1, r1⟩ := px
    exact .inl ⟨a, vs, rfl, .inl k1, fun p hp => out_tmp st3 (q _ rfl) (cut_reps l u r1) hp⟩
  | scr ns =>
    intro px q _
    obtain ⟨a, rfl, k1⟩ := px
    refine .inl ⟨a, _, rfl, k1, fun p hp => ?_⟩
    have e : cutV (ns.map V.int) l u = (cutD ns l u).map V.int := cut_map V.int ns l u
    rw [e]
    exact out_tmp st3 (q _ rfl) (ints_reps _) hp
  | tup xs =>
    intro px q _
    obtain ⟨a, vs, rfl, k1, r1⟩ := px
    refine .inr ⟨a, vs, rfl, same_t st3.hs.le k1, fun w => ?_, fun _ p hp => out_tup st3 (q _ rfl) (cut_reps l u r1) hp⟩
    have o := q _ rfl
    rw [cut_whole xs l u (by rw [← r1.length]; exact w)] at o
    exact out_rep st3 o (.tup k1 r1)
  | _ => intro _ _ hs; cases hs
/-- xs[::-1] -/
def gRev : Dv → Option Dv
  | .lst xs => some (.tmp xs.reverse)
  | _ => none
def lift1 (g : Dv → Option Dv) (d : Dv) : Mo Dv := fun s => match g (peek s d) with
  | some z => .ok z s
  | none => .no
def mU (g : Dv → Option Dv) (m : Mo Dv) : Mo Dv := m.bind fun d => lift1 g d
theorem u_to {g : Dv → Option Dv} (h : tI X.K E (mU g m) σ H Q) : tI X.K E m σ H fun v H1 => ∃ s ι F d z, Sta X.K σ s ι F H1 ∧ PV X.K ι F H1 d v ∧ g d = some z ∧ Out X.K σ s ι F H1 z Q := by
  obtain ⟨s, ι, F, st, h⟩ := h
  refine ⟨s, ι, F, st, h.bind.imp fun d s1 ι1 F1 H1 ⟨p1, st1, h1⟩ v rv nv => ?_⟩
  unfold Leaf lift1 at h1
  cases hg : g (peek s1 d) with
  | none => rw [hg] at h1; exact h1.elim
  | some z =>
    rw [hg] at h1
    exact ⟨s1, ι1, F1, _, z, st1, peek_pv st1 rv, hg, fun ι' F' H' p st' w rw' nw => h1 ι' F' H' p st' w rw' (new_back (K := X.K) p1 nw)⟩
theorem se_rev {k : Nat} {p1 p2 p3 : Pos} (he : PE X e (tI X.K E m)) : PE X (.Subscript e (.Slice none none (some (.UnaryOp .USub (.Constant (.int 1) k p1) p2)) p3) pos) (tI X.K E (mU gRev m)) := by
  refine PE.imp (pe_revL he) fun σ H Q h => (u_to h).imp fun v H1 ⟨s, ι, F, d, z, st, px, hg, o⟩ => ?_
  unfold gRev at hg
  split at hg
  · cases hg
    obtain ⟨a, vs, rfl, k1, r1⟩ := px
    exact ⟨a, vs, rfl, .inl k1, fun p hp => out_tmp st o r1.reverse hp⟩
  · cases hg
/-- -x, a number -/
def gNeg : Dv → Option Dv
  | .int i => some (.int (-i))
  | _ => none
theorem se_neg (he : PE X e (tI X.K E m)) : PE X (.UnaryOp .USub e pos) (tI X.K E (mU gNeg m)) := by
  refine PE.imp (pe_un un_neg he) fun σ H Q h => (u_to h).imp fun v H1 ⟨s, ι, F, d, z, st, px, hg, o⟩ => ?_
  unfold gNeg at hg
  split at hg
  · cases hg; cases px
    exact ⟨_, rfl, out_rep st o (.int _)⟩
  · cases hg

/-! ### built-ins of one argument -/
def Bg (X : Cx) (f : Value) (g : Dv → Option Dv) : Prop := ∃ r : List V → Hp → VK → Prop, CallR X f r ∧
  ∀ σ s ι F H d v z Q, Sta X.K σ s ι F H → PV X.K ι F H d v → g d = some z → Out X.K σ s ι F H z Q → r [v] H Q
theorem b1_to {g : Dv → Option Dv} {r : List V → Hp → VK → Prop} (hr : ∀ σ s ι F H d v z Q, Sta X.K σ s ι F H → PV X.K ι F H d v → g d = some z → Out X.K σ s ι F H z Q → r [v] H Q)
    (h : tI X.K E (mU g m) σ H Q) : tCB r (tCons (tI X.K E m) tNil) σ H Q := (u_to h).imp fun v H1 ⟨s, ι, F, d, z, st, px, hg, o⟩ => hr σ s ι F H1 d v z Q st px hg o
theorem se_bi {id : String} {g : Dv → Option Dv} (hb : Bg X (.builtin id) g) (ha : PE X e (tI X.K E m)) (hm : X.mg x = none) (hg : Gl X x := by rfl) (hv : bootBuiltins x = some (.builtin id) := by decide +kernel) (hn : x ≠ "__name__" := by decide) (hdb : (x == ("__debug__" : Str)) = false := by decide)
    (he : starEach [e] X.env = [(false, eval e X.env)] := by rfl) : PE X (.Call (.Name x p) [e] [] pos) (tI X.K E (mU g m)) := by
  obtain ⟨r, h1, h2⟩ := hb
  exact PE.imp (pe_callB h1 hg hm hv (pa_cons ha pa_nil he) hn hdb he rfl) fun σ H Q h => b1_to h2 h
theorem se_ty {T : String} {g : Dv → Option Dv} (hb : Bg X (.type T) g) (ha : PE X e (tI X.K E m)) (hm : X.mg x = none) (hg : Gl X x := by rfl) (hv : bootBuiltins x = some (.type T) := by decide +kernel) (hn : x ≠ "__name__" := by decide) (hdb : (x == ("__debug__" : Str)) = false := by decide)
    (he : starEach [e] X.env = [(false, eval e X.env)] := by rfl) : PE X (.Call (.Name x p) [e] [] pos) (tI X.K E (mU g m)) := by
  obtain ⟨r, h1, h2⟩ := hb
  exact PE.imp (pe_callTy h1 hg hm hv (pa_cons ha pa_nil he) hn hdb he rfl) fun σ H Q h => b1_to h2 h
def gLen : Dv → Option Dv
  | .lst xs => some (.int xs.length)
  | .tup xs => some (.int xs.length)
  | .str z => if z.length ≤ lim then some (.int z.length) else none
  | _ => none
theorem bg_len : Bg X (.builtin "len") gLen := by
  refine ⟨_, CallR.or call_len_seq call_len_str, fun σ s ι F H d v z Q st px hg o => ?_⟩
  unfold gLen at hg
  split at hg
  · cases hg
    obtain ⟨a, vs, rfl, k1, r1⟩ := px
    exact .inl ⟨a, vs, rfl, .inl (.inl k1), by rw [r1.length]; exact out_rep st o (.int _)⟩
  · cases hg
    obtain ⟨a, vs, rfl, k1, r1⟩ := px
    exact .inl ⟨a, vs, rfl, .inr (same_t st.hs.le k1), by rw [r1.length]; exact out_rep st o (.int _)⟩
  · split at hg
    · rename_i hc
      cases hg; cases px
      exact .inr ⟨_, rfl, by rw [lim_eq]; exact hc, out_rep st o (.int _)⟩
    · cases hg
  · cases hg
def gInt : Dv → Option Dv
  | .int i => some (.int i)
  | .bl b => some (.int (if b then 1 else 0))
  | _ => none
theorem bg_int : Bg X (.type "int") gInt := by
  refine ⟨_, call_int1, fun σ s ι F H d v z Q st px hg o => ?_⟩
  unfold gInt at hg
  split at hg
  · cases hg; cases px
    exact .inl ⟨_, rfl, out_rep st o (.int _)⟩
  · cases hg; cases px
    exact .inr ⟨_, rfl, out_rep st o (.int _)⟩
  · cases hg
def gAbs : Dv → Option Dv
  | .int i => some (.int (if i < 0 then -i else i))
  | _ => none
theorem bg_abs : Bg X (.builtin "abs") gAbs := by
  refine ⟨_, call_abs, fun σ s ι F H d v z Q st px hg o => ?_⟩
  unfold gAbs at hg
  split at hg
  · cases hg; cases px
    exact ⟨_, rfl, out_rep st o (.int _)⟩
  · cases hg
def gTuple : Dv → Option Dv
  | .lst xs => some (.tup xs)
  | .tup xs => some (.tup xs)
  | _ => none
theorem bg_tuple : Bg X (.type "tuple") gTuple := by
  refine ⟨_, call_tuple_of, fun σ s ι F H d v z Q st px hg o => ?_⟩
  unfold gTuple at hg
  split at hg
  · cases hg
    obtain ⟨a, vs, rfl, k1, r1⟩ := px
    exact ⟨a, vs, rfl, .inl ⟨.inl k1, fun p hp => out_tup st o r1 hp⟩⟩
  · cases hg
    obtain ⟨a, vs, rfl, k1, r1⟩ := px
    exact ⟨a, vs, rfl, .inr ⟨same_t st.hs.le k1, out_rep st o (.tup k1 r1)⟩⟩
  · cases hg
def gList : Dv → Option Dv
  | .lst xs => some (.tmp xs)
  | .tup xs => some (.tmp xs)
  | _ => none
theorem bg_list : Bg X (.type "list") gList := by
  refine ⟨_, call_list_of, fun σ s ι F H d v z Q st px hg o => ?_⟩
  unfold gList at hg
  split at hg
  · cases hg
    obtain ⟨a, vs, rfl, k1, r1⟩ := px
    exact ⟨a, vs, rfl, .inl (.inl k1), fun p hp => out_tmp st o r1 hp⟩
  · cases hg
    obtain ⟨a, vs, rfl, k1, r1⟩ := px
    exact ⟨a, vs, rfl, .inr (same_t st.hs.le k1), fun p hp => out_tmp st o r1 hp⟩
  · cases hg
def toInts : List Dv → Option (List Int)
  | [] => some []
  | .int i :: ds => (toInts ds).map (i :: ·)
  | _ :: _ => none
theorem ints_of {K : PySem.W.Frag} {ι : List Addr} {F : Hp} : ∀ {ds : List Dv} {vs : List V} {ns : List Int}, Reps K ι F ds vs → toInts ds = some ns → vs = ns.map V.int
  | [], _, ns, .nil, h => by
    cases Option.some.inj h
    rfl
  | .int i :: ds, _, ns, .cons r rs, h => by
    cases r
    obtain ⟨ms, h1, rfl⟩ := Option.map_eq_some_iff.mp h
    rw [ints_of rs h1]
    rfl
  | .non :: _, _, _, _, h => by cases h
  | .bl _ :: _, _, _, _, h => by cases h
  | .str _ :: _, _, _, _, h => by cases h
  | .tup _ :: _, _, _, _, h => by cases h
  | .lst _ :: _, _, _, _, h => by cases h
  | .ref _ :: _, _, _, _, h => by cases h
  | .own _ :: _, _, _, _, h => by cases h
  | .tmp _ :: _, _, _, _, h => by cases h
  | .scr _ :: _, _, _, _, h => by cases h
def gSum : Dv → Option Dv
  | .lst xs => (toInts xs).map fun ns => .int ns.sum
  | _ => none
theorem bg_sum (hc : X.calm = true) : Bg X (.builtin "sum") gSum := by
  refine ⟨_, cr_sum hc, fun σ s ι F H d v z Q st px hg o => ?_⟩
  unfold gSum at hg
  split at hg
  · obtain ⟨a, vs, rfl, k1, r1⟩ := px
    obtain ⟨ns, h1, rfl⟩ := Option.map_eq_some_iff.mp hg
    have e := ints_of r1 h1
    subst e
    exact ⟨a, ns, rfl, .inl k1, out_rep st o (.int _)⟩
  · cases hg

/-! ### and, or, not, a if t else b -/
variable {tc tu : Mo Bool}
def mAnd (a b : Mo Bool) : Mo Bool := a.bind fun c => if c = true then b else Mo.pure false
def mOr (a b : Mo Bool) : Mo Bool := a.bind fun c => if c = true then Mo.pure true else b
def mNot (a : Mo Bool) : Mo Bool := a.bind fun c => Mo.pure (!c)
def mIte {α : Type} (c : Mo Bool) (a b : Mo α) : Mo α := c.bind fun k => if k = true then a else b
theorem PW.imp {X : Cx} {e : Expr} {t t' : TT} (h : PW X e t) (hi : ∀ σ H Q, t' σ H Q → t σ H Q) : PW X e t' := ⟨fun w pins s σ H Q I q => h.run w pins s σ H Q I (hi σ H Q q)⟩
theorem st_and1 (ha : PT X a (tT X.K E tc)) : PW X (.BoolOp .And [a] pos) (tT X.K E tc) := pw_and1 ha
theorem st_or1 (ha : PT X a (tT X.K E tc)) : PW X (.BoolOp .Or [a] pos) (tT X.K E tc) := pw_or1 ha
theorem st_and {rest : List Expr} (ha : PT X a (tT X.K E tc)) (hb : PW X (.BoolOp .And (b :: rest) pos) (tT X.K E tu)) : PW X (.BoolOp .And (a :: b :: rest) pos) (tT X.K E (mAnd tc tu)) :=
  PW.imp (pw_and ha hb) fun σ H Q h => by
    obtain ⟨s, ι, F, st, h⟩ := h
    refine ⟨s, ι, F, st, h.bind.imp fun c s1 ι1 F1 H1 ⟨p1, st1, h1⟩ => ?_⟩
    cases c with
    | true => exact ⟨s1, ι1, F1, st1, h1⟩
    | false => exact Leaf.pure st1 h1
theorem st_or {rest : List Expr} (ha : PT X a (tT X.K E tc)) (hb : PW X (.BoolOp .Or (b :: rest) pos) (tT X.K E tu)) : PW X (.BoolOp .Or (a :: b :: rest) pos) (tT X.K E (mOr tc tu)) :=
  PW.imp (pw_or ha hb) fun σ H Q h => by
    obtain ⟨s, ι, F, st, h⟩ := h
    refine ⟨s, ι, F, st, h.bind.imp fun c s1 ι1 F1 H1 ⟨p1, st1, h1⟩ => ?_⟩
    cases c with
    | true => exact Leaf.pure st1 h1
    | false => exact ⟨s1, ι1, F1, st1, h1⟩
theorem st_not (ha : PT X a (tT X.K E tc)) : PT X (.UnaryOp .Not a pos) (tT X.K E (mNot tc)) :=
  PT.imp (pt_not ha) fun σ H Q h => by
    obtain ⟨s, ι, F, st, h⟩ := h
    exact ⟨s, ι, F, st, h.bind.imp fun c s1 ι1 F1 H1 ⟨p1, st1, h1⟩ => Leaf.pure st1 h1⟩
theorem se_if {c : Expr} (hc : PT X c (tT X.K E tc)) (ha : PE X a (tI X.K E ma)) (hb : PE X b (tI X.K E mb)) : PE X (.IfExp c a b pos) (tI X.K E (mIte tc ma mb)) :=
  PE.imp (pe_ifExp hc ha hb) fun σ H Q h => by
    obtain ⟨s, ι, F, st, h⟩ := h
    refine ⟨s, ι, F, st, h.bind.imp fun c s1 ι1 F1 H1 ⟨p1, st1, h1⟩ => ?_⟩
    cases c with
    | true => exact ⟨s1, ι1, F1, st1, h1.imp fun d s2 ι2 F2 H2 q v rv nv => q v rv (new_back (K := X.K) p1 nv)⟩
    | false => exact ⟨s1, ι1, F1, st1, h1.imp fun d s2 ι2 F2 H2 q v rv nv => q v rv (new_back (K := X.K) p1 nv)⟩
/-- and, or, not as values: bools -/
def mAndV (a b : Mo Dv) : Mo Dv := a.bind fun d => match d with
  | .bl true => b
  | .bl false => Mo.pure (.bl false)
  | _ => mNo
def mOrV (a b : Mo Dv) : Mo Dv := a.bind fun d => match d with
  | .bl true => Mo.pure (.bl true)
  | .bl false => b
  | _ => mNo
def mNotV (a : Mo Dv) : Mo Dv := a.bind fun d => match d with
  | .bl b => Mo.pure (.bl (!b))
  | _ => mNo
theorem vr_bl {K : PySem.W.Frag} {s : Mem} {ι : List Addr} {F H : Hp} {b : Bool} {v : V} (r : VR K σ s ι F H (.bl b) v) : v = .bl b := by
  have r' : Rep K ι F (.bl b) v := r
  cases r'
  rfl
theorem se_one {op} (h : PE X a (tI X.K E m)) : PE X (.BoolOp op [a] pos) (tI X.K E m) := pe_one h
theorem se_and {rest : List Expr} (ha : PE X a (tI X.K E ma)) (hb : PE X (.BoolOp .And (b :: rest) pos) (tI X.K E mb)) : PE X (.BoolOp .And (a :: b :: rest) pos) (tI X.K E (mAndV ma mb)) :=
  PE.imp (pe_and ha hb) fun σ H Q h => by
    obtain ⟨s, ι, F, st, h⟩ := h
    refine ⟨s, ι, F, st, h.bind.imp fun c s1 ι1 F1 H1 ⟨p1, st1, h1⟩ v rv nv => ?_⟩
    cases c with
    | bl c =>
      cases vr_bl rv
      refine ⟨c, rfl, ?_⟩
      cases c with
      | true => exact ⟨s1, ι1, F1, st1, h1.imp fun d s2 ι2 F2 H2 q v rv nv => q v rv (new_back (K := X.K) p1 nv)⟩
      | false => exact Leaf.pure st1 h1 _ (Rep.bl false) True.intro
    | _ => exact (show False from h1).elim
theorem se_or {rest : List Expr} (ha : PE X a (tI X.K E ma)) (hb : PE X (.BoolOp .Or (b :: rest) pos) (tI X.K E mb)) : PE X (.BoolOp .Or (a :: b :: rest) pos) (tI X.K E (mOrV ma mb)) :=
  PE.imp (pe_or ha hb) fun σ H Q h => by
    obtain ⟨s, ι, F, st, h⟩ := h
    refine ⟨s, ι, F, st, h.bind.imp fun c s1 ι1 F1 H1 ⟨p1, st1, h1⟩ v rv nv => ?_⟩
    cases c with
    | bl c =>
      cases vr_bl rv
      refine ⟨c, rfl, ?_⟩
      cases c with
      | true => exact Leaf.pure st1 h1 _ (Rep.bl true) True.intro
      | false => exact ⟨s1, ι1, F1, st1, h1.imp fun d s2 ι2 F2 H2 q v rv nv => q v rv (new_back (K := X.K) p1 nv)⟩
    | _ => exact (show False from h1).elim
theorem se_not (ha : PE X a (tI X.K E ma)) : PE X (.UnaryOp .Not a pos) (tI X.K E (mNotV ma)) :=
  PE.imp (pe_not ha) fun σ H Q h => by
    obtain ⟨s, ι, F, st, h⟩ := h
    refine ⟨s, ι, F, st, h.bind.imp fun c s1 ι1 F1 H1 ⟨p1, st1, h1⟩ v rv nv => ?_⟩
    cases c with
    | bl c =>
      cases vr_bl rv
      exact ⟨c, rfl, Leaf.pure st1 h1 _ (Rep.bl _) True.intro⟩
    | _ => exact (show False from h1).elim
end
end Mir

set_option Elab.async false
set_option linter.all false
set_option maxRecDepth 100000
set_option maxHeartbeats 4000000
/-! MirZip: list(zip(t, u)), t and u tuples. -/
namespace MZ
open PySem PySem.W PySem.Calls PyProof.Rows PyProof.V PySem.Spec

/-- an iterator at z whose tuples are kept: n of them, written at wr; S: the list that is filled -/
structure OutW (prog : Program) (w : World) (A : Around) (z S : Addr) (wr : List Addr) (n : Nat) (Tup : Nat → List Value) (Stt : Nat → Heap → Prop) : Prop where
  out : S ∉ wr
  frame : ∀ i h h', Stt i h → (∀ b o, b ≠ S → h.get? b = some o → h'.get? b = some o) → Stt i h'
  low : ∀ i h, Stt i h → ∀ b ∈ wr, b < h.objs.size
  item : ∀ i (s : Shared) (Q : Option Value → Shared → Prop) (E : Value → Shared → Prop), i < n → Stt i s.heap → S < s.heap.objs.size →
    (∀ h', Stt (i + 1) h' → h'.get? s.heap.objs.size = some { cls := .type "tuple", data := .seq (Tup i).toArray } → (∀ b o, b ∉ wr → s.heap.get? b = some o → h'.get? b = some o) → Q (some (.ref s.heap.objs.size)) { s with heap := h' }) →
    wpAny (model prog w) A (pyNext (.ref z)) Q E s
  done : ∀ (s : Shared) (Q : Option Value → Shared → Prop) (E : Value → Shared → Prop), Stt n s.heap →
    (∀ h', (∀ b o, b ∉ wr → s.heap.get? b = some o → h'.get? b = some o) → Q none { s with heap := h' }) → wpAny (model prog w) A (pyNext (.ref z)) Q E s
/-- the tuples handed out so far -/
structure Good (lo : Nat) (wr : List Addr) (S : Addr) (Tup : Nat → List Value) (h : Heap) (ts : List Addr) : Prop where
  nd : ts.Nodup
  far : ∀ t ∈ ts, lo ≤ t ∧ t ∉ wr ∧ t ≠ S
  at_ : ∀ (j : Nat) (t : Addr), ts[j]? = some t → h.get? t = some { cls := .type "tuple", data := .seq (Tup j).toArray }
theorem Good.keep {lo : Nat} {wr : List Addr} {S : Addr} {Tup : Nat → List Value} {h h' : Heap} {ts : List Addr} (g : Good lo wr S Tup h ts) (k : ∀ b o, b ∉ wr → b ≠ S → h.get? b = some o → h'.get? b = some o) : Good lo wr S Tup h' ts :=
  ⟨g.nd, g.far, fun j t e => let ⟨_, f2, f3⟩ := g.far t (List.mem_of_getElem? e); k t _ f2 f3 (g.at_ j t e)⟩
section
variable {prog : Program} {w : World} {A : Around} {E : Value → Shared → Prop} {s : Shared} {R : Result → Shared → Prop} {z S : Addr} {wr : List Addr} {n : Nat} {Tup : Nat → List Value} {Stt : Nat → Heap → Prop}
theorem loop (W : OutW prog w A.in1 z S wr n Tup Stt) (hn : n ≤ sizeLine) (res : Value) (lo : Nat) :
    ∀ (k i : Nat) (s : Shared) (acc : Array Value) (c : Nat) (ts : List Addr), n - i = k → i ≤ n → lo ≤ s.heap.objs.size → Stt i s.heap → s.heap.get? S = some { cls := .type "list", dict := none, data := .seq acc c, slots := #[] } →
    acc.toList = ts.map Value.ref → ts.length = i → Good lo wr S Tup s.heap ts →
    (∀ h' acc' c' ts', (∀ b o, b ∉ wr → b ≠ S → s.heap.get? b = some o → h'.get? b = some o) → h'.get? S = some { cls := .type "list", dict := none, data := .seq acc' c', slots := #[] } → acc'.toList = ts'.map Value.ref → ts'.length = n → Good lo wr S Tup h' ts' → R (.ok (.ret res)) { s with heap := h' }) →
    codeAny (model prog w) A (.builtin "list.extend.loop" ⟨[.ref S, .ref z, res], []⟩) R s := by
  intro k
  induction k with
  | zero =>
    intro i s acc c ts hk hi hl st hS ha hc g hR
    have hin : i = n := by omega
    subst hin
    refine codeAny_builtin F.entry_extend_loop ?_
    rw [Around.under_plainId F.plain_extend_loop _]
    show wpAny _ A.in1 (pyNext (.ref z) >>= _) _ _ s
    refine wpAny_bind (W.done s _ _ st fun h' hk' => wpAny_pure ?_)
    exact hR h' acc c ts (fun b o h1 _ e => hk' b o h1 e) (hk' S _ W.out hS) ha hc (g.keep fun b o h1 _ e => hk' b o h1 e)
  | succ k ih =>
    intro i s acc c ts hk hi hl st hS ha hc g hR
    have hlt : i < n := by omega
    have hsz : acc.size = i := by rw [← Array.length_toList, ha, List.length_map, hc]
    refine codeAny_builtin F.entry_extend_loop ?_
    rw [Around.under_plainId F.plain_extend_loop _]
    show wpAny _ A.in1 (pyNext (.ref z) >>= _) _ _ s
    refine wpAny_bind (W.item i s _ _ hlt st (Heap.lt_size hS) fun h' st' ht hk' => ?_)
    have hS' := hk' S _ W.out hS
    have hTS : s.heap.objs.size ≠ S := Nat.ne_of_gt (Heap.lt_size hS)
    have hTw : s.heap.objs.size ∉ wr := fun q => absurd (W.low i _ st _ q) (Nat.lt_irrefl _)
    have hTn : ∀ t ∈ ts, t ≠ s.heap.objs.size := fun t q e => by
      obtain ⟨j, hj⟩ := List.mem_iff_getElem?.mp q
      have lt := Heap.lt_size (g.at_ j t hj)
      rw [e] at lt
      exact Nat.lt_irrefl _ lt
    have up : ∀ b o, b ≠ S → h'.get? b = some o → (h'.update S (Obj.mapSeq (·.push (Value.ref s.heap.objs.size)))).get? b = some o := fun b o hb e => (Heap.get?_update_other _ _ (Ne.symm hb)).trans e
    have ht2 := up _ _ hTS ht
    show wpAny _ A.in1 (updateSeq S (·.push (Value.ref s.heap.objs.size)) >>= _) _ _ _
    refine wpAny_bind ?_
    refine wpAny_updateSeq hS' rfl (wpAny_pure ⟨plainId_quiet F.plain_extend_loop _, ih (i + 1) _ (acc.push (Value.ref s.heap.objs.size)) _ (ts ++ [s.heap.objs.size]) (by omega) hlt ?_ (W.frame _ _ _ st' up) (Heap.get?_update_self _ hS' rfl) (by rw [Array.toList_push, ha, List.map_append]; rfl) (by rw [List.length_append, hc]; rfl) ⟨?_, ?_, ?_⟩ ?_⟩)
      (by rw [hsz]; omega) (by show (acc.push (Value.ref s.heap.objs.size)).size ≤ sizeLine + 1; rw [Array.size_push, hsz]; omega)
    · have := Heap.lt_size ht2
      exact Nat.le_trans hl (Nat.le_of_lt this)
    · refine List.nodup_append.mpr ⟨g.nd, by simp, fun a h1 b h2 => ?_⟩
      rw [List.mem_singleton.mp h2]
      exact hTn a h1
    · intro t q
      rcases List.mem_append.mp q with q | q
      · exact g.far t q
      · rw [List.mem_singleton.mp q]
        exact ⟨hl, hTw, hTS⟩
    · intro j t hj
      by_cases hjl : j < ts.length
      · rw [List.getElem?_append_left hjl] at hj
        obtain ⟨_, f2, f3⟩ := g.far t (List.mem_of_getElem? hj)
        exact up t _ f3 (hk' t _ f2 (g.at_ j t hj))
      · rw [List.getElem?_append_right (by omega)] at hj
        have hj0 : j = ts.length := by
          by_cases e : j - ts.length = 0
          · omega
          · rw [List.getElem?_eq_none (by simp only [List.length_singleton]; omega)] at hj
            cases hj
        subst hj0
        have e : s.heap.objs.size = t := by simpa using hj
        subst e
        rw [hc]
        exact ht2
    · intro h'' acc' c' ts' f1 f2 f3 f4 f5
      exact hR h'' acc' c' ts' (fun b o h1 h2 e => f1 b o h1 h2 (up b o h2 (hk' b o h1 e))) f2 f3 f4 f5
end
theorem zip_no_len : typeLookup (.type "zip") "__len__" = pure none := by rw [typeLookup_type, builtinLookup_eq_fast]; kernel_rfl
theorem zip_no_hint : typeLookup (.type "zip") "__length_hint__" = pure none := by rw [typeLookup_type, builtinLookup_eq_fast]; kernel_rfl
section
variable {prog : Program} {w : World} {A : Around} {E : Value → Shared → Prop} {s : Shared} {z : Addr} {n : Nat} {Tup : Nat → List Value}
theorem hint {Q : Bool → Shared → Prop} (hT : s.TypeIs (.ref z) "zip") (h : Q true s) : wpAny (model prog w) A (Builtin.List.listLengthHint (.ref z)) Q E s := by
  unfold Builtin.List.listLengthHint
  refine wpAny_bind (wpAny_specialOf hT zip_no_len ?_)
  simp only [Option.isSome_none, Bool.false_eq_true, if_false]
  first
    | refine wpAny_bind (wpAny_specialOf hT zip_no_hint ?_)
    | refine wpAny_bind (wpAny_pure ?_); refine wpAny_bind (wpAny_specialOf hT zip_no_hint ?_)
  exact wpAny_pure h
/-- list(z) -/
theorem call_list {wr : List Addr} {Stt : Nat → Heap → Prop} {Q : Value → Shared → Prop} (hz : s.TypeIs (.ref z) "zip") (hn : n ≤ sizeLine)
    (iter : ∀ (s' : Shared) (Q : Value → Shared → Prop) (E : Value → Shared → Prop), (∀ b o, s.heap.get? b = some o → s'.heap.get? b = some o) → Q (.ref z) s' → wpAny (model prog w) A.in1.in1 (pyIter (.ref z)) Q E s')
    (W : OutW prog w A.in1.in1 z s.heap.objs.size wr n Tup Stt) (begins : ∀ h, (∀ b o, b ≠ s.heap.objs.size → s.heap.get? b = some o → h.get? b = some o) → Stt 0 h)
    (hQ : ∀ h' acc c ts, (∀ b o, b ∉ wr → s.heap.get? b = some o → h'.get? b = some o) → h'.get? s.heap.objs.size = some { cls := .type "list", dict := none, data := .seq acc c, slots := #[] } → acc.toList = ts.map Value.ref → ts.length = n →
      Good s.heap.objs.size wr s.heap.objs.size Tup h' ts → Q (.ref s.heap.objs.size) { s with heap := h' }) :
    wpAny (model prog w) A (call (.type "list") [.ref z]) Q E s := by
  have hzl : z < s.heap.objs.size := let ⟨_, ho, _⟩ := hz; Heap.lt_size ho
  refine callType_codes (Q₁ := fun obj s₁ => obj = .ref s.heap.objs.size ∧ s₁ = { s with heap := s.heap.push { cls := .type "list", data := .seq #[] } }) PySem.F.called_list (PySem.F.typeCall_list_1 _) PySem.F.entry_list_init
    (code_list_new _ ⟨rfl, rfl⟩) fun obj s₁ h₁ => ?_
  obtain ⟨rfl, rfl⟩ := h₁
  have e0 : (s.heap.push { cls := .type "list", data := .seq #[] }).get? s.heap.objs.size = some { cls := .type "list", data := .seq #[] } := Heap.get?_push_size _ rfl
  refine ⟨⟨_, e0, rfl⟩, PySem.F.args_list_init_2 _ _, ?_⟩
  generalize hh0 : s.heap.push { cls := .type "list", data := .seq #[] } = h0 at e0
  have k0 : ∀ b o, s.heap.get? b = some o → h0.get? b = some o := fun b o e => by rw [← hh0]; exact Heap.get?_push_of_some _ e
  have Sn : ∀ b o, s.heap.get? b = some o → b ≠ s.heap.objs.size := fun b o e => Nat.ne_of_lt (Heap.lt_size e)
  -- list.__init__: emptied, then extended
  show wpAny _ _ (do let old ← Builtin.List.listItems (.ref s.heap.objs.size); Builtin.List.listUpdate (.ref s.heap.objs.size) (fun _ => #[]); letGo old.toList.reverse; Builtin.List.listExtendWith (.ref s.heap.objs.size) (.ref z) .none) _ _ _
  refine wpAny_bind ?_
  unfold Builtin.List.listItems
  refine wpAny_bind (wpAny_seqItems e0 rfl (wpAny_pure ?_))
  show wpAny _ _ (updateSeq s.heap.objs.size (fun _ => #[]) >>= fun _ => letGo (#[] : Array Value).toList.reverse >>= fun _ => Builtin.List.listExtendWith (.ref s.heap.objs.size) (.ref z) .none) _ _ _
  refine wpAny_bind (wpAny_updateSeq e0 rfl ?_)
  have e1 := Heap.get?_update_self (Obj.mapSeq (fun _ => (#[] : Array Value))) e0 rfl
  generalize hh1 : h0.update s.heap.objs.size (Obj.mapSeq (fun _ => (#[] : Array Value))) = h1 at e1
  have k1 : ∀ b o, s.heap.get? b = some o → h1.get? b = some o := fun b o e => by rw [← hh1]; exact (Heap.get?_update_other _ _ (Ne.symm (Sn b o e))).trans (k0 b o e)
  refine wpAny_bind (wpAny_letGo ?_)
  have hz1 : Shared.TypeIs { s with heap := h1 } (.ref z) "zip" := let ⟨o, ho, hc⟩ := hz; ⟨o, k1 z o ho, hc⟩
  have fin : ∀ (h2 : Heap) (c2 : Nat), (∀ b o, s.heap.get? b = some o → h2.get? b = some o) → h2.get? s.heap.objs.size = some { cls := .type "list", dict := none, data := .seq #[] c2, slots := #[] } →
      codeAny (model prog w) A.in1 (.builtin "list.extend.loop" ⟨[.ref s.heap.objs.size, .ref z, .none], []⟩) (wants (fun r s₂ => r = Value.none ∧ Q (.ref s.heap.objs.size) s₂) E) { s with heap := h2 } := fun h2 c2 k2 e2 => by
    refine loop W hn .none s.heap.objs.size n 0 { s with heap := h2 } #[] c2 [] (Nat.sub_zero _) (Nat.zero_le _) (Nat.le_of_lt (Heap.lt_size e2)) (begins h2 fun b o hb e => k2 b o e) e2 rfl rfl ⟨List.nodup_nil, (fun _ q => nomatch q), fun j t q => by simp at q⟩ fun h' acc' c' ts f1 f2 f3 f4 f5 => ?_
    exact ⟨rfl, hQ h' acc' c' ts (fun b o hb e => f1 b o hb (Sn b o e) (k2 b o e)) f2 f3 f4 f5⟩
  unfold Builtin.List.listExtendWith
  refine wpAny_bind (wpAny_typeOf (T := "zip") hz1 ?_)
  have a1 : Builtin.List.listSameRef (.ref s.heap.objs.size) (.ref z) = false := by
    have ne : ¬ s.heap.objs.size = z := Nat.ne_of_gt hzl
    simp [Builtin.List.listSameRef, ne]
  have a2 : (Value.type "zip" == Value.type "list") = false := by decide
  have a3 : (Value.type "zip" == Value.type "tuple") = false := by decide
  simp only [a1, a2, a3, Bool.or_false, Bool.false_eq_true, if_false]
  refine wpAny_bind (iter _ _ _ k1 ?_)
  refine wpAny_bind (wpAny_holding (hint hz1 ?_))
  refine wpAny_ite_split (fun _ => ?_) (fun q => absurd (by rfl) q)
  refine wpAny_bind (wpAny_rule ?_)
  refine wpAny_bind ?_
  show wpAny _ _ (updateSeq s.heap.objs.size (·.push .none) >>= fun _ => updateSeq s.heap.objs.size (·.pop)) _ _ _
  refine wpAny_bind (wpAny_updateSeq e1 rfl ?_)
  have e2 := Heap.get?_update_self (Obj.mapSeq (·.push Value.none)) e1 rfl
  refine wpAny_updateSeq (hz := by seq_fits) e2 rfl ?_
  have e3 := Heap.get?_update_self (Obj.mapSeq (·.pop)) e2 rfl
  refine wpAny_pure ⟨plainId_quiet PySem.F.plain_extend_loop _, ?_⟩
  have oth : ∀ (g : Heap) (f : Obj → Obj) (b : Addr) (o : Obj), b ≠ s.heap.objs.size → g.get? b = some o → (g.update s.heap.objs.size f).get? b = some o := fun g f b o hb e => (Heap.get?_update_other _ _ (Ne.symm hb)).trans e
  exact fin _ _ (fun b o e => oth _ _ b o (Sn b o e) (oth _ _ b o (Sn b o e) (k1 b o e))) e3

/-! ### two tuples -/
abbrev IsZipF (h : Heap) (z TI TO : Addr) (a : Addr) (f : Bool) : Prop :=
  h.get? z = some { cls := .type "zip", dict := none, data := .fields #[rawInt a, .bool f, .bool false, .ref TI, .ref TO], slots := #[] }
theorem alive {a : Addr} {o : Obj} {Q : Option Obj → Shared → Prop} (ho : s.heap.get? a = some o) (h : Q (some o) s) : wpAny (model prog w) A (loadIfAlive a) Q E s := by
  have q : Q (s.heap.get? a) s := by rw [ho]; exact h
  exact fun _ _ _ => q
/-- the tuple that was handed out is still there -/
theorem owned_out {TI TO a : Addr} {f : Bool} {oa : Obj} {Q : Bool → Shared → Prop} (hz : IsZipF s.heap z TI TO a f) (ha : s.heap.get? a = some oa)
    (hQ : ∀ h', IsZipF h' z TI TO a true → Heap.SameBut z s.heap h' → Q false { s with heap := h' }) : wpAny (model prog w) A (Builtin.SmallTypes.ownedTupleIsFree (.ref z)) Q E s := by
  unfold Builtin.SmallTypes.ownedTupleIsFree
  refine wpAny_bind (wpAny_field hz rfl (x := rawInt a) rfl ?_)
  show wpAny _ _ (loadIfAlive ((a : Int).toNat) >>= _) _ _ s
  rw [Int.toNat_natCast]
  refine wpAny_bind (alive ha ?_)
  simp only [Option.isNone_some, Bool.false_eq_true, if_false]
  refine wpAny_bind (wpAny_field hz rfl (x := .bool f) rfl ?_)
  cases f with
  | true =>
    rw [if_neg (show ¬ ((Value.bool true != Value.bool true) = true) from Bool.false_ne_true)]
    exact wpAny_pure (hQ s.heap hz (Heap.SameBut.refl _ _))
  | false =>
    rw [if_pos (show (Value.bool false != Value.bool true) = true from rfl)]
    refine wpAny_bind (wpAny_setField_rec hz (by simp) fun h2 hz2 hs2 => wpAny_pure (hQ h2 hz2 hs2))
variable {TI TO i1 i2 l1 l2 : Addr} {k1 k2 : Nat} {xs ys : Array Value} {x y : Value}
theorem next_out {a : Addr} {f : Bool} {oa : Obj} {Q : Value → Shared → Prop} (D : ZipApart z TI TO i1 i2 l1 l2) (hz : IsZipF s.heap z TI TO a f) (ha : s.heap.get? a = some oa) (hTI : IsPair s.heap TI (.ref i1) (.ref i2))
    (h1 : s.heap.IsTupleIter i1 l1 k1) (h2 : s.heap.IsTupleIter i2 l2 k2) (hl1 : s.heap.IsTuple l1 xs) (hl2 : s.heap.IsTuple l2 ys) (hx : xs[k1]? = some x) (hy : ys[k2]? = some y)
    (hQ : ∀ h', IsZipF h' z TI TO a true → h'.IsTupleIter i1 l1 (k1 + 1) → h'.IsTupleIter i2 l2 (k2 + 1) → IsPair h' s.heap.objs.size x y →
      (∀ c o, c ≠ z → c ≠ i1 → c ≠ i2 → s.heap.get? c = some o → h'.get? c = some o) → Q (.ref s.heap.objs.size) { s with heap := h' }) :
    wpAny (model prog w) A (Builtin.«zip.__next__» ⟨[.ref z], []⟩) (fun fin s' => ∃ v, fin = .done (.ret v) ∧ Q v s') E s := by
  show wpAny _ _ (field (.ref z) 2 >>= _) _ _ _
  refine wpAny_bind (wpAny_field hz rfl (x := .bool false) rfl ?_)
  show wpAny _ _ (field (.ref z) 3 >>= _) _ _ _
  refine wpAny_bind (wpAny_field hz rfl (x := .ref TI) rfl ?_)
  refine wpAny_bind (wpAny_seqItems hTI rfl ?_)
  show wpAny _ _ (Builtin.SmallTypes.ownedTupleIsFree (.ref z) >>= _) _ _ _
  refine wpAny_bind (owned_out hz ha fun g1 z1 s1 => ?_)
  simp only [Bool.false_eq_true, if_false]
  rw [← Array.forIn_toList]
  simp only [List.forIn_cons, List.forIn_nil]
  refine wpAny_bind (wpAny_bind (wpAny_bind (wpAny_holding ?_)))
  show wpAny _ _ (Builtin.SmallTypes.nextOf (.ref i1) >>= _) _ _ _
  refine wpAny_bind (RZ.nextOf_tuple_item (h1.extBut s1.extBut D.i1z) (hl1.extBut s1.extBut D.l1z) hx fun g2 t1 s2 => wpAny_pure ?_)
  refine wpAny_pure ?_
  refine wpAny_bind (wpAny_bind (wpAny_holding ?_))
  show wpAny _ _ (Builtin.SmallTypes.nextOf (.ref i2) >>= _) _ _ _
  refine wpAny_bind (RZ.nextOf_tuple_item ((h2.extBut s1.extBut D.i2z).extBut s2.extBut D.i12.symm) ((hl2.extBut s1.extBut D.l2z).extBut s2.extBut D.l2i1) hy fun g3 t2 s3 => wpAny_pure ?_)
  refine wpAny_pure (wpAny_pure ?_)
  refine wpAny_bind (wpAny_newTuple ?_ (by show 2 ≤ sizeLine; decide))
  have e3 : g3.objs.size = s.heap.objs.size := by rw [s3.1, s2.1, s1.1]
  refine wpAny_pure ⟨_, rfl, ?_⟩
  show Q (.ref g3.objs.size) _
  rw [e3]
  have kp : ∀ c o, c ≠ z → c ≠ i1 → c ≠ i2 → s.heap.get? c = some o → g3.get? c = some o := fun c o c1 c2 c3 e => s3.extBut _ _ c3 (s2.extBut _ _ c2 (s1.extBut _ _ c1 e))
  refine hQ _ (Heap.get?_push_of_some _ (s3.extBut _ _ D.i2z.symm (s2.extBut _ _ D.i1z.symm z1))) ((t1.extBut s3.extBut D.i12).at fun o e => Heap.get?_push_of_some _ e) (t2.at fun o e => Heap.get?_push_of_some _ e) ?_ fun c o c1 c2 c3 e => Heap.get?_push_of_some _ (kp c o c1 c2 c3 e)
  rw [← e3]
  exact Heap.get?_push_size _ rfl
theorem end_out {a : Addr} {f : Bool} {oa : Obj} {Q : Fin → Shared → Prop} (hh : A.handled = none) (D : ZipApart z TI TO i1 i2 l1 l2) (hz : IsZipF s.heap z TI TO a f) (ha : s.heap.get? a = some oa) (hTI : IsPair s.heap TI (.ref i1) (.ref i2))
    (h1 : s.heap.IsTupleIter i1 l1 k1) (h2 : s.heap.IsTupleIter i2 l2 k2) (hl1 : s.heap.IsTuple l1 xs) (hl2 : s.heap.IsTuple l2 ys) (hend : xs[k1]? = none)
    (hE : ∀ h' e, (∀ c o, c ≠ z → c ≠ i1 → c ≠ i2 → s.heap.get? c = some o → h'.get? c = some o) → (∃ o, h'.get? e = some o ∧ o.cls = .type "StopIteration") → E (.ref e) { s with heap := h' }) :
    wpAny (model prog w) A (Builtin.«zip.__next__» ⟨[.ref z], []⟩) Q E s := by
  show wpAny _ _ (field (.ref z) 2 >>= _) _ _ _
  refine wpAny_bind (wpAny_field hz rfl (x := .bool false) rfl ?_)
  show wpAny _ _ (field (.ref z) 3 >>= _) _ _ _
  refine wpAny_bind (wpAny_field hz rfl (x := .ref TI) rfl ?_)
  refine wpAny_bind (wpAny_seqItems hTI rfl ?_)
  show wpAny _ _ (Builtin.SmallTypes.ownedTupleIsFree (.ref z) >>= _) _ _ _
  refine wpAny_bind (owned_out hz ha fun g1 z1 s1 => ?_)
  simp only [Bool.false_eq_true, if_false]
  rw [← Array.forIn_toList]
  simp only [List.forIn_cons, List.forIn_nil]
  refine wpAny_bind (wpAny_bind (wpAny_bind (wpAny_holding ?_)))
  show wpAny _ _ (Builtin.SmallTypes.nextOf (.ref i1) >>= _) _ _ _
  refine wpAny_bind (RZ.nextOf_tuple_end hh (h1.extBut s1.extBut D.i1z) (hl1.extBut s1.extBut D.l1z) hend fun g2 e s2 he => ?_)
  exact hE g2 e (fun c o c1 c2 _ q => s2 _ _ c2 (s1.extBut _ _ c1 q)) he
/-- the state of such a zip: nothing handed out yet, or the last tuple stands at a -/
def Zst (z TI TO i1 i2 l1 l2 S : Addr) (xs ys : Array Value) (i : Nat) (h : Heap) : Prop :=
  IsPair h TI (.ref i1) (.ref i2) ∧ (∃ u v, IsPair h TO u v) ∧ h.IsTupleIter i1 l1 i ∧ h.IsTupleIter i2 l2 i ∧ h.IsTuple l1 xs ∧ h.IsTuple l2 ys ∧ (IsZip h z TI TO .none ∨ ∃ a f oa, IsZipF h z TI TO a f ∧ h.get? a = some oa ∧ a ≠ S ∧ a ≠ z ∧ a ≠ TO ∧ a ≠ i1 ∧ a ≠ i2)
theorem outw {S : Addr} (hh : A.in1.handled = none) (D : ZipApart z TI TO i1 i2 l1 l2) (hs : xs.size = ys.size) (Sz : z ≠ S) (STI : TI ≠ S) (STO : TO ≠ S) (S1 : i1 ≠ S) (S2 : i2 ≠ S) (T1 : l1 ≠ S) (T2 : l2 ≠ S) :
    OutW prog w A z S [z, TO, i1, i2] xs.size (fun i => [(xs[i]?).getD .none, (ys[i]?).getD .none]) (Zst z TI TO i1 i2 l1 l2 S xs ys) := by
  have nin : ∀ {c : Addr}, c ∉ [z, TO, i1, i2] → c ≠ z ∧ c ≠ TO ∧ c ≠ i1 ∧ c ≠ i2 := fun {c} q => by simpa using q
  refine ⟨by simp [Ne.symm Sz, Ne.symm STO, Ne.symm S1, Ne.symm S2], fun i h h' st k => ?_, fun i h st b hb => ?_, fun i s Q E hi st hS hQ => ?_, fun s Q E st hQ => ?_⟩
  · obtain ⟨a1, ⟨u, v, a2⟩, a3, a4, a5, a6, a7⟩ := st
    refine ⟨k _ _ STI a1, ⟨u, v, k _ _ STO a2⟩, a3.at fun o e => k _ o S1 e, a4.at fun o e => k _ o S2 e, a5.at fun o e => k _ o T1 e, a6.at fun o e => k _ o T2 e, ?_⟩
    rcases a7 with a7 | ⟨a, f, oa, b1, b2, b3, b4⟩
    · exact .inl (k _ _ Sz a7)
    · exact .inr ⟨a, f, oa, k _ _ Sz b1, k _ _ b3 b2, b3, b4⟩
  · obtain ⟨a1, ⟨u, v, a2⟩, ⟨o3, a3, _⟩, ⟨o4, a4, _⟩, a5, a6, a7⟩ := st
    have hz : z < h.objs.size := by
      rcases a7 with a7 | ⟨a, f, oa, b1, _⟩
      · exact Heap.lt_size a7
      · exact Heap.lt_size b1
    have e : b = z ∨ b = TO ∨ b = i1 ∨ b = i2 := by simpa using hb
    rcases e with e | e | e | e
    · rw [e]; exact hz
    · rw [e]; exact Heap.lt_size a2
    · rw [e]; exact Heap.lt_size a3
    · rw [e]; exact Heap.lt_size a4
  · obtain ⟨a1, ⟨u, v, a2⟩, a3, a4, a5, a6, a7⟩ := st
    have hx : xs[i]? = some xs[i] := Array.getElem?_eq_getElem hi
    have hy : ys[i]? = some (ys[i]'(by omega)) := Array.getElem?_eq_getElem (by omega)
    rw [hx, hy] at hQ
    have far : ∀ {c : Addr} {o : Obj}, s.heap.get? c = some o → s.heap.objs.size ≠ c := fun {c o} e => Nat.ne_of_gt (Heap.lt_size e)
    obtain ⟨o3, e3, _⟩ := id a3
    obtain ⟨o4, e4, _⟩ := id a4
    rcases a7 with a7 | ⟨a, f, oa, b1, b2, b3, b4, b5, b6, b7⟩
    · refine RZ.pyNext_zipT_item D a7 a1 a2 a3 a4 a5 a6 hx hy fun h' z1 z2 z3 z4 z5 _ kp => ?_
      refine hQ h' ⟨kp _ _ D.TIz D.TITO D.TIi1 D.TIi2 a1, ⟨_, _, z2⟩, z3, z4, a5.at fun o e => kp _ o D.l1z D.l1TO D.l1i1 D.l1i2 e, a6.at fun o e => kp _ o D.l2z D.l2TO D.l2i1 D.l2i2 e, ?_⟩ z5 fun b o nb e => ?_
      · exact .inr ⟨s.heap.objs.size, false, _, z1, z5, Nat.ne_of_gt hS, far a7, far a2, far e3, far e4⟩
      · obtain ⟨n1, n2, n3, n4⟩ := nin nb
        exact kp b o n1 n2 n3 n4 e
    · have hT : s.TypeIs (.ref z) "zip" := ⟨_, b1, rfl⟩
      unfold pyNext
      refine wpAny_bind (wpAny_attempt (wpAny_callSpecial?_slot (name := Str.ofString "__next__") hT F.slot_zip_next (wpAny_call_entry F.slot_zip_next hT F.entry_zip_next ?_ (F.args_zip_next_1 _))))
      refine next_out D b1 b2 a1 a3 a4 a5 a6 hx hy fun h' z1 z3 z4 z5 kp => wpAny_pure ?_
      refine hQ h' ⟨kp _ _ D.TIz D.TIi1 D.TIi2 a1, ⟨u, v, kp _ _ D.TOz D.TOi1 D.TOi2 a2⟩, z3, z4, a5.at fun o e => kp _ o D.l1z D.l1i1 D.l1i2 e, a6.at fun o e => kp _ o D.l2z D.l2i1 D.l2i2 e, ?_⟩ z5 fun b o nb e => ?_
      · exact .inr ⟨a, true, oa, z1, kp _ _ b4 b6 b7 b2, b3, b4, b5, b6, b7⟩
      · obtain ⟨n1, n2, n3, n4⟩ := nin nb
        exact kp b o n1 n3 n4 e
  · obtain ⟨a1, ⟨u, v, a2⟩, a3, a4, a5, a6, a7⟩ := st
    have hx : xs[xs.size]? = none := Array.getElem?_eq_none (Nat.le_refl _)
    rcases a7 with a7 | ⟨a, f, oa, b1, b2, b3, b4, b5, b6, b7⟩
    · refine RZ.pyNext_zipT_end hh D a7 a1 a2 a3 a4 a5 a6 (.inl hx) fun h' kp => hQ h' fun b o nb e => ?_
      obtain ⟨n1, n2, n3, n4⟩ := nin nb
      exact kp b o n1 n2 n3 n4 e
    · have hT : s.TypeIs (.ref z) "zip" := ⟨_, b1, rfl⟩
      unfold pyNext
      refine wpAny_bind (wpAny_attempt (wpAny_callSpecial?_slot (name := Str.ofString "__next__") hT F.slot_zip_next (wpAny_call_entry F.slot_zip_next hT F.entry_zip_next ?_ (F.args_zip_next_1 _))))
      refine end_out hh D b1 b2 a1 a3 a4 a5 a6 hx fun h' e kp he => ?_
      obtain ⟨o, ho, hc⟩ := he
      refine wpAny_bind (wpAny_isInstance (T := "StopIteration") (b := true) ⟨o, ho, hc⟩ isSubtype_stop ?_)
      refine wpAny_pure (hQ h' fun b o nb e => ?_)
      obtain ⟨n1, n2, n3, n4⟩ := nin nb
      exact kp b o n1 n3 n4 e
end

/-! ### the rule -/
open L2
/-- pairs laid as tuples -/
def lay (H : Hp) : List Addr → List (V × V) → Hp
  | t :: ts, q :: qs => upd (lay H ts qs) t (.tup [q.1, q.2])
  | _, _ => H
theorem lay_off {H : Hp} {b : Addr} : ∀ {ts : List Addr} {qs : List (V × V)}, b ∉ ts → lay H ts qs b = H b
  | [], _, _ => rfl
  | _ :: _, [], _ => rfl
  | t :: ts, q :: qs, h => by
    show upd (lay H ts qs) t _ b = H b
    rw [upd_ne (fun e => h (by rw [e]; exact List.mem_cons_self))]
    exact lay_off fun z => h (List.mem_cons_of_mem _ z)
theorem lay_at {H : Hp} : ∀ {ts : List Addr} {qs : List (V × V)}, ts.length = qs.length → ts.Nodup → Paired (fun (t : Addr) (q : V × V) => lay H ts qs t = some (.tup [q.1, q.2])) ts qs
  | [], [], _, _ => .nil
  | [], _ :: _, h, _ => by cases h
  | _ :: _, [], h, _ => by cases h
  | t :: ts, q :: qs, h, hn => by
    have n := List.nodup_cons.mp hn
    refine .cons upd_same ?_
    have ih := lay_at (H := H) (ts := ts) (qs := qs) (Nat.succ.inj h) n.2
    have all : ∀ (as : List Addr) (rs : List (V × V)), (∀ a ∈ as, a ≠ t) → Paired (fun (a : Addr) (r : V × V) => lay H ts qs a = some (.tup [r.1, r.2])) as rs → Paired (fun (a : Addr) (r : V × V) => upd (lay H ts qs) t (.tup [q.1, q.2]) a = some (.tup [r.1, r.2])) as rs := by
      intro as rs ne pr
      induction pr with
      | nil => exact .nil
      | cons e _ ih2 => exact .cons (by rw [upd_ne (ne _ List.mem_cons_self)]; exact e) (ih2 fun a ha => ne a (List.mem_cons_of_mem _ ha))
    exact all ts qs (fun a ha e => n.1 (e ▸ ha)) ih
theorem lay_cases {H : Hp} {b : Addr} {o : HO} : ∀ {ts : List Addr} {qs : List (V × V)}, lay H ts qs b = some o → (H b = some o) ∨ ∃ (j : Nat) (q : V × V), ts[j]? = some b ∧ qs[j]? = some q ∧ o = .tup [q.1, q.2]
  | [], _, h => .inl h
  | _ :: _, [], h => .inl h
  | t :: ts, q :: qs, h => by
    have h' : upd (lay H ts qs) t (.tup [q.1, q.2]) b = some o := h
    by_cases e : b = t
    · rw [e, upd_same] at h'
      exact .inr ⟨0, q, by rw [e]; rfl, rfl, (Option.some.inj h').symm⟩
    · rw [upd_ne e] at h'
      rcases lay_cases h' with z | ⟨j, r, z1, z2, z3⟩
      · exact .inl z
      · exact .inr ⟨j + 1, r, z1, z2, z3⟩
def tListZip (K : PySem.W.Frag) (ta : TA) : TE := fun σ H Q => ta σ H fun vs H1 => ∃ (a b : Addr) (xs ys : List V), vs = [.ref a, .ref b] ∧ SqT K H1 a xs ∧ SqT K H1 b ys ∧ xs.length = ys.length ∧
  ∀ (H' : Hp) (p : Addr) (ts : List Addr), Same H1 H' → H1 p = none → (∀ t ∈ ts, H1 t = none) → p ∉ ts → (∀ c, H' c = none → H1 c = none) → (∀ c, c ≠ p → c ∉ ts → H' c = H1 c) → H' p = some (.lst (ts.map V.ref)) → Paired (fun (t : Addr) (q : V × V) => H' t = some (.tup [q.1, q.2])) ts (xs.zip ys) → Q (.ref p) H'
theorem refs_vals : ∀ ts : List Addr, Vals (ts.map V.ref) (ts.map Value.ref)
  | [] => .nil
  | _ :: ts => .cons rfl (refs_vals ts)
theorem pe_listZip {X : Cx} {e e2 : Expr} {ta : TA} {p p2 q pos : Pos} (hc : X.calm = true) (hg : Gl X "list") (hm : X.mg "list" = none) (hg2 : Gl X "zip") (hm2 : X.mg "zip" = none) (ha : PA X [e, e2] ta)
    (hs : starEach [e, e2] X.env = (false, eval e X.env) :: starEach [e2] X.env := by rfl) (hpl : (backTo q (starEach [e2] X.env)).any (·.1) = false := by rfl)
    (hs1 : starEach [.Call (.Name "zip" p2) [e, e2] [] q] X.env = (false, eval (.Call (.Name "zip" p2) [e, e2] [] q) X.env) :: starEach [] X.env := by rfl) :
    PE X (.Call (.Name "list" p) [.Call (.Name "zip" p2) [e, e2] [] q] [] pos) (tListZip X.K ta) := by
  refine ⟨fun pins s σ H Q I h => ?_⟩
  refine wpAny_Call_Name_kw (ld_blt I hg hm (by decide +kernel : bootBuiltins "list" = some (.type "list")) ?_)
  refine PyProof.Rows.callWith_type1 ?_ hs1 rfl
  rw [hs1]
  show wpAny _ _ (spliced ((false, eval (.Call (.Name "zip" p2) [e, e2] [] q) X.env) :: backTo pos (starEach [] X.env))) _ _ s
  refine Calls.spliced_cons ?_
  refine Call_ (ld_blt I hg2 hm2 PyProof.Rows.boot_zip (PyProof.Rows.callWith_type1 (thn (ha.run q pins s σ H _ I h) fun us s1 ⟨vs, H1, I1, r1, q1⟩ => ?_) hs hpl))
  obtain ⟨a, b, xs, ys, ex, hqx, hqy, hlen, k⟩ := q1
  subst ex
  obtain ⟨u1, u2, rfl, ra, rb⟩ := vals2 r1
  cases ra
  cases rb
  obtain ⟨its, rv, t1, hzs⟩ := I1.tuple hqx
  obtain ⟨its2, rv2, t2, _⟩ := I1.tuple hqy
  obtain ⟨o1, ho1, _⟩ := id t1
  obtain ⟨o2, ho2, _⟩ := id t2
  have la : a < s1.heap.objs.size := Heap.lt_size ho1
  have lb : b < s1.heap.objs.size := Heap.lt_size ho2
  have l1 := rv.length
  have l2 := rv2.length
  refine RZ.call_zipT (show s1.heap.IsTuple a its.toArray from t1) (show s1.heap.IsTuple b its2.toArray from t2) fun g hz hTI hTO h1 h2 hsz hk => ?_
  refine Calls.spliced_nil ?_
  have D : ZipApart (s1.heap.objs.size + 4) (s1.heap.objs.size + 2) (s1.heap.objs.size + 3) s1.heap.objs.size (s1.heap.objs.size + 1) a b := PySem.W.ktu_apart s1.heap.objs.size a b la lb
  have sz2 : its.toArray.size = its2.toArray.size := by rw [List.size_toArray, List.size_toArray, ← l1, ← l2, hlen]
  have ge : s1.heap.objs.size + 4 < g.objs.size := by rw [hsz]; omega
  refine call_list (s := { s1 with heap := g }) (z := s1.heap.objs.size + 4) (n := its.toArray.size) (Tup := fun i => [(its.toArray[i]?).getD .none, (its2.toArray[i]?).getD .none]) ⟨_, hz, rfl⟩ (by rw [List.size_toArray, ← l1]; exact hzs)
    (fun s' Q E kp hQ => wpAny_pyIter_zip (kp _ _ hz) hQ) (outw (S := g.objs.size) (xs := its.toArray) (ys := its2.toArray) (I.ok.hd hc) D sz2 ?_ ?_ ?_ ?_ ?_ ?_ ?_) (fun h' kp => ?_) fun h' acc cap ts kp e0 hacc hl gd => ?_
  · exact Nat.ne_of_lt ge
  · exact Nat.ne_of_lt (show (s1.heap.objs.size + 2 : Nat) < g.objs.size by omega)
  · exact Nat.ne_of_lt (show (s1.heap.objs.size + 3 : Nat) < g.objs.size by omega)
  · exact Nat.ne_of_lt (show (s1.heap.objs.size : Nat) < g.objs.size by omega)
  · exact Nat.ne_of_lt (show (s1.heap.objs.size + 1 : Nat) < g.objs.size by omega)
  · exact Nat.ne_of_lt (Nat.lt_trans la (show (s1.heap.objs.size : Nat) < g.objs.size by omega))
  · exact Nat.ne_of_lt (Nat.lt_trans lb (show (s1.heap.objs.size : Nat) < g.objs.size by omega))
  · have lift : ∀ (c : Addr) (o : Obj), g.get? c = some o → h'.get? c = some o := fun c o e => kp c o (Nat.ne_of_lt (Heap.lt_size e)) e
    exact ⟨lift _ _ hTI, ⟨_, _, lift _ _ hTO⟩, h1.at fun o e => lift _ _ e, h2.at fun o e => lift _ _ e, (show g.IsTuple a its.toArray from Heap.IsTuple.at t1 fun o e => hk _ _ e).at fun o e => lift _ _ e, (show g.IsTuple b its2.toArray from Heap.IsTuple.at t2 fun o e => hk _ _ e).at fun o e => lift _ _ e, .inl (lift _ _ hz)⟩
  · have hgs : g.objs.size = s1.heap.objs.size + 5 := hsz
    have fr : ∀ c, s1.heap.objs.size ≤ c → H1 c = none := fun c hle => I1.hok.fresh hle
    have hp : H1 g.objs.size = none := fr _ (by omega)
    have hts : ∀ t ∈ ts, H1 t = none := fun t ht => fr t (Nat.le_trans (by omega : s1.heap.objs.size ≤ g.objs.size) (gd.far t ht).1)
    have pts : g.objs.size ∉ ts := fun q => (gd.far _ q).2.2 rfl
    have kall : ∀ c o, s1.heap.get? c = some o → h'.get? c = some o := fun c o e => kp c o (fun q => ?_) (hk c o e)
    have tl : ts.length = (xs.zip ys).length := by rw [hl, List.length_zip, ← hlen, Nat.min_self, List.size_toArray, l1]
    have same : ∀ c, c ≠ g.objs.size → c ∉ ts → upd (lay H1 ts (xs.zip ys)) g.objs.size (.lst (ts.map V.ref)) c = H1 c := fun c n1 n2 => by rw [upd_ne n1, lay_off n2]
    have sm : Same H1 (upd (lay H1 ts (xs.zip ys)) g.objs.size (.lst (ts.map V.ref))) := fun c o e => by
      rw [same c (fun z => by rw [z, hp] at e; cases e) (fun z => by rw [hts c z] at e; cases e)]
      exact e
    have atp : Paired (fun (t : Addr) (q : V × V) => upd (lay H1 ts (xs.zip ys)) g.objs.size (.lst (ts.map V.ref)) t = some (.tup [q.1, q.2])) ts (xs.zip ys) := by
      have all : ∀ (as : List Addr) (rs : List (V × V)), (∀ a ∈ as, a ≠ g.objs.size) → Paired (fun (a : Addr) (r : V × V) => lay H1 ts (xs.zip ys) a = some (.tup [r.1, r.2])) as rs → Paired (fun (a : Addr) (r : V × V) => upd (lay H1 ts (xs.zip ys)) g.objs.size (.lst (ts.map V.ref)) a = some (.tup [r.1, r.2])) as rs := by
        intro as rs ne pr
        induction pr with
        | nil => exact .nil
        | cons e _ ih2 => exact .cons (by rw [upd_ne (ne _ List.mem_cons_self)]; exact e) (ih2 fun a ha => ne a (List.mem_cons_of_mem _ ha))
      exact all ts _ (fun a ha e => pts (e ▸ ha)) (lay_at tl gd.nd)
    refine ⟨.ref g.objs.size, _, ?_, rfl, k _ g.objs.size ts sm hp hts pts (fun c e => sm.free e) same upd_same atp⟩
    · refine I1.call' (s' := { s1 with heap := h' }) (ch := []) rfl ⟨fun c o e _ _ _ => kall c o e, fun c o e _ _ _ => ⟨o.slots, kall c o e⟩, fun c o e n _ => ?_, fun c o e _ => ⟨o, kall c o e⟩, fun c zs e => sm c _ e, fun c o u e => sm c _ e, fun c ps e => ⟨#[], by rw [sm c _ e]; simp⟩⟩ (fun c u e => ?_) I1.bare fun c z => by simp at z
      · rw [same c (fun z => ?_) (fun z => ?_)]
        · exact n
        · have lt : c < s1.heap.objs.size := Heap.lt_size e
          rw [z] at lt
          exact absurd (show (g.objs.size : Nat) < s1.heap.objs.size from lt) (by omega)
        · have lt : c < s1.heap.objs.size := Heap.lt_size e
          exact absurd (Nat.lt_of_le_of_lt (gd.far c z).1 lt) (show ¬ ((g.objs.size : Nat) < s1.heap.objs.size) by omega)
      · by_cases hb : c = g.objs.size
        · subst hb
          rw [upd_same] at e
          cases e
          refine ⟨by rw [List.length_map, hl, List.size_toArray, ← l1]; exact hzs, acc.toList, cap, by rw [hacc]; exact refs_vals ts, ?_⟩
          rw [Array.toArray_toList]
          exact e0
        · rw [upd_ne hb] at e
          rcases lay_cases e with e | ⟨j, r, e1, e2, e3⟩
          · exact (I1.hok c u e).stay (fun d o _ y => kall d o y) (fun d y => sm d _ y) fun d zs y => sm d _ y
          · subst e3
            have hj := gd.at_ j c e1
            obtain ⟨x, hx, y, hy, rfl⟩ : ∃ x, xs[j]? = some x ∧ ∃ y, ys[j]? = some y ∧ r = (x, y) := by
              rw [List.getElem?_zip_eq_some] at e2
              exact ⟨r.1, e2.1, r.2, e2.2, rfl⟩
            obtain ⟨v1, f1, g1⟩ := rv.get hx
            obtain ⟨v2, f2, g2⟩ := rv2.get hy
            have m1 : its.toArray[j]? = some v1 := by simpa using f1
            have m2 : its2.toArray[j]? = some v2 := by simpa using f2
            rw [m1, m2] at hj
            exact ⟨by show 2 ≤ sizeLine; decide, [v1, v2], .cons g1 (.cons g2 .nil), ⟨_, hj, rfl, _, rfl⟩⟩
    · have lt : c < s1.heap.objs.size := Heap.lt_size e
      have e' : c = s1.heap.objs.size + 4 ∨ c = s1.heap.objs.size + 3 ∨ c = s1.heap.objs.size ∨ c = s1.heap.objs.size + 1 := by simpa using q
      rcases e' with z | z | z | z
      · rw [z] at lt; exact absurd (show (s1.heap.objs.size + 4 : Nat) < s1.heap.objs.size from lt) (by omega)
      · rw [z] at lt; exact absurd (show (s1.heap.objs.size + 3 : Nat) < s1.heap.objs.size from lt) (by omega)
      · rw [z] at lt; exact absurd lt (Nat.lt_irrefl _)
      · rw [z] at lt; exact absurd (show (s1.heap.objs.size + 1 : Nat) < s1.heap.objs.size from lt) (by omega)
end MZ

set_option Elab.async false
set_option linter.all false
set_option maxRecDepth 100000
set_option maxHeartbeats 4000000
/-! MirEnum: for i, x in enumerate(t), t a tuple. -/
namespace ME
open PySem PySem.Spec
open AutoSeq1 (wpAny_loadPart')
theorem meets_new {v : Value} {o : Obj} {Hq : Heap → Prop} (B : Begins v o Hq) :
    Meets (Builtin.«enumerate.__new__» ⟨[.type "enumerate", v], []⟩) (fun _ R s => Hq s.heap ∧
      R (.ok (.ret (.ref (s.heap.push o).objs.size))) { s with heap := (s.heap.push o).push { cls := .type "enumerate", data := .fields #[.none, .bool false, .ref s.heap.objs.size, rawInt 0, .none, .none] } }) :=
  .of_wp fun prog w A R s h => by
    obtain ⟨hp, g, d, tk, os⟩ := s
    obtain ⟨hv, h⟩ := h
    have hsub := sub_enumerate
    have q1 : ∀ {A' : Around} {E : Value → Shared → Prop} {Q : Value → Shared → Prop}, Q (.ref hp.objs.size) ⟨hp.push o, g, d, tk, os⟩ → wpAny (model prog w) A' (pyIter v) Q E ⟨hp, g, d, tk, os⟩ := fun q => B.iter prog w _ _ ⟨hp, g, d, tk, os⟩ _ hv q
    wp_walk using q1
    refine wpAny_stack_any fun st => wpAny_pure ?_
    split
    · rename_i c _ _ _ _ _
      cases (c == Value.type "enumerate")
      · wp_walk using q1
        exact ⟨_, rfl, h⟩
      · wp_walk using q1
        exact ⟨_, rfl, h⟩
    · wp_walk using q1
      exact ⟨_, rfl, h⟩
theorem call_new {prog : Program} {w : World} {A : Around} {E : Value → Shared → Prop} {s : Shared} {v : Value} {o : Obj} {Hq : Heap → Prop} {Q : Value → Shared → Prop} (B : Begins v o Hq) (hv : Hq s.heap)
    (h : ∀ h', IsEnum h' (s.heap.objs.size + 1) s.heap.objs.size 0 .none → h'.get? s.heap.objs.size = some o → h'.objs.size = s.heap.objs.size + 2 → (∀ b o, s.heap.get? b = some o → h'.get? b = some o) → Q (.ref (s.heap.objs.size + 1)) { s with heap := h' }) :
    wpAny (model prog w) A (call (.type "enumerate") [v]) Q E s := by
  refine callType_new F.called_enumerate (by decide) (F.typeCall_enumerate_1 _) (F.newCall_enumerate_1 _) (fun obj => F.args_object_init_2 obj _) F.entry_enumerate_new (meets_new B) ⟨hv, ?_⟩
  have sz : (s.heap.push o).objs.size = s.heap.objs.size + 1 := Heap.size_push ..
  show _ ∧ _
  rw [sz]
  have he : IsEnum ((s.heap.push o).push { cls := .type "enumerate", data := .fields #[.none, .bool false, .ref s.heap.objs.size, rawInt 0, .none, .none] }) (s.heap.objs.size + 1) s.heap.objs.size 0 .none := by
    have q := Heap.get?_push_size (s.heap.push o) (o := { cls := .type "enumerate", data := .fields #[.none, .bool false, .ref s.heap.objs.size, rawInt 0, .none, .none] }) rfl
    rw [sz] at q
    exact q
  exact ⟨⟨_, he, rfl⟩, h _ he (Heap.get?_push_of_some _ (Heap.get?_push_size _ B.free)) (by rw [Heap.size_push, sz]) fun b o x => Heap.get?_push_of_some _ (Heap.get?_push_of_some _ x)⟩
open L2
/-- the tuple at a as it stands at each turn, each item in a new pair with its number -/
def ItE (K : PySem.W.Frag) (a : Addr) : It :=
  ⟨fun i H => ∃ (xs : List V) (x : V), SqT K H a xs ∧ xs[i]? = some x, fun i H v H' => ∃ T x, v = .ref T ∧ H T = none ∧ H' = upd H T (.tup [.int (i : Nat), x]) ∧ ∀ xs, SqT K H a xs → xs[i]? = some x, fun i H => ∃ xs : List V, SqT K H a xs ∧ xs.length ≤ i⟩
theorem turn {P : Program} {w : World} {K : PySem.W.Frag} {elts : List Expr} {kk : Nat} {tpos : Pos} (a e it : Addr) (na : a ≠ it) (ne : a ≠ e) (nei : e ≠ it) :
    Turn P w K (.Tuple elts kk tpos) (ItE K a) [e, it] e (fun i h => (∃ old, IsEnum h e it ((i : Nat) : Int) old) ∧ h.IsTupleIter it a i) where
  mem := by simp
  obj := fun i h st b hb => by
    obtain ⟨⟨old, he⟩, ⟨o, ho, hc, hd⟩⟩ := st
    have e' : b = e ∨ b = it := by simpa using hb
    rcases e' with z | z
    · rw [z]; exact ⟨_, he, fun v q => nomatch q⟩
    · rw [z]; exact ⟨o, ho, fun v q => by rw [hd] at q; cases q⟩
  keep := fun i h h' st k => let ⟨⟨old, he⟩, hi⟩ := st; ⟨⟨old, k e (by simp) _ he⟩, hi.at fun o q => k it (by simp) o q⟩
  item := by
    intro X hP hw hK hc i pins s σ H E I hf st hg
    subst hP hw hK
    obtain ⟨⟨old, he⟩, hit⟩ := st
    obtain ⟨xs, x, hq, hx⟩ := hg
    obtain ⟨its, rv, p, hz⟩ := I.tuple hq
    obtain ⟨u, hu, ru⟩ := rv.get hx
    have hul : its.toArray[i]? = some u := by simpa using hu
    have hlt : i < its.toArray.size := (Array.getElem?_eq_some_iff.mp hul).1
    have hel : e < s.heap.objs.size := Heap.lt_size he
    have hil : it < s.heap.objs.size := by obtain ⟨_, q, _⟩ := hit; exact Heap.lt_size q
    have D := Draws.tuple (prog := X.prog) (w := X.w) (A := X.A.in1) (I.ok.hd hc) it a na its.toArray
    refine wpAny_pyNext_enum_itemC (c := ((i : Nat) : Int)) D he ⟨hit, p⟩ hlt nei (by simp [nei, Ne.symm ne]) fun y h' tk hy ho st' hT hsz hk => ?_
    have ey : y = u := Option.some.inj (hy.symm.trans hul)
    subst ey
    refine ⟨_, rfl, wpAny_letOwnedTupleGo_enum (s := { s with heap := h', toks := tk + 1 }) ho fun h'' he' sb => ?_⟩
    have hT2 : h''.get? s.heap.objs.size = some { cls := .type "tuple", data := .seq #[.int i tk, y] } := (sb.2 _ (Nat.ne_of_gt hel)).trans hT
    have new : ObjOk X.prog X.w (upd H s.heap.objs.size (.tup [.int (i : Nat), x])) h'' s.heap.objs.size (.tup [.int (i : Nat), x]) :=
      ⟨by show 2 ≤ sizeLine; decide, [.int i tk, y], .cons ⟨_, rfl⟩ (.cons ru .nil), ⟨_, hT2, rfl, _, rfl⟩⟩
    have I1 : Inv X pins σ (upd H s.heap.objs.size (.tup [.int (i : Nat), x])) { s with heap := h'', toks := tk + 1 } :=
      I.turnedNew (ch := [e, it]) (fun b ob hb q => (sb.2 b (fun z => hb (by simp [z]))).trans (hk b ob (fun z => hb (by simp [z])) (fun z => hb (by simp [z])) q)) hf (Nat.le_refl _) new
    refine ⟨.ref s.heap.objs.size, _, I1, rfl, ⟨_, x, rfl, I.hok.fresh (Nat.le_refl _), rfl, fun ys hy => by rw [I.tuple_inj hy hq]; exact hx⟩, ⟨⟨y, ?_⟩, st'.1.at fun o q => (sb.2 it (Ne.symm nei)).trans q⟩, fun b hb => ?_⟩
    · have e1 : ((i + 1 : Nat) : Int) = (i : Int) + 1 := by omega
      rw [e1]
      exact he'
    · have hb' : b < s.heap.objs.size := by
        have e' : b = e ∨ b = it := by simpa using hb
        rcases e' with z | z
        · rw [z]; exact hel
        · rw [z]; exact hil
      rw [upd_ne (Nat.ne_of_lt hb')]
      exact (hf b hb).1
  done := by
    intro X hP hw hK hc i pins s σ H E I hf st hg
    subst hP hw hK
    obtain ⟨⟨old, he⟩, hit⟩ := st
    obtain ⟨xs, hq, hx⟩ := hg
    obtain ⟨its, rv, p, hz⟩ := I.tuple hq
    obtain ⟨f0, f1, f2, f3, f4, f5⟩ := hf it (by simp)
    have hl := rv.length
    have D := Draws.tuple (prog := X.prog) (w := X.w) (A := X.A.in1) (I.ok.hd hc) it a na its.toArray
    by_cases hi : i = its.toArray.size
    · subst hi
      exact wpAny_pyNext_enum_endD D he ⟨hit, p⟩ fun h' eb => ⟨rfl, I.turned (t' := s.toks) (fun b o hb q => eb b o hb q) f0 f1 f3 f4 f5⟩
    · have D0 : Draws X.prog X.w X.A.in1 it [it, a] i (fun _ _ => True) (fun j h => j = i ∧ h.IsTupleIter it a i ∧ h.IsTuple a its.toArray) := by
        refine ⟨fun j h st => let ⟨o, ho, _⟩ := st.2.1; ⟨o, ho⟩, fun j h h' st hk => ⟨st.1, st.2.1.at fun o q => hk it (by simp) o q, st.2.2.at fun o q => hk a (by simp) o q⟩, fun j s Q E hj st _ => absurd st.1 (Nat.ne_of_lt hj), fun s Q E st hE => ?_⟩
        have hn : its.toArray[i]? = none := Array.getElem?_eq_none (by rw [List.size_toArray]; omega)
        exact RZ.nextOf_tuple_end (I.ok.hd hc) st.2.1 st.2.2 hn hE
      exact wpAny_pyNext_enum_endD D0 he ⟨rfl, hit, p⟩ fun h' eb => ⟨rfl, I.turned (t' := s.toks) (fun b o hb q => eb b o hb q) f0 f1 f3 f4 f5⟩
  self := fun A i s Q E st h => let ⟨⟨_, he⟩, _⟩ := st; wpAny_pyIter_enum he h
def iEnumT (K : PySem.W.Frag) (ta : TA) : TI := fun σ H R => ta σ H fun vs H1 => ∃ a xs, vs = [.ref a] ∧ SqT K H1 a xs ∧ R (ItE K a) H1
open PyProof.Rows in
theorem pi_enumT {X : Cx} {e : Expr} {ta : TA} {p pos tpos : Pos} {elts : List Expr} {kk : Nat} (hg : Gl X "enumerate") (hm : X.mg "enumerate" = none) (ha : PA X [e] ta) (hs : starEach [e] X.env = [(false, eval e X.env)] := by rfl) :
    PI X (.Tuple elts kk tpos) (.Call (.Name "enumerate" p) [e] [] pos) (iEnumT X.K ta) := by
  refine ⟨fun pins s σ H R I h => ?_⟩
  refine Call_ (ld_blt I hg hm PyProof.Rows.boot_enumerate (PyProof.Rows.callWith_type1 (thn (ha.run pos pins s σ H _ I h) fun us s1 ⟨vs, H1, I1, r1, q1⟩ => ?_) hs rfl))
  obtain ⟨a, xs, ex, hq, q⟩ := q1
  subst ex
  obtain ⟨u, rfl, r⟩ := vals1 r1
  cases r
  obtain ⟨its, rv, p', hz⟩ := I1.tuple hq
  obtain ⟨oa, hoa, _⟩ := id p'
  have la : a < s1.heap.objs.size := Heap.lt_size hoa
  refine call_new (begins_tuple a its.toArray) p' fun h' he hit hsz hk => wpAny_pyIter_enum he ?_
  have I2 : Inv X pins σ H1 { s1 with heap := h' } := I1.kept (t' := s1.toks) hk
  refine ⟨s1.heap.objs.size + 1, [s1.heap.objs.size + 1, s1.heap.objs.size], _, _, H1, rfl, I2, turn a (s1.heap.objs.size + 1) s1.heap.objs.size (Nat.ne_of_lt la) (Nat.ne_of_lt (Nat.lt_succ_of_lt la)) (Nat.succ_ne_self _), ⟨⟨.none, he⟩, ⟨_, hit, rfl, rfl⟩⟩, fun b hb => ?_, q⟩
  have e' : b = s1.heap.objs.size + 1 ∨ b = s1.heap.objs.size := by simpa using hb
  have hle : s1.heap.objs.size ≤ b := by
    rcases e' with z | z
    · rw [z]; exact Nat.le_add_right _ _
    · rw [z]; exact Nat.le_refl _
  exact I1.fpOk hle (I1.hok.fresh hle)
end ME

set_option Elab.async false
set_option linter.all false
set_option maxRecDepth 100000
set_option maxHeartbeats 1000000
/-! Mir: isinstance, list(zip), pop, calls of the text's own defs. -/
namespace Mir
open PySem PySem.Spec L2

/-! ### isinstance -/
inductive Ty where
  | int | bool | str | tuple | list | dict
def Ty.name : Ty → String
  | .int => "int"
  | .bool => "bool"
  | .str => "str"
  | .tuple => "tuple"
  | .list => "list"
  | .dict => "dict"
/-- the kinds of what is not an object of one's own -/
inductive Kd where
  | non | bool | int | str | tuple | list
def Kd.name : Kd → String
  | .non => "NoneType"
  | .bool => "bool"
  | .int => "int"
  | .str => "str"
  | .tuple => "tuple"
  | .list => "list"
def kdOf : Dv → Option Kd
  | .non => some .non
  | .bl _ => some .bool
  | .int _ => some .int
  | .str _ => some .str
  | .tup _ => some .tuple
  | .lst _ => some .list
  | .scr _ => some .list
  | _ => none
def kdIs : Kd → Ty → Bool
  | .bool, .bool => true
  | .bool, .int => true
  | .int, .int => true
  | .str, .str => true
  | .tuple, .tuple => true
  | .list, .list => true
  | _, _ => false
theorem kd_kit (k : Kd) (T : Ty) : kitB k.name T.name = some (kdIs k T) := by cases k <;> cases T <;> decide +kernel
theorem pv_ty {K : PySem.W.Frag} {ι : List Addr} {F H : Hp} {d : Dv} {v : V} {k : Kd} (sm : Same F H) (r : PV K ι F H d v) (h : kdOf d = some k) : TyX K H v (.type k.name) := by
  cases d with
  | non => cases r; cases h; exact .base .non
  | bl b => cases r; cases h; exact .base (.bl b)
  | int i => cases r; cases h; exact .base (.int i)
  | str x => cases r; cases h; exact .base (.str x)
  | tup ds =>
    obtain ⟨a, vs, rfl, hs, _⟩ := r
    cases h
    rcases same_t sm hs with (q | ⟨o, q⟩) | ⟨o, its, n, q1, q2, _⟩
    · exact .base (.tup q)
    · exact .fTuple q
    · exact .kTuple q1 q2
  | lst ds =>
    obtain ⟨a, vs, rfl, hs, _⟩ := r
    cases h
    rcases hs with q | ⟨o, q⟩
    · exact .base (.lst q)
    · exact .base (.frz q)
  | scr ns =>
    obtain ⟨a, rfl, hs⟩ := r
    cases h
    rcases hs with (q | ⟨o, q⟩) | ⟨o, its, n, q1, q2, _⟩
    · exact .base (.lst q)
    · exact .base (.frz q)
    · exact .kList q1 q2
  | _ => cases h
def gIsi (T : Ty) (d : Dv) : Option Dv := (kdOf d).map fun k => .bl (kdIs k T)
def gIsiA (Ts : List Ty) (d : Dv) : Option Dv := (kdOf d).map fun k => .bl (Ts.any (kdIs k))
/-- of a class of the text: nothing plain is one -/
def gIsiC (d : Dv) : Option Dv := (kdOf d).map fun _ => .bl false
def NoKd (K : PySem.W.Frag) (C : Addr) : Prop := ∀ k : Kd, PySem.W.kitOne K (.type k.name) (.ref C) = some false
section
variable {X : Cx} {E : XE} {σ : L2.St} {H : Hp} {Q : VK} {a b e : Expr} {es : List Expr} {m ma mb : Mo Dv} {x : Str} {p p2 p3 pos : Pos}
theorem se_isi (T : Ty) (he : PE X e (tI X.K E m)) (hm : X.mg "isinstance" = none) (hT : X.mg (Str.ofString T.name) = none) (hg : Gl X "isinstance" := by rfl) (hg2 : Gl X (Str.ofString T.name) := by rfl) (hv : bootBuiltins (Str.ofString T.name) = some (.type T.name) := by decide +kernel)
    (hn : Str.ofString T.name ≠ "__name__" := by decide) (hd : (Str.ofString T.name == ("__debug__" : Str)) = false := by decide)
    (hs : starEach [e, .Name (Str.ofString T.name) p2] X.env = (false, eval e X.env) :: starEach [.Name (Str.ofString T.name) p2] X.env := by rfl) (hs2 : starEach [.Name (Str.ofString T.name) p2] X.env = (false, eval (.Name (Str.ofString T.name) p2) X.env) :: starEach [] X.env := by rfl) (hpl : (backTo pos (starEach [.Name (Str.ofString T.name) p2] X.env)).any (·.1) = false := by rfl) :
    PE X (.Call (.Name "isinstance" p) [e, .Name (Str.ofString T.name) p2] [] pos) (tI X.K E (mU (gIsi T) m)) := by
  refine PE.imp (pe_callB call_isi hg hm (by decide +kernel) (pa_cons he (pa_cons (pe_bltn (v := .ty T.name) hg2 hT hv rfl hn hd) pa_nil hs2) hs) (by decide) (by decide) hs hpl) fun σ H Q h => (u_to h).imp fun v H1 ⟨s, ι, F, d, z, st, px, hg, o⟩ => ?_
  obtain ⟨k, h1, rfl⟩ := Option.map_eq_some_iff.mp hg
  exact ⟨v, .ty T.name, _, _, _, rfl, .ty T.name, pv_ty st.hs.le px h1, kit_ty (kd_kit k T), out_rep st o (.bl _)⟩
theorem se_isiC {C : Addr} (he : PE X e (tI X.K E m)) (hm : X.mg "isinstance" = none) (hC : X.mg x = some (.ref C)) (hK : NoKd X.K C) (hg : Gl X "isinstance" := by rfl) (hg2 : Gl X x := by rfl) (hd : (x == ("__debug__" : Str)) = false := by decide)
    (hs : starEach [e, .Name x p2] X.env = (false, eval e X.env) :: starEach [.Name x p2] X.env := by rfl) (hs2 : starEach [.Name x p2] X.env = (false, eval (.Name x p2) X.env) :: starEach [] X.env := by rfl) (hpl : (backTo pos (starEach [.Name x p2] X.env)).any (·.1) = false := by rfl) :
    PE X (.Call (.Name "isinstance" p) [e, .Name x p2] [] pos) (tI X.K E (mU gIsiC m)) := by
  refine PE.imp (pe_callB call_isi hg hm (by decide +kernel) (pa_cons he (pa_cons (pe_glob (v := .ref C) hg2 hC rfl hd) pa_nil hs2) hs) (by decide) (by decide) hs hpl) fun σ H Q h => (u_to h).imp fun v H1 ⟨s, ι, F, d, z, st, px, hg, o⟩ => ?_
  obtain ⟨k, h1, rfl⟩ := Option.map_eq_some_iff.mp hg
  exact ⟨v, .ref C, _, _, false, rfl, .own C, pv_ty st.hs.le px h1, hK k, out_rep st o (.bl _)⟩
/-- the names of built-in classes, written as a tuple -/
structure PTy (X : Cx) (es : List Expr) (Ts : List Ty) : Prop where
  pa : PA X es (fun _ H Q => Q (Ts.map fun T => .ty T.name) H)
theorem pty_nil : PTy X [] [] := ⟨PA.imp pa_nil fun σ H Q h => h⟩
theorem pty_cons (T : Ty) {Ts : List Ty} (hr : PTy X es Ts) (hT : X.mg (Str.ofString T.name) = none) (hg2 : Gl X (Str.ofString T.name) := by rfl) (hv : bootBuiltins (Str.ofString T.name) = some (.type T.name) := by decide +kernel)
    (hn : Str.ofString T.name ≠ "__name__" := by decide) (hd : (Str.ofString T.name == ("__debug__" : Str)) = false := by decide)
    (hs : starEach (.Name (Str.ofString T.name) p2 :: es) X.env = (false, eval (.Name (Str.ofString T.name) p2) X.env) :: starEach es X.env := by rfl) : PTy X (.Name (Str.ofString T.name) p2 :: es) (T :: Ts) :=
  ⟨PA.imp (pa_cons (pe_bltn (v := .ty T.name) hg2 hT hv rfl hn hd) hr.pa hs) fun σ H Q h => h⟩
theorem any_kit {K : PySem.W.Frag} (k : Kd) : ∀ Ts : List Ty, PySem.W.kitAny K (.type k.name) (Ts.map fun T => .type T.name) = some (Ts.any (kdIs k))
  | [] => kitAny_nil
  | T :: Ts => by
    rw [List.any_cons]
    exact kitAny_cons (kit_ty (kd_kit k T)) (fun hb => by rw [hb, Bool.false_or]; exact any_kit k Ts) (fun hb => by rw [hb, Bool.true_or])
theorem ty_clsv : ∀ Ts : List Ty, Paired ClsV (Ts.map fun T => V.ty T.name) (Ts.map fun T => Value.type T.name)
  | [] => .nil
  | T :: Ts => .cons (.ty T.name) (ty_clsv Ts)
theorem TyX.laid {K : PySem.W.Frag} {ι : List Addr} {F H : Hp} {d : Dv} {v : V} {k : Kd} {q : Addr} {o : HO} (sm : Same F H) (hq : H q = none) (r : PV K ι F H d v) (h : kdOf d = some k) : TyX K (upd H q o) v (.type k.name) := by
  have sm2 : Same H (upd H q o) := same_upd hq
  refine pv_ty (ι := ι) (F := F) (d := d) (sm.trans sm2) ?_ h
  cases d with
  | lst ds => obtain ⟨a, vs, rfl, hs, rs⟩ := r; exact ⟨a, vs, rfl, same_rd sm2 hs, rs⟩
  | scr ns => obtain ⟨a, rfl, hs⟩ := r; exact ⟨a, rfl, Same.seq sm2 hs⟩
  | _ => exact r
theorem se_isiA {Ts : List Ty} {k2 : Nat} (he : PE X e (tI X.K E m)) (ht : PTy X es Ts) (hl : Ts.length ≤ 10) (hm : X.mg "isinstance" = none) (hg : Gl X "isinstance" := by rfl)
    (hs : starEach [e, .Tuple es k2 p3] X.env = (false, eval e X.env) :: starEach [.Tuple es k2 p3] X.env := by rfl) (hs2 : starEach [.Tuple es k2 p3] X.env = (false, eval (.Tuple es k2 p3) X.env) :: starEach [] X.env := by rfl) (hpl : (backTo pos (starEach [.Tuple es k2 p3] X.env)).any (·.1) = false := by rfl) :
    PE X (.Call (.Name "isinstance" p) [e, .Tuple es k2 p3] [] pos) (tI X.K E (mU (gIsiA Ts) m)) := by
  refine PE.imp (pe_callB call_isiT hg hm (by decide +kernel) (pa_cons he (pa_cons (pe_tup ht.pa) pa_nil hs2) hs) (by decide) (by decide) hs hpl) fun σ H Q h => (u_to h).imp fun v H1 ⟨s, ι, F, d, z, st, px, hg, o⟩ => ?_
  obtain ⟨k, h1, rfl⟩ := Option.map_eq_some_iff.mp hg
  refine ⟨by rw [List.length_map, lim_eq]; unfold lim; omega, fun q hq => ?_⟩
  exact ⟨v, q, _, _, _, _, rfl, upd_same, ty_clsv Ts, TyX.laid st.hs.le hq px h1, any_kit k Ts, o ι F _ (Post.laid hq) (st.laid hq) _ (Rep.bl _) True.intro⟩

/-! ### list(zip(t, u)) -/
def zipD : List Dv → List Dv → List Dv
  | d :: ds, e :: es => .tup [d, e] :: zipD ds es
  | _, _ => []
def gZip : Dv → Dv → Option Dv
  | .tup xs, .tup ys => if xs.length = ys.length then some (.tmp (zipD xs ys)) else none
  | _, _ => none
theorem zip_reps {K : PySem.W.Frag} {ι : List Addr} {F F' : Hp} (sm : Same F F') : ∀ {ds es : List Dv} {vs us : List V} {ts : List Addr}, Reps K ι F ds vs → Reps K ι F es us → Paired (fun (t : Addr) (q : V × V) => F' t = some (.tup [q.1, q.2])) ts (vs.zip us) → Reps K ι F' (zipD ds es) (ts.map V.ref)
  | [], _, _, _, _, .nil, _, h => by
    cases h
    exact .nil
  | _ :: _, [], _, _, _, .cons _ _, .nil, h => by
    cases h
    exact .nil
  | d :: ds, e :: es, _, _, _, .cons r rs, .cons q qs, h => by
    cases h with
    | cons h1 h2 => exact .cons (.tup (.inl (.inl h1)) (.cons (r.mono (List.prefix_refl _) sm) (.cons (q.mono (List.prefix_refl _) sm) .nil))) (zip_reps sm rs qs h2)
theorem se_listZip {q : Pos} (hc : X.calm = true) (ha : PE X a (tI X.K E ma)) (hb : PE X b (tI X.K E mb)) (hm : X.mg "list" = none) (hm2 : X.mg "zip" = none) (hg : Gl X "list" := by rfl) (hg2 : Gl X "zip" := by rfl)
    (hs : starEach [a, b] X.env = (false, eval a X.env) :: starEach [b] X.env := by rfl) (hs2 : starEach [b] X.env = (false, eval b X.env) :: starEach [] X.env := by rfl) (hpl : (backTo q (starEach [b] X.env)).any (·.1) = false := by rfl)
    (hs1 : starEach [.Call (.Name "zip" p2) [a, b] [] q] X.env = (false, eval (.Call (.Name "zip" p2) [a, b] [] q) X.env) :: starEach [] X.env := by rfl) :
    PE X (.Call (.Name "list" p) [.Call (.Name "zip" p2) [a, b] [] q] [] pos) (tI X.K E (mBin gZip ma mb)) := by
  refine PE.imp (MZ.pe_listZip hc hg hm hg2 hm2 (pa_cons ha (pa_cons hb pa_nil hs2) hs) hs hpl hs1) fun σ H Q h => ?_
  obtain ⟨s, ι, F, st, h⟩ := h
  refine ⟨s, ι, F, st, h.bind.imp fun d s1 ι1 F1 H1 ⟨p1, st1, h1⟩ v rv nv => ?_⟩
  refine ⟨s1, ι1, F1, st1, h1.bind.imp fun e s2 ι2 F2 H2 ⟨p2, st2, h2⟩ w rw' nw => ?_⟩
  obtain ⟨z, hz, k⟩ := leaf_lift2 h2
  have px := peek_pv st2 (rv.mono p2)
  have py := peek_pv st2 rw'
  revert hz px py
  cases peek s2 d with
  | tup xs =>
    cases peek s2 e with
    | tup ys =>
      intro hz px py
      unfold gZip at hz
      simp only at hz
      · split at hz
        · rename_i hl
          cases hz
          obtain ⟨a', vs, rfl, k1, r1⟩ := px
          obtain ⟨b', us, rfl, k2, r2⟩ := py
          refine ⟨a', b', vs, us, rfl, same_t st2.hs.le k1, same_t st2.hs.le k2, by rw [r1.length, r2.length]; exact hl, fun H' p ts sm hp hts pts dm off ep at_ => ?_⟩
          -- the frozen part behind it: the pairs alone
          let F' : Hp := fun c => if c ∈ ts then H' c else F2 c
          have in_ : ∀ c, c ∈ ts → F2 c = none := fun c hc => st2.hs.le.free (hts c hc)
          have fF : Same F2 F' := fun c o e => by
            have nc : c ∉ ts := fun z => by rw [in_ c z] at e; cases e
            show (if c ∈ ts then H' c else F2 c) = some o
            rw [if_neg nc]
            exact e
          have le' : Same F' H' := fun c o e => by
            have e' : (if c ∈ ts then H' c else F2 c) = some o := e
            by_cases hc : c ∈ ts
            · rw [if_pos hc] at e'
              exact e'
            · rw [if_neg hc] at e'
              exact sm c o (st2.hs.le c o e')
          have off' : ∀ c, c ∉ ts → F' c = F2 c := fun c hc => if_neg hc
          have iT : ∀ c, c ∈ ι2 → c ∉ ts := fun c hc z => st2.cellAt hc (hts c z)
          have st' : Sta X.K σ s2 ι2 F' H' := by
            refine ⟨⟨le', st2.hs.len, st2.hs.nd, fun c hc => by rw [off' c (iT c hc)]; exact st2.hs.out c hc, fun i c ds h1 h2 => ?_⟩, st2.len, fun i d h => ?_, fun i ds h => ?_, st2.apart⟩
            · obtain ⟨ws, h3, h4⟩ := st2.hs.cell i c ds h1 h2
              exact ⟨ws, sm _ _ h3, h4.mono (List.prefix_refl _) fF⟩
            · obtain ⟨w, h1, h2⟩ := st2.val i d h
              exact ⟨w, h1, h2.mono (List.prefix_refl _) fF⟩
            · obtain ⟨c, ws, h1, h2, h3, h4, h5⟩ := st2.own i ds h
              have nc : c ∉ ts := fun z => by rw [hts c z] at h4; cases h4
              exact ⟨c, ws, h1, by rw [off' c nc]; exact h2, h3, sm _ _ h4, h5.mono (List.prefix_refl _) fF⟩
          have po : Post σ s2 s2 ι2 ι2 F2 F' H2 H' :=
            ⟨List.prefix_refl _, fF, fun c h n => by rw [off' c fun z => n (hts c z)]; exact h, fun c h n => (n h).elim, dm, fun c o h _ _ => sm c o h, fun _ => Iff.rfl⟩
          have at2 : Paired (fun (t : Addr) (q : V × V) => F' t = some (.tup [q.1, q.2])) ts (vs.zip us) := by
            have all : ∀ (as : List Addr) (rs : List (V × V)), (∀ c ∈ as, c ∈ ts) → Paired (fun (t : Addr) (q : V × V) => H' t = some (.tup [q.1, q.2])) as rs → Paired (fun (t : Addr) (q : V × V) => F' t = some (.tup [q.1, q.2])) as rs := by
              intro as rs hin pr
              induction pr with
              | nil => exact .nil
              | cons e _ ih => exact .cons ((if_pos (hin _ List.mem_cons_self)).trans e) (ih fun c hc => hin c (List.mem_cons_of_mem _ hc))
            exact all ts _ (fun _ hc => hc) at_
          refine k ι2 F' H' po st' (.ref p) ⟨p, _, rfl, ep, ?_, fun z => st2.cellAt z hp, fun z => (st2.ownAt z).2.2 hp, zip_reps fF r1 r2 at2⟩ fun c e => ?_
          · rw [off' p pts]
            exact st2.hs.le.free hp
          · cases e
            exact p1.dom p (p2.dom p hp)
        · cases hz
    | _ => intro hz; cases hz
  | _ => intro hz; cases hz
end
end Mir

set_option Elab.async false
set_option linter.all false
set_option maxRecDepth 100000
set_option maxHeartbeats 1000000
/-! Mir: lists that change, shared cells, calls of the text's own defs. -/
namespace Mir
open PySem PySem.Spec L2

/-! ### lists that change: of a slot, of a cell -/
def getL (s : Mem) : Dv → Option (List Dv)
  | .own i => match s.env[i]? with
    | some (some (.own ds)) => some ds
    | _ => none
  | .ref i => match s.hp[i]? with
    | some (.lst ds) => some ds
    | none => none
  | _ => none
def setL (s : Mem) (d : Dv) (es : List Dv) : Mem := match d with
  | .own i => { s with env := s.env.set i (some (.own es)) }
  | .ref i => { s with hp := s.hp.set i (.lst es) }
  | _ => s
section
variable {K : PySem.W.Frag} {E : XE} {σ : L2.St} {s s1 s2 : Mem} {ι ι1 ι2 : List Addr} {F F1 F2 H H1 H2 : Hp} {d e z : Dv} {v w : V} {p : Addr} {Q : VK} {ds es : List Dv}
theorem setL_ok (st : Sta K σ s ι F H) (r : VR K σ s ι F H d v) (hg : getL s d = some ds) :
    ∃ a vs, v = .ref a ∧ H a = some (.lst vs) ∧ Reps K ι F ds vs ∧ ∀ es ws, Reps K ι F es ws → Post σ s (setL s d es) ι ι F F H (upd H a (.lst ws)) ∧ Sta K σ (setL s d es) ι F (upd H a (.lst ws)) := by
  cases d with
  | own i =>
    obtain ⟨a, ds', h1, h2, rfl⟩ := r
    have e0 : getL s (.own i) = some ds' := by simp only [getL, h1]
    rw [e0] at hg
    obtain rfl := Option.some.inj hg
    obtain ⟨a', vs, h3, h4, h5, h6, h7⟩ := st.own i ds' h1
    rw [h2] at h3
    cases h3
    have hi : i < s.env.length := (List.getElem?_eq_some_iff.mp h1).1
    refine ⟨a, vs, rfl, h6, h7, fun es ws rs => ?_⟩
    have at_ : ∀ (j : Nat) (x : Option Sl), (setL s (.own i) es).env[j]? = some x → (j = i ∧ x = some (.own es)) ∨ (j ≠ i ∧ s.env[j]? = some x) := fun j x hx => by
      have hx' : (s.env.set i (some (.own es)))[j]? = some x := hx
      by_cases e : j = i
      · subst e
        rw [List.getElem?_set_self hi] at hx'
        exact .inl ⟨rfl, (Option.some.inj hx').symm⟩
      · rw [List.getElem?_set_ne (Ne.symm e)] at hx'
        exact .inr ⟨e, hx'⟩
    have pos : Post σ s (setL s (.own i) es) ι ι F F H (upd H a (.lst ws)) := by
      refine ⟨List.prefix_refl _, Same.refl _, fun _ h _ => h, fun _ h n => (n h).elim, fun b h => ?_, fun b o h n1 n2 => ?_, fun j => ⟨fun ⟨xs, hx⟩ => ?_, fun ⟨xs, hx⟩ => ?_⟩⟩
      · by_cases e : b = a
        · rw [e, upd_same] at h; cases h
        · rw [upd_ne e] at h; exact h
      · have e : b ≠ a := fun e => n2 ⟨i, ds', h1, by rw [e]; exact h2⟩
        rw [upd_ne e]
        exact h
      · rcases at_ j _ hx with ⟨e1, _⟩ | ⟨_, e2⟩
        · exact ⟨ds', e1 ▸ h1⟩
        · exact ⟨xs, e2⟩
      · by_cases e : j = i
        · exact ⟨es, by show (s.env.set i (some (.own es)))[j]? = _; rw [e, List.getElem?_set_self hi]⟩
        · exact ⟨xs, by show (s.env.set i (some (.own es)))[j]? = _; rw [List.getElem?_set_ne (Ne.symm e)]; exact hx⟩
    refine ⟨pos, ⟨⟨fun b o h => ?_, st.hs.len, st.hs.nd, st.hs.out, fun j b xs g1 g2 => ?_⟩, ?_, fun j x hx => ?_, fun j xs hx => ?_, fun j k b xs ys g1 g2 g3 g4 => ?_⟩⟩
    · have e : b ≠ a := fun e => by rw [e, h4] at h; cases h
      rw [upd_ne e]
      exact st.hs.le b o h
    · obtain ⟨us, g3, g4⟩ := st.hs.cell j b xs g1 g2
      have e : b ≠ a := fun e => h5 (e ▸ List.mem_of_getElem? g1)
      exact ⟨us, by rw [upd_ne e]; exact g3, g4⟩
    · show (s.env.set i (some (.own es))).length = σ.length
      rw [List.length_set]
      exact st.len
    · rcases at_ j _ hx with ⟨_, e2⟩ | ⟨_, e2⟩
      · cases e2
      · exact st.val j x e2
    · rcases at_ j _ hx with ⟨e1, e2⟩ | ⟨e1, e2⟩
      · cases e2
        exact ⟨a, ws, e1 ▸ h2, h4, h5, upd_same, rs⟩
      · obtain ⟨b, us, g1, g2, g3, g4, g5⟩ := st.own j xs e2
        have ne : b ≠ a := fun e => e1 (st.apart j i a _ _ e2 h1 (e ▸ g1) h2)
        exact ⟨b, us, g1, g2, g3, by rw [upd_ne ne]; exact g4, g5⟩
    · have own_of : ∀ (j : Nat) (xs : List Dv), (setL s (.own i) es).env[j]? = some (some (.own xs)) → ∃ ys, s.env[j]? = some (some (.own ys)) := fun j xs hx => (pos.shape j).mp ⟨xs, hx⟩
      obtain ⟨xs', q1⟩ := own_of j xs g1
      obtain ⟨ys', q2⟩ := own_of k ys g2
      exact st.apart j k b _ _ q1 q2 g3 g4
  | ref i =>
    have r' : Rep K ι F (.ref i) v := r
    cases r' with
    | @ref _ a hi =>
    cases hc : s.hp[i]? with
    | none =>
      have e0 : getL s (.ref i) = none := by simp only [getL, hc]
      rw [e0] at hg
      cases hg
    | some c =>
      cases c with
      | lst ds' =>
        have e0 : getL s (.ref i) = some ds' := by simp only [getL, hc]
        rw [e0] at hg
        obtain rfl := Option.some.inj hg
        obtain ⟨vs, h6, h7⟩ := st.hs.cell i a ds' hi hc
        have hil : i < s.hp.length := (List.getElem?_eq_some_iff.mp hc).1
        have h4 : F a = none := st.hs.out a (List.mem_of_getElem? hi)
        refine ⟨a, vs, rfl, h6, h7, fun es ws rs => ⟨⟨List.prefix_refl _, Same.refl _, fun _ h _ => h, fun _ h n => (n h).elim, fun b h => ?_, fun b o h n1 n2 => ?_, fun j => Iff.rfl⟩, ⟨⟨fun b o h => ?_, ?_, st.hs.nd, st.hs.out, fun j b xs g1 g2 => ?_⟩, st.len, st.val, fun j xs hx => ?_, st.apart⟩⟩⟩
        · by_cases e : b = a
          · rw [e, upd_same] at h; cases h
          · rw [upd_ne e] at h; exact h
        · have e : b ≠ a := fun e => n1 (e ▸ List.mem_of_getElem? hi)
          rw [upd_ne e]
          exact h
        · have e : b ≠ a := fun e => by rw [e, h4] at h; cases h
          rw [upd_ne e]
          exact st.hs.le b o h
        · show ι.length = (s.hp.set i (.lst es)).length
          rw [List.length_set]
          exact st.hs.len
        · have g2' : (s.hp.set i (.lst es))[j]? = some (.lst xs) := g2
          by_cases e : j = i
          · subst e
            rw [List.getElem?_set_self hil] at g2'
            cases g2'
            rw [hi] at g1
            cases g1
            exact ⟨ws, upd_same, rs⟩
          · rw [List.getElem?_set_ne (Ne.symm e)] at g2'
            obtain ⟨us, g3, g4⟩ := st.hs.cell j b xs g1 g2'
            have ne : b ≠ a := fun q => e (nd_ix st.hs.nd g1 (q ▸ hi))
            exact ⟨us, by rw [upd_ne ne]; exact g3, g4⟩
        · obtain ⟨b, us, g1, g2, g3, g4, g5⟩ := st.own j xs hx
          have ne : b ≠ a := fun e => g3 (e ▸ List.mem_of_getElem? hi)
          exact ⟨b, us, g1, g2, g3, by rw [upd_ne ne]; exact g4, g5⟩
  | _ => cases hg
theorem getL_ty (st : Sta K σ s ι F H) (r : VR K σ s ι F H d v) (hg : getL s d = some ds) : tyV K "list" v H := by
  obtain ⟨a, vs, rfl, h, _⟩ := setL_ok st r hg
  exact .inl ⟨rfl, vs, .inl (.inl h)⟩
end
def isL (m : Mo Dv) : Mo Dv := m.bind fun d s => match getL s d with
  | some _ => .ok d s
  | none => .no
def mPop (m : Mo Dv) : Mo Dv := m.bind fun d s => match getL s d with
  | some ds => match ds[ds.length - 1]? with
    | some z => .ok z (setL s d ds.dropLast)
    | none => .no
  | none => .no
def mApp (m me : Mo Dv) : Mo Dv := (isL m).bind fun d => (mFrz me).bind fun e s => match getL s d with
  | some ds => if ds.length < lim then .ok .non (setL s d (ds ++ [e])) else .no
  | none => .no
section
variable {X : Cx} {E : XE} {σ : L2.St} {H : Hp} {Q : VK} {a b e o : Expr} {es : List Expr} {m ma mb me : Mo Dv} {x : Str} {p p2 p3 pos apos cpos : Pos}
theorem isL_to {K : PySem.W.Frag} {s : Mem} {ι : List Addr} {F : Hp} {Q : Dv → Mem → List Addr → Hp → Hp → Prop} (h : Leaf K E (isL m) σ s ι F H Q) :
    Leaf K E m σ s ι F H fun d s1 ι1 F1 H1 => Post σ s s1 ι ι1 F F1 H H1 ∧ Sta K σ s1 ι1 F1 H1 ∧ (getL s1 d).isSome = true ∧ Q d s1 ι1 F1 H1 :=
  h.bind.imp fun d s1 ι1 F1 H1 ⟨p1, st1, h1⟩ => by
    unfold Leaf at h1
    dsimp only at h1
    cases hg : getL s1 d with
    | none => rw [hg] at h1; exact h1.elim
    | some ds =>
      rw [hg] at h1
      exact ⟨p1, st1, rfl, h1 ι1 F1 H1 Post.refl st1⟩
theorem se_pop (ho : PE X o (tI X.K E m)) (hbase : attributeBase o "pop" X.env (eval o X.env) = eval o X.env := by rfl) (hline : (apos.endLine == cpos.line) = true := by rfl) : PE X (.Call (.Attribute o "pop" apos) [] [] cpos) (tI X.K E (mPop m)) := by
  refine PE.imp (pe_bm0 PySem.F.plainAttrs_list PySem.F.slot_list_pop PySem.F.type_list_pop mt_pop ho hbase hline) fun σ H Q h => ?_
  obtain ⟨s, ι, F, st, h⟩ := h
  refine ⟨s, ι, F, st, h.bind.imp fun d s1 ι1 F1 H1 ⟨p1, st1, h1⟩ v rv nv => ?_⟩
  unfold Leaf at h1
  dsimp only at h1
  cases hg : getL s1 d with
  | none => rw [hg] at h1; exact h1.elim
  | some ds =>
    rw [hg] at h1
    simp only at h1
    refine ⟨getL_ty st1 rv hg, ?_⟩
    obtain ⟨a, vs, rfl, h2, h3, h4⟩ := setL_ok st1 rv hg
    cases hz : ds[ds.length - 1]? with
    | none => rw [hz] at h1; exact h1.elim
    | some z =>
      rw [hz] at h1
      obtain ⟨y, hy, ry⟩ := h3.get hz
      obtain ⟨p2, st2⟩ := h4 ds.dropLast vs.dropLast h3.dropLast
      rw [← h3.length] at hy
      refine ⟨a, vs, y, rfl, rfl, h2, hy, h1 ι1 F1 _ p2 st2 y (rep_vr ry) (rep_new ry)⟩
theorem se_app (ho : PE X o (tI X.K E m)) (he : PE X e (tI X.K E me)) (hbase : attributeBase o "append" X.env (eval o X.env) = eval o X.env := by rfl)
    (hfew : ((backTo cpos (starEach [e] X.env)).all (fun x => !x.1) && (backToKw cpos (keywordEach [] X.env)).all (fun x => x.1.isSome) && decide ([e].length + ([] : List Keyword).length + (if ([] : List Keyword).isEmpty then 0 else 1) < 30)) = true := by rfl)
    (hline : (apos.endLine == cpos.line) = true := by rfl) (hs : starEach [e] X.env = (false, eval e X.env) :: starEach [] X.env := by rfl) : PE X (.Call (.Attribute o "append" apos) [e] [] cpos) (tI X.K E (mApp m me)) := by
  refine PE.imp (pe_bm PySem.F.plainAttrs_list PySem.F.slot_list_append PySem.F.type_list_append mt_append ho (pa_cons he pa_nil hs) hbase hfew hline hs rfl) fun σ H Q h => ?_
  obtain ⟨s, ι, F, st, h⟩ := h
  refine ⟨s, ι, F, st, (isL_to h.bind).imp fun d s1 ι1 F1 H1 ⟨p1, st1, hs1, _, _, h1⟩ v rv nv => ?_⟩
  obtain ⟨ds0, hg0⟩ := Option.isSome_iff_exists.mp hs1
  refine ⟨getL_ty st1 rv hg0, s1, ι1, F1, st1, (frz_to h1.bind).imp fun e0 s2 ι2 F2 H2 ⟨p2, st2, h2⟩ w rw' nw => ?_⟩
  obtain ⟨e, F3, p3, st3, re, _, _, h3⟩ := h2 w rw' nw
  unfold Leaf at h3
  dsimp only at h3
  have rv3 := rv.mono p3
  cases hg : getL s2 d with
  | none => rw [hg] at h3; exact h3.elim
  | some ds =>
    rw [hg] at h3
    simp only at h3
    by_cases hl : ds.length < lim
    · rw [if_pos hl] at h3
      obtain ⟨a, vs, rfl, k2, k3, k4⟩ := setL_ok st3 rv3 hg
      obtain ⟨q1, q2⟩ := k4 (ds ++ [e]) (vs ++ [w]) (k3.append (.cons re .nil))
      exact ⟨a, vs, w, rfl, rfl, k2, by rw [k3.length, lim_eq]; exact hl, h3 ι2 F3 _ q1 q2 _ (Rep.non) True.intro⟩
    · rw [if_neg hl] at h3
      exact h3.elim

/-! ### what is just made becomes a shared cell -/
def mShr (m : Mo Dv) : Mo Dv := m.bind fun d s => match d with
  | .tmp ds => .ok (.ref s.hp.length) { s with hp := s.hp ++ [.lst ds] }
  | _ => .no
theorem se_shr (he : PE X e (tI X.K E m)) : PE X e (tI X.K E (mShr m)) := PE.imp he fun σ H Q h => by
  obtain ⟨s, ι, F, st, h⟩ := h
  refine ⟨s, ι, F, st, (Wp.bind h).imp (fun d s1 h1 ι1 F1 H1 p1 st1 v rv nv => ?_) fun _ _ h1 => h1⟩
  cases d with
  | tmp ds =>
    obtain ⟨q, vs, rfl, g1, g2, g3, g4, g5⟩ := rv
    have hq : H q = none := nv q rfl
    have io : ι1 <+: ι1 ++ [q] := List.prefix_append _ _
    have hl := st1.hs.len
    have at_ : (ι1 ++ [q])[s1.hp.length]? = some q := by rw [← hl]; simp
    refine h1 (ι1 ++ [q]) F1 H1 ⟨p1.io.trans io, p1.exF, p1.newF, fun b hb nb => ?_, p1.dom, p1.keep, p1.shape⟩ ⟨⟨st1.hs.le, by show (ι1 ++ [q]).length = (s1.hp ++ [Cell.lst ds]).length; rw [List.length_append, List.length_append, hl] <;> rfl, ?_, fun c hc => ?_, fun i c xs k1 k2 => ?_⟩, st1.len, fun i d hd => ?_, fun i xs hx => ?_, st1.apart⟩ _ (.ref at_) True.intro
    · rcases List.mem_append.mp hb with hb | hb
      · exact p1.newI b hb nb
      · rw [List.mem_singleton.mp hb]; exact hq
    · exact List.nodup_append.mpr ⟨st1.hs.nd, by simp, fun c hc b hb => by rw [List.mem_singleton.mp hb]; exact fun e => g3 (e ▸ hc)⟩
    · rcases List.mem_append.mp hc with hc | hc
      · exact st1.hs.out c hc
      · rw [List.mem_singleton.mp hc]; exact g2
    · have k2' : (s1.hp ++ [Cell.lst ds])[i]? = some (.lst xs) := k2
      by_cases hi : i < s1.hp.length
      · rw [List.getElem?_append_left (by rw [hl]; exact hi)] at k1
        rw [List.getElem?_append_left hi] at k2'
        obtain ⟨us, k3, k4⟩ := st1.hs.cell i c xs k1 k2'
        exact ⟨us, k3, k4.mono io (Same.refl _)⟩
      · have ei : i = s1.hp.length := by
          have := (List.getElem?_eq_some_iff.mp k2').1
          rw [List.length_append, List.length_singleton] at this
          omega
        subst ei
        rw [at_] at k1
        cases k1
        rw [List.getElem?_append_right (Nat.le_refl _), Nat.sub_self] at k2'
        cases k2'
        exact ⟨vs, g1, g5.mono io (Same.refl _)⟩
    · obtain ⟨w, k1, k2⟩ := st1.val i d hd
      exact ⟨w, k1, k2.mono io (Same.refl _)⟩
    · obtain ⟨c, us, k1, k2, k3, k4, k5⟩ := st1.own i xs hx
      refine ⟨c, us, k1, k2, fun hc => ?_, k4, k5.mono io (Same.refl _)⟩
      rcases List.mem_append.mp hc with hc | hc
      · exact k3 hc
      · rw [List.mem_singleton.mp hc] at k1
        exact g4 ⟨i, xs, hx, k1⟩
  | _ => exact (show False from h1).elim

/-! ### calls -/
inductive FRes where
  | ok (d : Dv) (h : List Cell) | ex (e : Exn) (h : List Cell) | no
def FM := List Dv → List Cell → FRes
structure FPost (ι ι' : List Addr) (F F' H H' : Hp) : Prop where
  io : ι <+: ι'
  exF : Same F F'
  newF : ∀ b, F b = none → H b ≠ none → F' b = none
  newI : ∀ b, b ∈ ι' → b ∉ ι → H b = none
  dom : ∀ b, H' b = none → H b = none
  keep : ∀ b o, H b = some o → b ∉ ι → H' b = some o
def FWp (r : FRes) (Q : Dv → List Cell → Prop) (E : Exn → List Cell → Prop) : Prop := match r with
  | .ok d h => Q d h
  | .ex e h => E e h
  | .no => False
/-- a def's promise: it does what f says -/
def spI (K : PySem.W.Frag) (n : Nat) (f : FM) : Sp := fun vs H Q E => ∃ ι F h ds, vs.length = n ∧ HS K ι F H h ∧ Reps K ι F ds vs ∧
  FWp (f ds h) (fun d h' => ∀ v ι' F' H', FPost ι ι' F F' H H' → HS K ι' F' H' h' → Rep K ι' F' d v → Q v H') (fun e h' => ∀ c x ι' F' H', FPost ι ι' F F' H H' → HS K ι' F' H' h' → ExRep K ι' F' H' e c x → E c x H')
def mDo (f : FM) (ds : List Dv) : Mo Dv := fun s => match f ds s.hp with
  | .ok d h => .ok d { s with hp := h }
  | .ex e h => .ex e { s with hp := h }
  | .no => .no
def mCall (f : FM) (n : Nat) (ms : Mo (List Dv)) : Mo Dv := ms.bind fun ds => (mGuard (ds.length = n) ()).bind fun _ => mDo f ds
theorem HS.sta {K : PySem.W.Frag} {s : Mem} {ι ι' : List Addr} {F F' H' : Hp} {h' : List Cell} (st : Sta K σ s ι F H) (p : FPost ι ι' F F' H H') (hs : HS K ι' F' H' h') : Sta K σ { s with hp := h' } ι' F' H' ∧ Post σ s { s with hp := h' } ι ι' F F' H H' := by
  refine ⟨⟨hs, st.len, fun i d hd => ?_, fun i xs hx => ?_, st.apart⟩, ⟨p.io, p.exF, p.newF, p.newI, p.dom, fun b o h n _ => p.keep b o h n, fun _ => Iff.rfl⟩⟩
  · obtain ⟨w, k1, k2⟩ := st.val i d hd
    exact ⟨w, k1, k2.mono p.io p.exF⟩
  · obtain ⟨c, us, k1, k2, k3, k4, k5⟩ := st.own i xs hx
    have hc : H c ≠ none := by rw [k4]; exact fun z => nomatch z
    exact ⟨c, us, k1, p.newF c k2 hc, fun z => hc (p.newI c z k3), p.keep c _ k4 k3, k5.mono p.io p.exF⟩
theorem do_to {K : PySem.W.Frag} {s : Mem} {ι : List Addr} {F : Hp} {E' : XK} {f : FM} {n : Nat} {ds : List Dv} {vs : List V} (st : Sta K σ s ι F H) (rs : Reps K ι F ds vs) (hn : ds.length = n)
    (h : Leaf K (fun _ => E') (mDo f ds) σ s ι F H fun d s' ι' F' H' => ∀ v, VR K σ s' ι' F' H' d v → New H d v → Q v H') : spI K n f vs H Q E' := by
  refine ⟨ι, F, s.hp, ds, by rw [rs.length]; exact hn, st.hs, rs, ?_⟩
  unfold Leaf mDo at h
  cases hf : f ds s.hp with
  | ok d h' =>
    rw [hf] at h
    intro v ι' F' H' p hs r
    obtain ⟨s2, p2⟩ := HS.sta st p hs
    exact h ι' F' H' p2 s2 v (rep_vr r) (rep_new r)
  | ex e h' =>
    rw [hf] at h
    intro c x ι' F' H' p hs r
    obtain ⟨s2, p2⟩ := HS.sta st p hs
    exact h ι' F' H' c x p2 s2 r
  | no => rw [hf] at h; exact h.elim
theorem call_to {E' : XK} {f : FM} {n : Nat} {ms : Mo (List Dv)} (h : tI X.K (fun _ => E') (mCall f n ms) σ H Q) : tCall (spI X.K n f) [] E' (tIA X.K (fun _ => E') ms) σ H Q := by
  obtain ⟨s, ι, F, st, h⟩ := h
  refine ⟨s, ι, F, st, h.bind.imp fun ds s1 ι1 F1 H1 ⟨p1, st1, h1⟩ vs rs => ?_⟩
  show spI X.K n f (vs ++ []) H1 Q E'
  rw [List.append_nil]
  have h2 := h1.bind.guard
  obtain ⟨_, _, h3⟩ := h2.2 ι1 F1 H1 Post.refl st1
  exact do_to st1 rs h2.1 (h3.imp fun d s' ι' F' H' q v rv nv => q v rv (new_back (K := X.K) p1 nv))
theorem se_call {E' : XK} {CX : CXT} {k : Nat} {f : Addr} {fd : FuncData} {ps : List Str} {fm : FM} {n : Nat} {ms : Mo (List Dv)} (G : FnOk X.prog X.w X.K X.mg X.base CX k f fd ps (spI X.K n fm)) (hr : Room k X.A) (hm : X.mg x = some (.ref f)) (hk : PySem.W.keepIn X.K (.ref f) = true)
    (hb : Binds X.K fd ps []) (hx : Passes CX X E') (ha : PA X (e :: es) (tIA X.K (fun _ => E') ms)) (hg : Gl X x := by rfl) (hdb : (x == ("__debug__" : Str)) = false := by decide) (he : starEach (e :: es) X.env = (false, eval e X.env) :: starEach es X.env := by rfl)
    (hpl : (backTo pos (starEach es X.env)).any (·.1) = false := by rfl) : PE X (.Call (.Name x p) (e :: es) [] pos) (tI X.K (fun _ => E') (mCall fm n ms)) :=
  PE.imp (pe_call G hr hg hm hk hb .nil hx ha hdb he hpl) fun σ H Q h => call_to h
theorem tCall0_imp {sp : Sp} {E' : XK} (h : tCall sp [] E' (tIA X.K (fun _ => E') mNil) σ H Q) : tCall sp [] E' tNil σ H Q := nil_to h
theorem se_call0 {E' : XK} {CX : CXT} {k : Nat} {f : Addr} {fd : FuncData} {ps : List Str} {fm : FM} {n : Nat} (G : FnOk X.prog X.w X.K X.mg X.base CX k f fd ps (spI X.K n fm)) (hr : Room k X.A) (hm : X.mg x = some (.ref f)) (hk : PySem.W.keepIn X.K (.ref f) = true)
    (hb : Binds X.K fd ps []) (hx : Passes CX X E') (hg : Gl X x := by rfl) (hdb : (x == ("__debug__" : Str)) = false := by decide) : PE X (.Call (.Name x p) [] [] pos) (tI X.K (fun _ => E') (mCall fm n mNil)) :=
  PE.imp (pe_call0 G hr hg hm hk hb .nil hx hdb) fun σ H Q h => (show tCall _ [] E' tNil σ H Q from tCall0_imp (call_to h))
end
end Mir

set_option Elab.async false
set_option linter.all false
set_option maxRecDepth 100000
set_option maxHeartbeats 1000000
/-! Mir: stores, what is walked, comprehensions. -/
namespace Mir
open PySem PySem.Spec L2
abbrev Env := List (Option Sl)
abbrev EE : XE := fun _ => E0
theorem set_at {α : Type} {l : List α} {i k : Nat} {x y : α} (h : (l.set i x)[k]? = some y) : (k = i ∧ y = x) ∨ (k ≠ i ∧ l[k]? = some y) := by
  by_cases e : k = i
  · subst e
    by_cases hl : k < l.length
    · rw [List.getElem?_set_self hl] at h
      exact .inl ⟨rfl, (Option.some.inj h).symm⟩
    · rw [List.getElem?_eq_none (by rw [List.length_set]; omega)] at h
      cases h
  · rw [List.getElem?_set_ne (Ne.symm e)] at h
    exact .inr ⟨e, h⟩
theorem get_set_ne {α : Type} {l : List α} {i k : Nat} {x : α} (h : k ≠ i) : (l.set i x)[k]? = l[k]? := List.getElem?_set_ne (Ne.symm h)
theorem get_set_eq {α : Type} {l : List α} {i : Nat} {x : α} (h : i < l.length) : (l.set i x)[i]? = some x := List.getElem?_set_self h
theorem lt_get {α : Type} {l : List α} {i : Nat} {y : α} (h : l[i]? = some y) : i < l.length := (List.getElem?_eq_some_iff.mp h).1
theorem set_lt {α : Type} {l : List α} {i : Nat} {x y : α} (h : (l.set i x)[i]? = some y) : i < l.length := by
  have := lt_get h
  rw [List.length_set] at this
  exact this
section
variable {K : PySem.W.Frag} {E : XE} {σ : L2.St} {s s1 s2 : Mem} {ι ι1 ι2 : List Addr} {F F1 F2 H H1 H2 : Hp} {d e z : Dv} {v w : V} {p : Addr} {Q : VK} {ds es : List Dv} {i : Nat}
theorem Sta.put (st : Sta K σ s ι F H) (r : Rep K ι F d v) : Sta K (σ.set i (some v)) { s with env := s.env.set i (some (.val d)) } ι F H := by
  refine ⟨st.hs, by show (s.env.set i _).length = _; rw [List.length_set, List.length_set]; exact st.len, fun k x hx => ?_, fun k xs hx => ?_, fun j k a xs ys g1 g2 g3 g4 => ?_⟩
  · have hl := set_at (show (s.env.set i (some (.val d)))[k]? = _ from hx)
    rcases hl with ⟨rfl, e⟩ | ⟨ne, e⟩
    · cases e
      have := set_lt (show (s.env.set k (some (.val d)))[k]? = _ from hx)
      exact ⟨v, get_set_eq (by rw [← st.len]; exact this), r⟩
    · obtain ⟨u, h1, h2⟩ := st.val k x e
      exact ⟨u, by rw [get_set_ne ne]; exact h1, h2⟩
  · rcases set_at (show (s.env.set i (some (.val d)))[k]? = _ from hx) with ⟨rfl, e⟩ | ⟨ne, e⟩
    · cases e
    · obtain ⟨a, vs, h1, h2⟩ := st.own k xs e
      exact ⟨a, vs, by rw [get_set_ne ne]; exact h1, h2⟩
  · rcases set_at (show (s.env.set i (some (.val d)))[j]? = _ from g1) with ⟨_, e⟩ | ⟨n1, e1⟩
    · cases e
    · rcases set_at (show (s.env.set i (some (.val d)))[k]? = _ from g2) with ⟨_, e⟩ | ⟨n2, e2⟩
      · cases e
      · rw [get_set_ne n1] at g3
        rw [get_set_ne n2] at g4
        exact st.apart j k a xs ys e1 e2 g3 g4
theorem owned_put {a : Addr} (h : Owned (σ.set i (some v)) { s with env := s.env.set i (some (.val d)) } a) : Owned σ s a := by
  obtain ⟨j, xs, h1, h2⟩ := h
  rcases set_at (show (s.env.set i (some (.val d)))[j]? = _ from h1) with ⟨_, e⟩ | ⟨n1, e1⟩
  · cases e
  · rw [get_set_ne n1] at h2
    exact ⟨j, xs, e1, h2⟩
/-- a thing that nothing here knows is laid anew -/
theorem HS.scratch {h : List Cell} {o : HO} (st : HS K ι F H h) (hF : F p = none) (hi : p ∉ ι) : HS K ι F (upd H p o) h := by
  refine ⟨fun b u e => ?_, st.len, st.nd, st.out, fun k a ds h1 h2 => ?_⟩
  · have ne : b ≠ p := fun z => by rw [z, hF] at e; cases e
    rw [upd_ne ne]
    exact st.le b u e
  · obtain ⟨vs, h3, h4⟩ := st.cell k a ds h1 h2
    have ne : a ≠ p := fun z => hi (z ▸ List.mem_of_getElem? h1)
    exact ⟨vs, by rw [upd_ne ne]; exact h3, h4⟩

/-! ### targets -/
def putN (i : Nat) (d : Dv) (e : Env) : Option Env := some (e.set i (some (.val d)))
def putP (i j : Nat) (d : Dv) (e : Env) : Option Env := match d with
  | .tup [a, b] => some ((e.set i (some (.val a))).set j (some (.val b)))
  | _ => none
/-- a store by a plain function, to the slots told -/
structure GOk (K : PySem.W.Frag) (g : TG) (is : List Nat) (put : Dv → Env → Option Env) : Prop where
  to : ∀ (σ : L2.St) (s : Mem) (ι : List Addr) (F H : Hp) (d : Dv) (v : V) (e : Env), Sta K σ s ι F H → Rep K ι F d v → put d s.env = some e →
    ∃ σ', Sta K σ' { s with env := e } ι F H ∧ (∀ a, Owned σ' { s with env := e } a → Owned σ s a) ∧ σ'.length = σ.length ∧ (∀ k, k ∉ is → σ'[k]? = σ[k]?) ∧ ∀ Q : L2.St → Hp → Prop, Q σ' H → g v σ H Q
theorem g_name {i : Nat} : GOk K (gName i) [i] (putN i) := ⟨fun σ s ι F H d v e st r h => by
  cases h
  exact ⟨_, st.put r, fun a h => owned_put h, List.length_set .., fun k hk => get_set_ne (by simpa using hk), fun Q q => q⟩⟩
theorem g_pair {i j : Nat} : GOk K (gTup K 2 (gCons (gName i) (gCons (gName j) gNil))) [i, j] (putP i j) := ⟨fun σ s ι F H d v e st r h => by
  unfold putP at h
  split at h
  · cases h
    rename_i a b
    cases r with
    | tup hq rs =>
      rename_i x vs
      cases rs with
      | cons r1 rs =>
        cases rs with
        | cons r2 rs =>
          cases rs
          rename_i v1 v2
          have st1 : Sta K (σ.set i (some v1)) { s with env := s.env.set i (some (.val a)) } ι F H := st.put r1
          refine ⟨(σ.set i (some v1)).set j (some v2), st1.put r2, fun x h => owned_put (owned_put h), by rw [List.length_set, List.length_set], fun k hk => ?_, fun Q q => ?_⟩
          · rw [get_set_ne (fun z => hk (by simp [z])), get_set_ne (fun z => hk (by simp [z]))]
          · exact ⟨_, _, rfl, same_t st.hs.le hq, rfl, _, _, rfl, _, _, rfl, rfl, q⟩
  · cases h⟩

/-! ### what is walked -/
structure Walks (K : PySem.W.Frag) (ι : List Addr) (F : Hp) (ds : List Dv) (J : It) : Prop where
  item : ∀ (i : Nat) (d : Dv) (H : Hp), ds[i]? = some d → Same F H → J.go i H ∧ ∀ (σ : L2.St) (s : Mem) (ι2 : List Addr) (F2 : Hp) (x : V) (H' : Hp), ι <+: ι2 → Same F F2 → Sta K σ s ι2 F2 H → J.yld i H x H' →
    ∃ F3, Sta K σ s ι2 F3 H' ∧ Rep K ι2 F3 d x ∧ Post σ s s ι2 ι2 F2 F3 H H'
  stop : ∀ H, Same F H → J.stop ds.length H
def WI (K : PySem.W.Frag) (E : XE) (ml : Mo (List Dv)) : L2.TI := fun σ H R => ∃ s ι F, Sta K σ s ι F H ∧ Leaf K E ml σ s ι F H fun ds s1 ι1 F1 H1 => ∀ J, Walks K ι1 F1 ds J → R J H1
theorem walks_list {a : Addr} {vs : List V} (hq : SqL K F a vs) (rs : Reps K ι F ds vs) : Walks K ι F ds (Itl K a) := by
  refine ⟨fun i d H hd sm => ?_, fun H sm => ⟨vs, Same.seq sm hq, Nat.le_of_eq rs.length⟩⟩
  obtain ⟨x, hx, rx⟩ := rs.get hd
  refine ⟨⟨vs, x, Same.seq sm hq, hx⟩, fun σ s ι2 F2 y H' io fo st hy => ?_⟩
  obtain ⟨rfl, hy⟩ := hy
  have e := hy vs (Same.seq sm hq)
  rw [hx] at e
  cases e
  exact ⟨F2, st, rx.mono io fo, Post.refl⟩
theorem walks_tup {a : Addr} {vs : List V} (hq : SqT K F a vs) (rs : Reps K ι F ds vs) : Walks K ι F ds (Itt K a) := by
  refine ⟨fun i d H hd sm => ?_, fun H sm => ⟨vs, same_t sm hq, Nat.le_of_eq rs.length⟩⟩
  obtain ⟨x, hx, rx⟩ := rs.get hd
  refine ⟨⟨vs, x, same_t sm hq, hx⟩, fun σ s ι2 F2 y H' io fo st hy => ?_⟩
  obtain ⟨rfl, hy⟩ := hy
  have e := hy vs (same_t sm hq)
  rw [hx] at e
  cases e
  exact ⟨F2, st, rx.mono io fo, Post.refl⟩
def enumD : Nat → List Dv → List Dv
  | _, [] => []
  | k, d :: ds => .tup [.int k, d] :: enumD (k + 1) ds
theorem enumD_get : ∀ {ds : List Dv} {k i : Nat} {d : Dv}, (enumD k ds)[i]? = some d → ∃ e, ds[i]? = some e ∧ d = .tup [.int ((k + i : Nat) : Int), e]
  | [], _, _, _, h => by simp [enumD] at h
  | e :: ds, k, 0, d, h => by
    simp [enumD] at h
    exact ⟨e, rfl, by rw [← h] <;> rfl⟩
  | _ :: ds, k, i + 1, d, h => by
    simp [enumD] at h
    obtain ⟨e, h1, h2⟩ := enumD_get h
    exact ⟨e, by simpa using h1, by rw [h2]; congr 4; omega⟩
theorem enumD_length : ∀ (k : Nat) (ds : List Dv), (enumD k ds).length = ds.length
  | _, [] => rfl
  | k, _ :: ds => by
    show (enumD (k + 1) ds).length + 1 = ds.length + 1
    rw [enumD_length (k + 1) ds]
theorem walks_enum {a : Addr} {vs : List V} (hq : SqT K F a vs) (rs : Reps K ι F ds vs) : Walks K ι F (enumD 0 ds) (ME.ItE K a) := by
  refine ⟨fun i d H hd sm => ?_, fun H sm => ⟨vs, same_t sm hq, by rw [enumD_length]; exact Nat.le_of_eq rs.length⟩⟩
  obtain ⟨e, he, rfl⟩ := enumD_get hd
  obtain ⟨x, hx, rx⟩ := rs.get he
  refine ⟨⟨vs, x, same_t sm hq, hx⟩, fun σ s ι2 F2 y H' io fo st hy => ?_⟩
  obtain ⟨T, x', rfl, hT, rfl, hy⟩ := hy
  have e := hy vs (same_t sm hq)
  rw [hx] at e
  cases e
  obtain ⟨g1, g2⟩ := laid_tup (vs := [.int (i : Nat), x]) st hT
  refine ⟨_, g1, .tup (.inl (.inl upd_same)) (.cons ?_ (.cons ?_ .nil)), g2⟩
  · rw [Nat.zero_add]
    exact .int _
  · exact (rx.mono io fo).mono (List.prefix_refl _) (same_upd (st.hs.le.free hT))
def rngD (lo c : Int) : Nat → List Dv
  | 0 => []
  | n + 1 => .int lo :: rngD (lo + c) c n
theorem rngD_get : ∀ {n i : Nat} {lo c : Int} {d : Dv}, (rngD lo c n)[i]? = some d → d = .int (lo + (i : Int) * c)
  | 0, _, _, _, _, h => by simp [rngD] at h
  | n + 1, 0, lo, c, d, h => by
    simp [rngD] at h
    rw [← h]
    simp
  | n + 1, i + 1, lo, c, d, h => by
    simp [rngD] at h
    rw [rngD_get h]
    congr 1
    rw [show ((i + 1 : Nat) : Int) = (i : Int) + 1 from rfl, Int.add_mul]
    omega
theorem rngD_length : ∀ (n : Nat) (lo c : Int), (rngD lo c n).length = n
  | 0, _, _ => rfl
  | n + 1, lo, c => by
    show (rngD (lo + c) c n).length + 1 = n + 1
    rw [rngD_length n]
theorem walks_rng {lo : Int} {n : Nat} : Walks K ι F (rngD lo 1 n) (Itr lo n) := by
  refine ⟨fun i d H hd sm => ⟨by have := lt_get hd; rw [rngD_length] at this; exact this, fun σ s ι2 F2 y H' io fo st hy => ?_⟩, fun H sm => Nat.le_of_eq (rngD_length ..).symm⟩
  obtain ⟨rfl, rfl⟩ := hy
  have e := rngD_get hd
  rw [Int.mul_one] at e
  subst e
  exact ⟨F2, st, .int _, Post.refl⟩
theorem walks_rngC {lo c : Int} {n : Nat} : Walks K ι F (rngD lo c n) (Itc lo c n) := by
  refine ⟨fun i d H hd sm => ⟨by have := lt_get hd; rw [rngD_length] at this; exact this, fun σ s ι2 F2 y H' io fo st hy => ?_⟩, fun H sm => Nat.le_of_eq (rngD_length ..).symm⟩
  obtain ⟨rfl, rfl⟩ := hy
  have e := rngD_get hd
  subst e
  exact ⟨F2, st, .int _, Post.refl⟩
end
def mIt (m : Mo Dv) : Mo (List Dv) := (mFrz m).bind fun d s => match d with
  | .tup ds => .ok ds s
  | .lst ds => .ok ds s
  | .scr ns => .ok (ns.map .int) s
  | _ => .no
/-- a tuple's -/
def asT (d : Dv) : Mo (List Dv) := fun s => match d with
  | .tup ds => .ok ds s
  | _ => .no
def mEnum (ms : Mo (List Dv)) : Mo (List Dv) := ms.bind fun ds s => match ds with
  | [.tup xs] => .ok (enumD 0 xs) s
  | _ => .no
def B62 : Int := 4611686018427387904
noncomputable def rngN (ds : List Dv) : Option (List Dv) := match ds with
  | [.int j] => @ite _ (-B62 ≤ j ∧ j < B62) (Classical.propDecidable _) (some (rngD 0 1 j.toNat)) none
  | [.int i, .int j] => @ite _ (-B62 ≤ i ∧ i < B62 ∧ -B62 ≤ j ∧ j < B62) (Classical.propDecidable _) (some (rngD i 1 (j - i).toNat)) none
  | [.int i, .int j, .int c] => @ite _ (-B62 ≤ i ∧ i < B62 ∧ -B62 ≤ j ∧ j < B62 ∧ c = 2) (Classical.propDecidable _) (some (rngD i 2 ((j - i + 1) / 2).toNat)) none
  | _ => none
noncomputable def mRng (ms : Mo (List Dv)) : Mo (List Dv) := ms.bind fun ds s => match rngN ds with
  | some xs => .ok xs s
  | none => .no
section
variable {X : Cx} {E : XE} {σ : L2.St} {H : Hp} {Q : VK} {tg a b c e l : Expr} {es : List Expr} {m : Mo Dv} {ms : Mo (List Dv)} {x : Str} {p pos : Pos}
theorem reps_ints {K : PySem.W.Frag} {ι : List Addr} {F : Hp} : ∀ ns : List Int, Reps K ι F (ns.map Dv.int) (ns.map V.int)
  | [] => .nil
  | n :: r => .cons (.int n) (reps_ints r)
theorem wi_val (hl : PE X l (tI X.K E m)) : PI X tg l (WI X.K E (mIt m)) := ⟨fun pins sh σ H R I h => by
  obtain ⟨s, ι, F, st, h⟩ := h
  unfold Leaf mIt mFrz Mo.bind at h
  cases hm : m s with
  | no => rw [hm] at h; exact h.elim
  | ex e s1 =>
    rw [hm] at h
    refine (pi_tup hl).run pins sh σ H R I ⟨s, ι, F, st, ?_⟩
    unfold Leaf
    rw [hm]
    exact h
  | ok d s1 =>
    rw [hm] at h
    cases d with
    | tup ds =>
      refine (pi_tup hl).run pins sh σ H R I ⟨s, ι, F, st, ?_⟩
      unfold Leaf
      rw [hm]
      intro ι1 F1 H1 p1 st1 v rv nv
      cases rv with
      | tup hq rs => exact ⟨_, rfl, ⟨_, same_t st1.hs.le hq⟩, h ι1 F1 H1 p1 st1 _ (walks_tup hq rs)⟩
    | lst ds =>
      refine (pi_list hl).run pins sh σ H R I ⟨s, ι, F, st, ?_⟩
      unfold Leaf
      rw [hm]
      intro ι1 F1 H1 p1 st1 v rv nv
      cases rv with
      | lst hq rs => exact ⟨_, rfl, ⟨_, .inl (same_rd st1.hs.le hq)⟩, h ι1 F1 H1 p1 st1 _ (walks_list (.inl hq) rs)⟩
    | scr ns =>
      refine (pi_list hl).run pins sh σ H R I ⟨s, ι, F, st, ?_⟩
      unfold Leaf
      rw [hm]
      intro ι1 F1 H1 p1 st1 v rv nv
      cases rv with
      | scr hq => exact ⟨_, rfl, ⟨_, Same.seq st1.hs.le hq⟩, h ι1 F1 H1 p1 st1 _ (walks_list hq (reps_ints ns))⟩
    | tmp ds =>
      refine (pi_list hl).run pins sh σ H R I ⟨s, ι, F, st, ?_⟩
      unfold Leaf
      rw [hm]
      intro ι1 F1 H1 p1 st1 v rv nv
      obtain ⟨q, vs, rfl, g1, g2, g3, g4, g5⟩ := rv
      have st2 := st1.frz g1 g2 g3 g4
      have p2 := p1.frz (o := .lst vs) g2 (nv q rfl)
      exact ⟨_, rfl, ⟨vs, .inl (.inl g1)⟩, h ι1 _ H1 p2 st2 _ (walks_list (.inl (.inl upd_same)) (g5.mono (List.prefix_refl _) (same_upd g2)))⟩
    | _ => exact (show False from h).elim⟩
theorem wi_enum {elts : List Expr} {kk : Nat} {tpos : Pos} (hg : Gl X "enumerate") (hm : X.mg "enumerate" = none) (ha : PA X [e] (tIA X.K E ms)) (hs : starEach [e] X.env = [(false, eval e X.env)] := by rfl) : PI X (.Tuple elts kk tpos) (.Call (.Name "enumerate" p) [e] [] pos) (WI X.K E (mEnum ms)) :=
  PI.imp (ME.pi_enumT hg hm ha hs) fun σ H R h => by
    obtain ⟨s, ι, F, st, h⟩ := h
    refine ⟨s, ι, F, st, h.bind.imp fun ds s1 ι1 F1 H1 ⟨p1, st1, h1⟩ vs rs => ?_⟩
    unfold Leaf at h1
    dsimp only at h1
    split at h1
    · cases rs with
      | cons r rs =>
        cases rs
        cases r with
        | tup hq rs => exact ⟨_, _, rfl, same_t st1.hs.le hq, h1 ι1 F1 H1 Post.refl st1 _ (walks_enum hq rs)⟩
    · exact h1.elim
theorem rng_to {Q : List V → Hp → Prop} {R : It → Hp → Prop} (h : WI X.K E (mRng ms) σ H R) (hq : ∀ ds xs vs H1 (ι : List Addr) (F : Hp), rngN ds = some xs → Reps X.K ι F ds vs → (∀ J, Walks X.K ι F xs J → R J H1) → Q vs H1) : tIA X.K E ms σ H Q := by
  obtain ⟨s, ι, F, st, h⟩ := h
  refine ⟨s, ι, F, st, h.bind.imp fun ds s1 ι1 F1 H1 ⟨p1, st1, h1⟩ vs rs => ?_⟩
  unfold Leaf at h1
  dsimp only at h1
  cases hr : rngN ds with
  | none => rw [hr] at h1; exact h1.elim
  | some xs =>
    rw [hr] at h1
    exact hq ds xs vs H1 ι1 F1 hr rs (h1 ι1 F1 H1 Post.refl st1)
theorem b62 : (2 : Int) ^ 62 = B62 := by decide
theorem wi_rng1 (hg : Gl X "range") (hm : X.mg "range" = none) (ha : PA X [a] (tIA X.K E ms)) (hs : starEach [a] X.env = [(false, eval a X.env)] := by rfl) (h1 : ∀ ds, rngN ds ≠ none → ds.length = 1 ∨ True := by intros; exact Or.inr True.intro) : PI X tg (.Call (.Name "range" p) [a] [] pos) (WI X.K E (mRng (ms.bind fun ds => mGuard (ds.length = 1) ds))) :=
  PI.imp (pi_range1 hg hm ha hs) fun σ H R h => by
    have h' : WI X.K E (mRng (ms.bind fun ds => mGuard (ds.length = 1) ds)) σ H R := h
    obtain ⟨s, ι, F, st, h⟩ := h'
    refine ⟨s, ι, F, st, h.bind.bind.imp fun ds s1 ι1 F1 H1 ⟨p1, st1, h1⟩ vs rs => ?_⟩
    obtain ⟨hl, h2⟩ := h1.guard
    obtain ⟨_, _, h3⟩ := h2 ι1 F1 H1 Post.refl st1
    unfold Leaf at h3
    dsimp only at h3
    cases hr : rngN ds with
    | none => rw [hr] at h3; exact h3.elim
    | some xs =>
      rw [hr] at h3
      unfold rngN at hr
      split at hr
      · split at hr
        · rename_i hj
          cases hr
          cases rs with
          | cons r rs =>
            cases rs
            cases r
            exact ⟨_, rfl, by rw [b62]; exact hj.1, by rw [b62]; exact hj.2, h3 ι1 F1 H1 Post.refl st1 _ walks_rng⟩
        · cases hr
      · simp at hl
      · simp at hl
      · cases hr
theorem wi_rng2 (hg : Gl X "range") (hm : X.mg "range" = none) (ha : PA X [a, b] (tIA X.K E ms)) (hs : starEach [a, b] X.env = [(false, eval a X.env), (false, eval b X.env)] := by rfl) (hs2 : starEach [b] X.env = [(false, eval b X.env)] := by rfl) : PI X tg (.Call (.Name "range" p) [a, b] [] pos) (WI X.K E (mRng (ms.bind fun ds => mGuard (ds.length = 2) ds))) :=
  PI.imp (pi_range2 hg hm ha hs hs2) fun σ H R h => by
    obtain ⟨s, ι, F, st, h⟩ := h
    refine ⟨s, ι, F, st, h.bind.bind.imp fun ds s1 ι1 F1 H1 ⟨p1, st1, h1⟩ vs rs => ?_⟩
    obtain ⟨hl, h2⟩ := h1.guard
    obtain ⟨_, _, h3⟩ := h2 ι1 F1 H1 Post.refl st1
    unfold Leaf at h3
    dsimp only at h3
    cases hr : rngN ds with
    | none => rw [hr] at h3; exact h3.elim
    | some xs =>
      rw [hr] at h3
      unfold rngN at hr
      split at hr
      · simp at hl
      · split at hr
        · rename_i hj
          cases hr
          cases rs with
          | cons r rs =>
            cases rs with
            | cons r' rs =>
              cases rs
              cases r
              cases r'
              exact ⟨_, _, rfl, by rw [b62]; exact hj, h3 ι1 F1 H1 Post.refl st1 _ walks_rng⟩
        · cases hr
      · simp at hl
      · cases hr
theorem rgc2 {i j : Int} (h1 : -B62 ≤ i) (h2 : i < B62) (h3 : -B62 ≤ j) (h4 : j < B62) : RgC i j 2 ((j - i + 1) / 2).toNat := by
  unfold B62 at *
  have e : Builtin.Range.rangeSize i j 2 = if i < j then (j - i - 1) / 2 + 1 else 0 := by
    unfold Builtin.Range.rangeSize
    simp only [show (2 : Int) > 0 by decide, if_true]
  refine ⟨by decide, by decide, ?_, ?_⟩
  · unfold Builtin.Range.small
    rw [e]
    simp only [Builtin.Range.rangeFitsLong, Bool.and_eq_true, Bool.or_eq_true, decide_eq_true_eq, beq_iff_eq, show (2 : Int) > 0 by decide, if_true]
    split <;> omega
  · rw [e]
    split <;> omega
theorem wi_rng3 (hg : Gl X "range") (hm : X.mg "range" = none) (ha : PA X [a, b, c] (tIA X.K E ms))
    (hs : starEach [a, b, c] X.env = (false, eval a X.env) :: starEach [b, c] X.env := by rfl) (hpl : (backTo pos (starEach [b, c] X.env)).any (·.1) = false := by rfl) : PI X tg (.Call (.Name "range" p) [a, b, c] [] pos) (WI X.K E (mRng (ms.bind fun ds => mGuard (ds.length = 3) ds))) :=
  PI.imp (pi_range3 hg hm ha hs hpl) fun σ H R h => by
    obtain ⟨s, ι, F, st, h⟩ := h
    refine ⟨s, ι, F, st, h.bind.bind.imp fun ds s1 ι1 F1 H1 ⟨p1, st1, h1⟩ vs rs => ?_⟩
    obtain ⟨hl, h2⟩ := h1.guard
    obtain ⟨_, _, h3⟩ := h2 ι1 F1 H1 Post.refl st1
    unfold Leaf at h3
    dsimp only at h3
    cases hr : rngN ds with
    | none => rw [hr] at h3; exact h3.elim
    | some xs =>
      rw [hr] at h3
      unfold rngN at hr
      split at hr
      · simp at hl
      · simp at hl
      · split at hr
        · rename_i hj
          obtain ⟨q1, q2, q3, q4, rfl⟩ := hj
          cases hr
          cases rs with
          | cons r rs =>
            cases rs with
            | cons r' rs =>
              cases rs with
              | cons r'' rs =>
                cases rs
                cases r
                cases r'
                cases r''
                exact ⟨_, _, _, _, rfl, rgc2 q1 q2 q3 q4, h3 ι1 F1 H1 Post.refl st1 _ walks_rngC⟩
        · cases hr
      · cases hr
end

/-! ### comprehensions -/
def h1E : Option Sl → Option Sl
  | some (.val d) => some (.val d)
  | _ => none
def wipeE (e : Env) : List Nat → Env
  | [] => e
  | v :: vs => (wipeE e vs).set v none
def hideE (vs : List Nat) (e : Env) : Env := wipeE (e.map h1E) vs
theorem wipeE_length (e : Env) : ∀ vs : List Nat, (wipeE e vs).length = e.length
  | [] => rfl
  | v :: vs => by unfold wipeE; rw [List.length_set, wipeE_length e vs]
theorem wipeE_some {e : Env} {i : Nat} {x : Sl} : ∀ {vs : List Nat}, (wipeE e vs)[i]? = some (some x) → e[i]? = some (some x) ∧ i ∉ vs
  | [], h => ⟨h, by simp⟩
  | v :: vs, h => by
    unfold wipeE at h
    rcases set_at h with ⟨_, q⟩ | ⟨ne, q⟩
    · cases q
    · obtain ⟨h1, h2⟩ := wipeE_some q
      exact ⟨h1, by simp [ne, h2]⟩
theorem hideE_some {e : Env} {i : Nat} {x : Sl} {vs : List Nat} (h : (hideE vs e)[i]? = some (some x)) : (∃ d, x = .val d) ∧ e[i]? = some (some x) ∧ i ∉ vs := by
  obtain ⟨h1, h2⟩ := wipeE_some h
  rw [List.getElem?_map] at h1
  cases he : e[i]? with
  | none => rw [he] at h1; cases h1
  | some o =>
    rw [he] at h1
    cases o with
    | none => cases h1
    | some sl =>
      cases sl with
      | val d =>
        have : x = .val d := by
          have h3 : some (some (Sl.val d)) = some (some x) := h1
          cases h3
          rfl
        subst this
        exact ⟨⟨d, rfl⟩, rfl, h2⟩
      | own ds => cases (show some (none : Option Sl) = some (some x) from h1)
theorem wipe_get {σ : L2.St} : ∀ {vs : List Nat} {k : Nat}, (wipe σ vs)[k]? = if k ∈ vs then (σ[k]?.map fun _ => none) else σ[k]?
  | [], k => by simp [wipe]
  | v :: vs, k => by
    unfold wipe
    by_cases e : k = v
    · subst e
      by_cases hl : k < σ.length
      · rw [get_set_eq (by rw [wipe_length]; exact hl), if_pos List.mem_cons_self, List.getElem?_eq_getElem hl] <;> rfl
      · rw [List.getElem?_eq_none (by rw [List.length_set, wipe_length]; omega), if_pos List.mem_cons_self, List.getElem?_eq_none (by omega)] <;> rfl
    · rw [get_set_ne e, wipe_get]
      by_cases h : k ∈ vs
      · rw [if_pos h, if_pos (List.mem_cons_of_mem _ h)]
      · rw [if_neg h, if_neg (by simp [e, h])]
theorem wipe_same {σ σ2 : L2.St} {vs : List Nat} (hl : σ2.length = σ.length) (h : ∀ k, k ∉ vs → σ2[k]? = σ[k]?) : wipe σ2 vs = wipe σ vs := by
  refine List.ext_getElem? fun k => ?_
  rw [wipe_get, wipe_get]
  by_cases hk : k ∈ vs
  · rw [if_pos hk, if_pos hk]
    by_cases hs : k < σ.length
    · rw [List.getElem?_eq_getElem hs, List.getElem?_eq_getElem (by omega)] <;> rfl
    · rw [List.getElem?_eq_none (by omega), List.getElem?_eq_none (by omega)]
  · rw [if_neg hk, if_neg hk, h k hk]
theorem wipe_wipe {σ : L2.St} {vs : List Nat} : wipe (wipe σ vs) vs = wipe σ vs := wipe_same (wipe_length σ vs) fun k hk => by rw [wipe_get, if_neg hk]
theorem Sta.hide {K : PySem.W.Frag} {σ : L2.St} {s : Mem} {ι ι' : List Addr} {F F' H H' : Hp} {h' : List Cell} {vs : List Nat} (st : Sta K σ s ι F H) (p : FPost ι ι' F F' H H') (hs : HS K ι' F' H' h') : Sta K (wipe σ vs) { env := hideE vs s.env, hp := h' } ι' F' H' := by
  refine ⟨hs, ?_, fun i d hd => ?_, fun i xs hx => ?_, fun i j a xs ys h1 _ _ _ => ?_⟩
  · show (hideE vs s.env).length = _
    unfold hideE
    rw [wipeE_length, List.length_map, wipe_length, st.len]
  · obtain ⟨_, h1, h2⟩ := hideE_some hd
    obtain ⟨v, h3, h4⟩ := st.val i d h1
    exact ⟨v, by rw [wipe_get, if_neg h2]; exact h3, h4.mono p.io p.exF⟩
  · obtain ⟨⟨d, hd⟩, _, _⟩ := hideE_some hx
    cases hd
  · obtain ⟨⟨d, hd⟩, _, _⟩ := hideE_some h1
    cases hd
theorem hide_free {σ : L2.St} {e : Env} {h : List Cell} {vs : List Nat} {a : Addr} : ¬ Owned σ { env := hideE vs e, hp := h } a := fun ⟨i, xs, h1, _⟩ => by
  obtain ⟨⟨d, hd⟩, _, _⟩ := hideE_some h1
  cases hd
def turnC (mt : Mo Bool) (me : Mo Dv) (acc : List Dv) : Mo (List Dv) := mt.bind fun b => if b = true then (mFrz me).bind fun y => mGuard (acc.length < lim) (acc ++ [y]) else Mo.pure acc
def compL (put : Dv → Env → Option Env) (vs : List Nat) (mt : Mo Bool) (me : Mo Dv) (e : Env) : List Dv → List Dv → List Cell → Option (List Dv × List Cell)
  | [], acc, h => some (acc, h)
  | d :: ds, acc, h => match put d (hideE vs e) with
    | none => none
    | some e1 => match turnC mt me acc { env := e1, hp := h } with
      | .ok acc1 s => compL put vs mt me e ds acc1 s.hp
      | _ => none
def mComp (put : Dv → Env → Option Env) (vs : List Nat) (ml : Mo (List Dv)) (mt : Mo Bool) (me : Mo Dv) : Mo Dv := ml.bind fun ds s => match compL put vs mt me s.env ds [] s.hp with
  | some (acc, h) => .ok (.tmp acc) { s with hp := h }
  | none => .no
theorem FPost.of {σ : L2.St} {s s' : Mem} {ι ι' : List Addr} {F F' H H' : Hp} (p : Post σ s s' ι ι' F F' H H') (hf : ∀ a, ¬ Owned σ s a) : FPost ι ι' F F' H H' :=
  ⟨p.io, p.exF, p.newF, p.newI, p.dom, fun b o h n => p.keep b o h n (hf b)⟩
theorem FPost.trans {ι ι1 ι2 : List Addr} {F F1 F2 H H1 H2 : Hp} (p : FPost ι ι1 F F1 H H1) (q : FPost ι1 ι2 F1 F2 H1 H2) : FPost ι ι2 F F2 H H2 where
  io := p.io.trans q.io
  exF := p.exF.trans q.exF
  newF := fun b h n => q.newF b (p.newF b h n) fun z => n (p.dom b z)
  newI := fun b h n => by
    by_cases hb : b ∈ ι1
    · exact p.newI b hb n
    · exact p.dom b (q.newI b h hb)
  dom := fun b h => p.dom b (q.dom b h)
  keep := fun b o h n1 => q.keep b o (p.keep b o h n1) fun z => by
    have := p.newI b z n1
    rw [h] at this
    cases this
theorem FPost.refl {ι : List Addr} {F H : Hp} : FPost ι ι F F H H := ⟨List.prefix_refl _, Same.refl _, fun _ h _ => h, fun _ h n => (n h).elim, fun _ h => h, fun _ _ h _ => h⟩
/-- a thing that was not there ahead is laid or changed -/
theorem FPost.scratch {ι ι1 : List Addr} {F F1 H H1 : Hp} {p : Addr} {o : HO} (q : FPost ι ι1 F F1 H H1) (hp : H p = none) : FPost ι ι1 F F1 H (upd H1 p o) :=
  ⟨q.io, q.exF, q.newF, q.newI, fun b h => by
    by_cases e : b = p
    · rw [e]; exact hp
    · rw [upd_ne e] at h; exact q.dom b h, fun b u h n => by
    have e : b ≠ p := fun e => by rw [e, hp] at h; cases h
    rw [upd_ne e]
    exact q.keep b u h n⟩
theorem lc_to {X : Cx} {own : List (Str × Nat)} {ml : Mo (List Dv)} {mt : Mo Bool} {me : Mo Dv} {E E' : XE} {g : TG} {put : Dv → Env → Option Env} {σ : L2.St} {H : Hp} {Q : VK} (gk : GOk X.K g (own.map (·.2)) put)
    (h : tI X.K E (mComp put (own.map (·.2)) ml mt me) σ H Q) : tLc (WI X.K E ml) g (tT X.K E' mt) (tI X.K E' me) (own.map (·.2)) σ H Q := by
  obtain ⟨s, ι, F, st, h⟩ := h
  refine ⟨s, ι, F, st, h.bind.imp fun ds s1 ι1 F1 H1 ⟨p1, st1, h1⟩ J wk D hD => ?_⟩
  generalize own.map (·.2) = vs at *
  unfold Leaf at h1
  dsimp only at h1
  cases hr : compL put vs mt me s1.env ds [] s1.hp with
  | none => rw [hr] at h1; exact h1.elim
  | some r =>
  obtain ⟨out, hout⟩ := r
  rw [hr] at h1
  dsimp only at h1
  have hDF : F1 D = none := st1.hs.le.free hD
  have hDi : D ∉ ι1 := fun z => st1.cellAt z hD
  refine ⟨fun i m H2 => i ≤ ds.length ∧ m = ds.length - i ∧ ∃ h2 acc accv ι2 F2, FPost ι1 ι2 F1 F2 H1 H2 ∧ HS X.K ι2 F2 H2 h2 ∧ H2 D = some (.lst accv) ∧ F2 D = none ∧ D ∉ ι2 ∧ Reps X.K ι2 F2 acc accv ∧ compL put vs mt me s1.env (ds.drop i) acc h2 = some (out, hout),
    ⟨ds.length, Nat.zero_le _, by simp, s1.hp, [], [], ι1, F1, FPost.refl.scratch hD, st1.hs.scratch hDF hDi, upd_same, hDF, hDi, .nil, hr⟩, ?_⟩
  rintro i m H2 ⟨hil, rfl, h2, acc, accv, ι2, F2, fp, hs2, hDl, hDF2, hDi2, ra, hl⟩
  by_cases hlt : i < ds.length
  · refine .inr ?_
    have hd : ds[i]? = some ds[i] := List.getElem?_eq_getElem hlt
    rw [List.drop_eq_getElem_cons hlt] at hl
    generalize ds[i] = d at hd hl
    obtain ⟨go, yl⟩ := wk.item i d H2 hd (fp.exF.trans hs2.le)
    unfold compL at hl
    cases hp : put d (hideE vs s1.env) with
    | none => rw [hp] at hl; cases hl
    | some e1 =>
    rw [hp] at hl
    dsimp only at hl
    cases htn : turnC mt me acc { env := e1, hp := h2 } with
    | no => rw [htn] at hl; cases hl
    | ex _ _ => rw [htn] at hl; cases hl
    | ok acc1 s3 =>
    rw [htn] at hl
    dsimp only at hl
    refine ⟨go, fun H3 => i + 1 ≤ ds.length ∧ ∃ h2 acc accv ι2 F2, FPost ι1 ι2 F1 F2 H1 H3 ∧ HS X.K ι2 F2 H3 h2 ∧ H3 D = some (.lst accv) ∧ F2 D = none ∧ D ∉ ι2 ∧ Reps X.K ι2 F2 acc accv ∧ compL put vs mt me s1.env (ds.drop (i + 1)) acc h2 = some (out, hout), fun H3 ⟨q1, q2⟩ => ⟨ds.length - (i + 1), by omega, q1, rfl, q2⟩, fun x H3 hy => ?_⟩
    have stw := Sta.hide (vs := vs) st1 fp hs2
    obtain ⟨F3, st3, rx, p3⟩ := yl _ _ ι2 F2 x H3 fp.io fp.exF stw hy
    have fp3 := fp.trans (FPost.of p3 fun a => hide_free)
    have hDl3 : H3 D = some (.lst accv) := p3.keep D _ hDl hDi2 hide_free
    have hDF3 : F3 D = none := p3.newF D hDF2 (by rw [hDl]; exact fun z => nomatch z)
    obtain ⟨σ4, st4, ow4, len4, out4, gq⟩ := gk.to _ _ ι2 F3 H3 d x e1 st3 rx hp
    refine gq _ ⟨(wipe_same len4 out4).trans wipe_wipe, ?_⟩
    have noOwn : ∀ a, ¬ Owned σ4 { env := e1, hp := h2 } a := fun a z => hide_free (ow4 a z)
    have lf : Leaf X.K E' (turnC mt me acc) σ4 { env := e1, hp := h2 } ι2 F3 H3 fun a s' ι' F' H' => a = acc1 ∧ s' = s3 ∧ Post σ4 { env := e1, hp := h2 } s' ι2 ι' F3 F' H3 H' ∧ Sta X.K σ4 s' ι' F' H' := by
      unfold Leaf
      rw [htn]
      exact fun ι' F' H' p st => ⟨rfl, rfl, p, st⟩
    refine ⟨_, ι2, F3, st4, lf.bind.imp fun b s5 ι5 F5 H5 ⟨p5, st5, h5⟩ => ?_⟩
    have fp5 := fp3.trans (FPost.of p5 noOwn)
    have hDl5 : H5 D = some (.lst accv) := p5.keep D _ hDl3 hDi2 (noOwn D)
    have hDi5 : D ∉ ι5 := fun z => by
      have := p5.newI D z hDi2
      rw [hDl3] at this
      cases this
    have hDF5 : F5 D = none := p5.newF D hDF3 (by rw [hDl3]; exact fun z => nomatch z)
    have ra5 : Reps X.K ι5 F5 acc accv := (ra.mono (List.prefix_refl _) p3.exF).mono p5.io p5.exF
    cases b with
    | false =>
      rw [if_neg Bool.false_ne_true] at h5
      refine L2.iteF ?_
      obtain ⟨rfl, rfl, _, _⟩ := Leaf.pure st5 h5
      exact ⟨hlt, _, _, accv, ι5, F5, fp5, st5.hs, hDl5, hDF5, hDi5, ra5, hl⟩
    | true =>
      rw [if_pos rfl] at h5
      refine L2.iteT ?_
      have noOwn5 : ∀ a, ¬ Owned σ4 s5 a := fun a z => noOwn a (p5.owned.mp z)
      refine ⟨s5, ι5, F5, st5, (frz_to h5.bind).imp fun y0 s6 ι6 F6' H6 ⟨_, _, h6⟩ v rv nv => ?_⟩
      obtain ⟨y, F6, p6, st6, ry, _, _, h7⟩ := h6 v rv nv
      obtain ⟨hlen, h8⟩ := h7.guard
      obtain ⟨rfl, rfl, _, _⟩ := h8 ι6 F6 H6 Post.refl st6
      have fp6 := fp5.trans (FPost.of p6 noOwn5)
      have hDl6 : H6 D = some (.lst accv) := p6.keep D _ hDl5 hDi5 (noOwn5 D)
      have hDi6 : D ∉ ι6 := fun z => by
        have := p6.newI D z hDi5
        rw [hDl5] at this
        cases this
      have hDF6 : F6 D = none := p6.newF D hDF5 (by rw [hDl5]; exact fun z => nomatch z)
      refine ⟨accv, hDl6, by rw [ra.length, lim_eq]; exact hlen, hlt, _, _, _, ι6, F6, fp6.scratch hD, st6.hs.scratch hDF6 hDi6, upd_same, hDF6, hDi6, (ra5.mono p6.io p6.exF).append (.cons ry .nil), hl⟩
  · have e : i = ds.length := by omega
    subst e
    rw [List.drop_length] at hl
    unfold compL at hl
    cases hl
    refine .inl ⟨wk.stop H2 (fp.exF.trans hs2.le), ?_⟩
    obtain ⟨st9, p9⟩ := HS.sta st1 fp hs2
    refine h1 ι2 F2 H2 p9 st9 (.ref D) ⟨D, accv, rfl, hDl, hDF2, hDi2, fun z => (st1.ownAt (show Owned σ s1 D from z)).2.2 hD, ra⟩ fun q e => ?_
    cases e
    exact p1.dom D hD
theorem se_lc {X : Cx} {elt tg iter : Expr} {ifs : List Expr} {scope : Scope} {own : List (Str × Nat)} {pos : Pos} {ml : Mo (List Dv)} {mt : Mo Bool} {me : Mo Dv} {E : XE} {g : TG} {put : Dv → Env → Option Env}
    (hc : X.calm = true) (hN : X.N.Nodup) (hi : PI X tg iter (WI X.K E ml)) (ok : BlkOk X.N X.env.scope scope own) (gk : GOk X.K g (own.map (·.2)) put)
    (hg : ∀ (s : Shared) (H : Hp) (C : Addr) (cl : List (Str × Addr)) (fp : List Addr), PG (X.blk s H scope (compEnvC scope cl C X.env) fp) tg g) (ht : ∀ (s : Shared) (H : Hp) (C : Addr) (cl : List (Str × Addr)) (fp : List Addr), PTs (X.blk s H scope (compEnvC scope cl C X.env) fp) ifs (tT X.K EE mt))
    (he : ∀ (s : Shared) (H : Hp) (C : Addr) (cl : List (Str × Addr)) (fp : List Addr), PE (X.blk s H scope (compEnvC scope cl C X.env) fp) elt (tI X.K EE me)) (hs : ∀ x, foldedSetIterable iter X.env x = pure x := by intro _; rfl) :
    PE X (.ListComp elt [⟨tg, iter, ifs, 0⟩] scope pos) (tI X.K E (mComp put (own.map (·.2)) ml mt me)) := PE.imp (pe_lc hc hN hi ok hg ht he hs) fun σ H Q h => lc_to gk h
end Mir

set_option Elab.async false
set_option linter.all false
set_option maxRecDepth 100000
set_option maxHeartbeats 1000000
/-! Mir: statements, defs. -/
namespace Mir
open PySem PySem.Spec L2
inductive Fl where
  | nx | rt (d : Dv)
structure Ent where
  ι : List Addr
  F : Hp
  H : Hp
/-- a def's frame on its way -/
structure GP (K : PySem.W.Frag) (G : Ent) (σ : L2.St) (s : Mem) (ι : List Addr) (F H : Hp) : Prop where
  st : Sta K σ s ι F H
  fp : FPost G.ι ι G.F F G.H H
  ow : ∀ a, Owned σ s a → G.H a = none
def SEnd (K : PySem.W.Frag) (G : Ent) (D : Ends) (ι : List Addr) (F : Hp) (fl : Fl) (s : Mem) : Prop := match fl with
  | .nx => ∀ σ' ι' F' H', GP K G σ' s ι' F' H' → ι <+: ι' → Same F F' → D.nx σ' H'
  | .rt d => ∀ v ι' F' H', FPost G.ι ι' G.F F' G.H H' → HS K ι' F' H' s.hp → Rep K ι' F' d v → D.rt v H'
def noX : Exn → Mem → Prop := fun _ _ => False
def tS (K : PySem.W.Frag) (m : Mo Fl) : TS := fun D σ H => ∃ G s ι F, GP K G σ s ι F H ∧ Wp (m s) (SEnd K G D ι F) noX
section
variable {K : PySem.W.Frag} {E : XE} {G : Ent} {D : Ends} {σ : L2.St} {s s1 s2 : Mem} {ι ι1 ι2 : List Addr} {F F1 F2 H H1 H2 : Hp} {d e z : Dv} {v w : V} {p : Addr} {Q : VK} {ds es : List Dv} {i : Nat} {α β : Type}
theorem GP.step (g : GP K G σ s ι F H) (p : Post σ s s1 ι ι1 F F1 H H1) (st : Sta K σ s1 ι1 F1 H1) : GP K G σ s1 ι1 F1 H1 := by
  refine ⟨st, ⟨g.fp.io.trans p.io, g.fp.exF.trans p.exF, fun b h n => p.newF b (g.fp.newF b h n) fun z => n (g.fp.dom b z), fun b h n => ?_, fun b h => g.fp.dom b (p.dom b h), fun b o h n => ?_⟩, fun a h => g.ow a (p.owned.mp h)⟩
  · by_cases hb : b ∈ ι
    · exact g.fp.newI b hb n
    · exact g.fp.dom b (p.newI b h hb)
  · refine p.keep b o (g.fp.keep b o h n) (fun z => ?_) fun z => ?_
    · have := g.fp.newI b z n
      rw [h] at this
      cases this
    · have := g.ow b z
      rw [h] at this
      cases this
theorem SEnd.le {fl : Fl} (q : SEnd K G D ι F fl s) (io : ι <+: ι1) (fo : Same F F1) : SEnd K G D ι1 F1 fl s := by
  cases fl with
  | nx => exact fun σ' ι' F' H' g i f => q σ' ι' F' H' g (io.trans i) (fo.trans f)
  | rt d => exact q
theorem SEnd.nx (q : SEnd K G D ι F .nx s) (g : GP K G σ s ι1 F1 H1) (io : ι <+: ι1) (fo : Same F F1) : D.nx σ H1 := q σ ι1 F1 H1 g io fo
/-- an expression's reading within a statement -/
theorem gp_leafP {m : Mo α} {f : α → Mo Fl} (g : GP K G σ s ι F H) (h : Wp ((m.bind f) s) (SEnd K G D ι F) noX) :
    Leaf K E m σ s ι F H fun a s1 ι1 F1 H1 => GP K G σ s1 ι1 F1 H1 ∧ Post σ s s1 ι ι1 F F1 H H1 ∧ Wp (f a s1) (SEnd K G D ι1 F1) noX :=
  Wp.imp (Wp.bind h) (fun a s1 h1 ι1 F1 H1 p st => ⟨g.step p st, p, h1.imp (fun fl s2 q => q.le p.io p.exF) fun _ _ z => z⟩) fun e s1 z => z.elim
theorem gp_leaf {m : Mo α} {f : α → Mo Fl} (g : GP K G σ s ι F H) (h : Wp ((m.bind f) s) (SEnd K G D ι F) noX) :
    Leaf K E m σ s ι F H fun a s1 ι1 F1 H1 => GP K G σ s1 ι1 F1 H1 ∧ ι <+: ι1 ∧ Same F F1 ∧ Wp (f a s1) (SEnd K G D ι1 F1) noX :=
  Wp.imp (Wp.bind h) (fun a s1 h1 ι1 F1 H1 p st => ⟨g.step p st, p.io, p.exF, h1.imp (fun fl s2 q => q.le p.io p.exF) fun _ _ z => z⟩) fun e s1 z => z.elim
theorem gp_frz {m : Mo Dv} {f : Dv → Mo Fl} (g : GP K G σ s ι F H) (h : Wp (((mFrz m).bind f) s) (SEnd K G D ι F) noX) :
    Leaf K E m σ s ι F H fun d s1 ι1 F1 H1 => ∀ v, VR K σ s1 ι1 F1 H1 d v → New H d v → ∃ e F2, GP K G σ s1 ι1 F2 H1 ∧ ι <+: ι1 ∧ Same F F2 ∧ Rep K ι1 F2 e v ∧ Wp (f e s1) (SEnd K G D ι1 F2) noX := by
  refine (frz_to (gp_leaf (E := E) g h)).imp fun d s1 ι1 F1 H1 ⟨_, _, k⟩ v rv nv => ?_
  obtain ⟨e, F2, p2, st2, re, g2, io, fo, q⟩ := k v rv nv
  exact ⟨e, F2, g2, io, fo, re, q⟩
theorem GP.put (g : GP K G σ s ι F H) (r : Rep K ι F d v) : GP K G (σ.set i (some v)) { s with env := s.env.set i (some (.val d)) } ι F H := ⟨g.st.put r, g.fp, fun a h => g.ow a (owned_put h)⟩
theorem Sta.putOwn (st : Sta K σ s ι F H) {vs : List V} (h1 : H p = some (.lst vs)) (h2 : F p = none) (h3 : p ∉ ι) (h4 : ¬ Owned σ s p) (h5 : Reps K ι F ds vs) :
    Sta K (σ.set i (some (.ref p))) { s with env := s.env.set i (some (.own ds)) } ι F H := by
  refine ⟨st.hs, by show (s.env.set i _).length = _; rw [List.length_set, List.length_set]; exact st.len, fun k x hx => ?_, fun k xs hx => ?_, fun j k a xs ys g1 g2 g3 g4 => ?_⟩
  · rcases set_at (show (s.env.set i (some (.own ds)))[k]? = _ from hx) with ⟨rfl, e⟩ | ⟨ne, e⟩
    · cases e
    · obtain ⟨u, k1, k2⟩ := st.val k x e
      exact ⟨u, by rw [get_set_ne ne]; exact k1, k2⟩
  · rcases set_at (show (s.env.set i (some (.own ds)))[k]? = _ from hx) with ⟨rfl, e⟩ | ⟨ne, e⟩
    · cases e
      have := set_lt (show (s.env.set k (some (.own ds)))[k]? = _ from hx)
      exact ⟨p, vs, get_set_eq (by rw [← st.len]; exact this), h2, h3, h1, h5⟩
    · obtain ⟨a, us, k1, k2⟩ := st.own k xs e
      exact ⟨a, us, by rw [get_set_ne ne]; exact k1, k2⟩
  · rcases set_at (show (s.env.set i (some (.own ds)))[j]? = _ from g1) with ⟨e0, e⟩ | ⟨n1, e1⟩
    · rcases set_at (show (s.env.set i (some (.own ds)))[k]? = _ from g2) with ⟨f0, f⟩ | ⟨n2, f1⟩
      · rw [e0, f0]
      · exfalso
        rw [get_set_ne n2] at g4
        rw [e0] at g1 g3
        rw [get_set_eq (by rw [← st.len]; exact set_lt (show (s.env.set i (some (.own ds)))[i]? = _ from g1))] at g3
        cases g3
        exact h4 ⟨k, ys, f1, g4⟩
    · rw [get_set_ne n1] at g3
      rcases set_at (show (s.env.set i (some (.own ds)))[k]? = _ from g2) with ⟨f0, f⟩ | ⟨n2, f1⟩
      · exfalso
        rw [f0] at g2
        rw [f0, get_set_eq (by rw [← st.len]; exact set_lt (show (s.env.set i (some (.own ds)))[i]? = _ from g2))] at g4
        cases g4
        exact h4 ⟨j, xs, e1, g3⟩
      · rw [get_set_ne n2] at g4
        exact st.apart j k a xs ys e1 f1 g3 g4
theorem owned_putOwn {a : Addr} (h : Owned (σ.set i (some (.ref p))) { s with env := s.env.set i (some (.own ds)) } a) : a = p ∨ Owned σ s a := by
  obtain ⟨j, xs, h1, h2⟩ := h
  rcases set_at (show (s.env.set i (some (.own ds)))[j]? = _ from h1) with ⟨e, _⟩ | ⟨n1, e1⟩
  · rw [e] at h2
    rcases set_at h2 with ⟨_, q⟩ | ⟨n, _⟩
    · cases q
      exact .inl rfl
    · exact (n rfl).elim
  · rw [get_set_ne n1] at h2
    exact .inr ⟨j, xs, e1, h2⟩
theorem GP.putOwn (g : GP K G σ s ι F H) {vs : List V} (h1 : H p = some (.lst vs)) (h2 : F p = none) (h3 : p ∉ ι) (h4 : ¬ Owned σ s p) (h5 : Reps K ι F ds vs) (h6 : G.H p = none) :
    GP K G (σ.set i (some (.ref p))) { s with env := s.env.set i (some (.own ds)) } ι F H :=
  ⟨g.st.putOwn h1 h2 h3 h4 h5, g.fp, fun a h => by
    rcases owned_putOwn h with rfl | h
    · exact h6
    · exact g.ow a h⟩
/-- the list of a slot is frozen -/
theorem GP.fix (g : GP K G σ s ι F H) (h : s.env[i]? = some (some (.own ds))) : ∃ F', GP K G σ { s with env := s.env.set i (some (.val (.lst ds))) } ι F' H ∧ Same F F' := by
  obtain ⟨a, vs, h1, h2, h3, h4, h5⟩ := g.st.own i ds h
  have ha : G.H a = none := g.ow a ⟨i, ds, h, h1⟩
  have hi := lt_get h
  have sm : Same F (upd F a (.lst vs)) := same_upd h2
  -- the slot forgotten
  have st0 : Sta K σ { s with env := s.env.set i none } ι F H := by
    refine ⟨g.st.hs, by show (s.env.set i _).length = _; rw [List.length_set]; exact g.st.len, fun k x hx => ?_, fun k xs hx => ?_, fun j k b xs ys g1 g2 g3 g4 => ?_⟩
    · rcases set_at (show (s.env.set i none)[k]? = _ from hx) with ⟨_, e⟩ | ⟨_, e⟩
      · cases e
      · exact g.st.val k x e
    · rcases set_at (show (s.env.set i none)[k]? = _ from hx) with ⟨_, e⟩ | ⟨_, e⟩
      · cases e
      · exact g.st.own k xs e
    · rcases set_at (show (s.env.set i none)[j]? = _ from g1) with ⟨_, e⟩ | ⟨_, e⟩
      · cases e
      · rcases set_at (show (s.env.set i none)[k]? = _ from g2) with ⟨_, f⟩ | ⟨_, f⟩
        · cases f
        · exact g.st.apart j k b xs ys e f g3 g4
  have no : ¬ Owned σ { s with env := s.env.set i none } a := fun ⟨j, xs, k1, k2⟩ => by
    rcases set_at (show (s.env.set i none)[j]? = _ from k1) with ⟨_, e⟩ | ⟨n, e⟩
    · cases e
    · exact n (g.st.apart j i a xs ds e h k2 h1)
  have st1 := st0.frz h4 h2 h3 no
  have st2 : Sta K σ { s with env := s.env.set i (some (.val (.lst ds))) } ι (upd F a (.lst vs)) H := by
    have := st1.put (i := i) (d := .lst ds) (v := .ref a) (.lst (.inl upd_same) (h5.mono (List.prefix_refl _) sm))
    have e1 : σ.set i (some (V.ref a)) = σ := List.ext_getElem? fun k => by
      by_cases e : k = i
      · subst e
        rw [h1, get_set_eq (by rw [← g.st.len]; exact hi)]
      · rw [get_set_ne e]
    have e2 : (s.env.set i none).set i (some (.val (.lst ds))) = s.env.set i (some (.val (.lst ds))) := List.set_set ..
    rw [e1] at this
    have this : Sta K σ { s with env := (s.env.set i none).set i (some (.val (.lst ds))) } ι (upd F a (.lst vs)) H := this
    rw [e2] at this
    exact this
  refine ⟨_, ⟨st2, ⟨g.fp.io, g.fp.exF.trans sm, fun b k1 k2 => ?_, g.fp.newI, g.fp.dom, g.fp.keep⟩, fun b ⟨j, xs, k1, k2⟩ => ?_⟩, sm⟩
  · have ne : b ≠ a := fun e => k2 (e ▸ ha)
    rw [upd_ne ne]
    exact g.fp.newF b k1 k2
  · rcases set_at (show (s.env.set i (some (.val (.lst ds))))[j]? = _ from k1) with ⟨_, e⟩ | ⟨_, e⟩
    · cases e
    · exact g.ow b ⟨j, xs, e, k2⟩
end

/-! ### mirrors -/
def sNil : Mo Fl := Mo.pure .nx
def thenS (fl : Fl) (m : Mo Fl) : Mo Fl := match fl with
  | .nx => m
  | .rt d => Mo.pure (.rt d)
def sSeq (a b : Mo Fl) : Mo Fl := a.bind fun fl => thenS fl b
def sDrop (m : Mo Dv) : Mo Fl := m.bind fun _ => Mo.pure .nx
def sSet (i : Nat) (m : Mo Dv) : Mo Fl := (mFrz m).bind fun d s => .ok .nx { s with env := s.env.set i (some (.val d)) }
def sOwn (i : Nat) (m : Mo Dv) : Mo Fl := m.bind fun d s => match d with
  | .tmp ds => .ok .nx { s with env := s.env.set i (some (.own ds)) }
  | _ => .no
def sFix (i : Nat) : Mo Fl := fun s => match s.env[i]? with
  | some (some (.own ds)) => .ok .nx { s with env := s.env.set i (some (.val (.lst ds))) }
  | _ => .no
def sTo (put : Dv → Env → Option Env) (m : Mo Dv) : Mo Fl := (mFrz m).bind fun d s => match put d s.env with
  | some e => .ok .nx { s with env := e }
  | none => .no
def sRet (m : Mo Dv) : Mo Fl := (mFrz m).bind fun d s => .ok (.rt d) s
def sRetN : Mo Fl := Mo.pure (.rt .non)
def sIf (c : Mo Bool) (a b : Mo Fl) : Mo Fl := c.bind fun t => if t = true then a else b
def sWhile (c : Mo Bool) (b : Mo Fl) : Nat → Mo Fl
  | 0 => mNo
  | n + 1 => c.bind fun t => if t = true then b.bind fun fl => thenS fl (sWhile c b n) else Mo.pure .nx
open Classical in
noncomputable def sLoop (c : Mo Bool) (b : Mo Fl) : Mo Fl := fun s => if h : ∃ n, sWhile c b n s ≠ .no then sWhile c b h.choose s else .no
def forS (put : Dv → Env → Option Env) (b : Mo Fl) : List Dv → Mo Fl
  | [] => Mo.pure .nx
  | d :: ds => fun s => match put d s.env with
    | some e => (b.bind fun fl => thenS fl (forS put b ds)) { s with env := e }
    | none => .no
def sFor (put : Dv → Env → Option Env) (ml : Mo (List Dv)) (b : Mo Fl) : Mo Fl := ml.bind fun ds => forS put b ds
def setAt (s : Mem) (d : Dv) (k : Int) (e : Dv) : Option Mem := match getL s d with
  | some ds => match ixN ds.length k with
    | some j => some (setL s d (ds.set j e))
    | none => none
  | none => none
def sSub (mv mo mi : Mo Dv) : Mo Fl := (mFrz mv).bind fun e => mo.bind fun d => mi.bind fun i s => match i with
  | .int k => match setAt s d k e with
    | some s' => .ok .nx s'
    | none => .no
  | _ => .no
def sAug (f : Int → Int → Int) (i : Nat) (m : Mo Dv) : Mo Fl := fun s => match s.env[i]? with
  | some (some (.val (.int a))) => (m.bind fun d s => match d with
    | .int b => .ok .nx { s with env := s.env.set i (some (.val (.int (f a b)))) }
    | _ => .no) s
  | _ => .no
/-- a value to a slot: frozen, or the slot's own -/
def put1 (b : Bool) (i : Nat) (d : Dv) : Mo Fl := fun s => match b, d with
  | true, .tmp ds => .ok .nx { s with env := s.env.set i (some (.own ds)) }
  | true, _ => .no
  | false, .tmp _ => .no
  | false, .own _ => .no
  | false, d => .ok .nx { s with env := s.env.set i (some (.val d)) }
def mFrzB (b : Bool) (m : Mo Dv) : Mo Dv := if b = true then m else mFrz m
def sPar (b c : Bool) (i j : Nat) (ma mb : Mo Dv) : Mo Fl := (mFrzB b ma).bind fun d => (mFrzB c mb).bind fun e => (put1 b i d).bind fun _ => put1 c j e
def sPar3 (i j l : Nat) (ms : Mo (List Dv)) : Mo Fl := ms.bind fun ds s => match ds with
  | [a, b, c] => .ok .nx { s with env := ((s.env.set i (some (.val a))).set j (some (.val b))).set l (some (.val c)) }
  | _ => .no
section
variable {X : Cx} {st : Stmt} {rest : List Stmt} {ma mb m : Mo Fl} {me mo mi mv : Mo Dv} {mt : Mo Bool} {e o k : Expr} {pos tpos : Pos}
theorem ss_nil : PSs X [] (tS X.K sNil) := PSs.imp pss_nil fun D σ H ⟨G, s, ι, F, g, h⟩ => h σ ι F H g (List.prefix_refl _) (Same.refl _)
/-- behind a part -/
theorem seq_ends {K : PySem.W.Frag} {G : Ent} {D : Ends} {s : Mem} {ι : List Addr} {F : Hp} {N : Ends} (hr : N.rt = D.rt) (hn : ∀ s1 σ' ι' F' H', GP K G σ' s1 ι' F' H' → ι <+: ι' → Same F F' → Wp (m s1) (SEnd K G D ι F) noX → N.nx σ' H')
    (h : Wp ((ma.bind fun fl => thenS fl m) s) (SEnd K G D ι F) noX) : Wp (ma s) (SEnd K G N ι F) noX := by
  refine Wp.imp (Wp.bind h) (fun fl s1 q => ?_) fun _ _ z => z
  cases fl with
  | nx => exact fun σ' ι' F' H' g io fo => hn s1 σ' ι' F' H' g io fo q
  | rt d =>
    intro v ι' F' H' p hs r
    rw [hr]
    exact q v ι' F' H' p hs r
theorem ss_cons (h1 : PS X st (tS X.K ma)) (h2 : PSs X rest (tS X.K mb)) : PSs X (st :: rest) (tS X.K (sSeq ma mb)) := PSs.imp (pss_cons h1 h2) fun D σ H ⟨G, s, ι, F, g, h⟩ =>
  ⟨G, s, ι, F, g, seq_ends (D := D) (N := { D with nx := tS X.K mb D }) rfl (fun s1 σ' ι' F' H' g' io fo q => ⟨G, s1, ι', F', g', q.imp (fun fl s2 q => q.le io fo) fun _ _ z => z⟩) h⟩
theorem ss_fix {i : Nat} (h : PSs X rest (tS X.K m)) : PSs X rest (tS X.K (sSeq (sFix i) m)) := PSs.imp h fun D σ H ⟨G, s, ι, F, g, h⟩ => by
  have h' := Wp.bind h
  unfold sFix at h'
  split at h'
  · rename_i ds hd
    obtain ⟨F', g', sm⟩ := g.fix hd
    exact ⟨G, _, ι, F', g', Wp.imp (show Wp (m _) _ _ from h') (fun fl s2 q => q.le (List.prefix_refl _) sm) fun _ _ z => z⟩
  · exact h'.elim
theorem ss_drop (he : PE X e (tI X.K EE me)) (hs : swapsWith e none pos.line X.env = pure false := by rfl) : PS X (.Expr e pos) (tS X.K (sDrop me)) := PS.imp (ps_expr he hs) fun D σ H ⟨G, s, ι, F, g, h⟩ =>
  ⟨s, ι, F, g.st, (gp_leaf g h).imp fun d s1 ι1 F1 H1 ⟨g1, io, fo, q⟩ v rv nv => SEnd.nx (show SEnd X.K G D ι1 F1 .nx s1 from q) g1 (List.prefix_refl _) (Same.refl _)⟩
theorem ss_ret (he : PE X e (tI X.K EE me)) : PS X (.Return (some e) pos) (tS X.K (sRet me)) := PS.imp (ps_ret he) fun D σ H ⟨G, s, ι, F, g, h⟩ =>
  ⟨s, ι, F, g.st, (gp_frz g h).imp fun d s1 ι1 F1 H1 k v rv nv => by
    obtain ⟨e, F2, g2, io, fo, re, q⟩ := k v rv nv
    exact (show SEnd X.K G D ι1 F2 (.rt e) s1 from q) v ι1 F2 H1 g2.fp g2.st.hs re⟩
theorem ss_retN : PS X (.Return none pos) (tS X.K sRetN) := PS.imp ps_retN fun D σ H ⟨G, s, ι, F, g, h⟩ => h .non ι F H g.fp g.st.hs .non
theorem ss_if {c : Expr} {a b : List Stmt} (hc : PT X c (tT X.K EE mt)) (ha : PSs X a (tS X.K ma)) (hb : PSs X b (tS X.K mb)) : PS X (.If c a b pos) (tS X.K (sIf mt ma mb)) := PS.imp (ps_if hc ha hb) fun D σ H ⟨G, s, ι, F, g, h⟩ =>
  ⟨s, ι, F, g.st, (gp_leaf g h).imp fun t s1 ι1 F1 H1 ⟨g1, io, fo, q⟩ => by
    cases t with
    | true => exact iteT ⟨G, s1, ι1, F1, g1, q⟩
    | false => exact iteF ⟨G, s1, ι1, F1, g1, q⟩⟩
theorem ss_set (i : Nat) {x : Str} {pos' : Pos} (hN : X.N.Nodup) (he : PE X e (tI X.K EE me)) (hi : X.N[i]? = some x := by rfl) (hx : Loc X.env.scope x := by first | exact Or.inl rfl | exact Or.inr rfl) (hs : swapsWith e (some (.Name x pos')) pos.line X.env = pure false := by rfl) (hf : X.fn x = true ∨ X.env.scope.names.lookup x = some .local := by first | exact .inl rfl | exact .inr rfl) :
    PS X (.Assign [.Name x pos'] e pos) (tS X.K (sSet i me)) := PS.imp (ps_set hN hi hx he hs hf) fun D σ H ⟨G, s, ι, F, g, h⟩ =>
  ⟨s, ι, F, g.st, (gp_frz g h).imp fun d s1 ι1 F1 H1 k v rv nv => by
    obtain ⟨e, F2, g2, io, fo, re, q⟩ := k v rv nv
    exact SEnd.nx (show SEnd X.K G D ι1 F2 .nx _ from q) (g2.put re) (List.prefix_refl _) (Same.refl _)⟩
theorem own_to {K : PySem.W.Frag} {G : Ent} {D : Ends} {σ : L2.St} {s : Mem} {ι : List Addr} {F H : Hp} {i : Nat} (g : GP K G σ s ι F H) (h : Wp (sOwn i me s) (SEnd K G D ι F) noX) :
    Leaf K EE me σ s ι F H fun d s' ι' F' H' => ∀ v, VR K σ s' ι' F' H' d v → New H d v → D.nx (σ.set i (some v)) H' :=
  (gp_leaf g h).imp fun d s1 ι1 F1 H1 ⟨g1, io, fo, q⟩ v rv nv => by
    cases d with
    | tmp ds =>
      obtain ⟨p, vs, rfl, k1, k2, k3, k4, k5⟩ := rv
      exact SEnd.nx (show SEnd K G D ι1 F1 .nx _ from q) (g1.putOwn k1 k2 k3 k4 k5 (g.fp.dom p (nv p rfl))) (List.prefix_refl _) (Same.refl _)
    | _ => exact (show False from q).elim
theorem ss_own (i : Nat) {x : Str} {pos' : Pos} (hN : X.N.Nodup) (he : PE X e (tI X.K EE me)) (hi : X.N[i]? = some x := by rfl) (hx : Loc X.env.scope x := by first | exact Or.inl rfl | exact Or.inr rfl) (hs : swapsWith e (some (.Name x pos')) pos.line X.env = pure false := by rfl) (hf : X.fn x = true ∨ X.env.scope.names.lookup x = some .local := by first | exact .inl rfl | exact .inr rfl) :
    PS X (.Assign [.Name x pos'] e pos) (tS X.K (sOwn i me)) := PS.imp (ps_set hN hi hx he hs hf) fun D σ H ⟨G, s, ι, F, g, h⟩ => ⟨s, ι, F, g.st, own_to g h⟩
theorem ss_to {tg : Expr} {g : TG} {is : List Nat} {put : Dv → Env → Option Env} (gk : GOk X.K g is put) (hg : PG X tg g) (he : PE X e (tI X.K EE me)) (hs : swapsWithSole [tg] e pos.line X.env = pure false := by rfl) (hw : swappedStores [tg] e X.env = pure none := by rfl)
    (h1 : (assignEach [tg] X.env).map (·.2) = [assign tg X.env] := by rfl) : PS X (.Assign [tg] e pos) (tS X.K (sTo put me)) := PS.imp (ps_asg he hg hs hw h1) fun D σ H ⟨G, s, ι, F, gp, h⟩ =>
  ⟨s, ι, F, gp.st, (gp_frz gp h).imp fun d s1 ι1 F1 H1 k v rv nv => by
    obtain ⟨e, F2, g2, io, fo, re, q⟩ := k v rv nv
    cases hp : put e s1.env with
    | none => rw [hp] at q; exact q.elim
    | some e1 =>
      rw [hp] at q
      obtain ⟨σ', st', ow', _, _, gq⟩ := gk.to _ _ ι1 F2 H1 e v e1 g2.st re hp
      exact gq _ (SEnd.nx (show SEnd X.K G D ι1 F2 .nx _ from q) ⟨st', g2.fp, fun a z => g2.ow a (ow' a z)⟩ (List.prefix_refl _) (Same.refl _))⟩
theorem ss_while {c : Expr} {body : List Stmt} (hp : PassesOwn (model X.prog X.w) X.A X.env X.xe) (hc : PT X c (tT X.K EE mt)) (hb : PSs X body (tS X.K mb)) : PS X (.While c body [] pos) (tS X.K (sLoop mt mb)) := PS.imp (ps_while hp hc hb) fun D σ H ⟨G, s, ι, F, g, h⟩ => by
  unfold sLoop at h
  split at h
  · rename_i hn
    generalize hn.choose = n at h
    refine ⟨fun m σ' H' => ∃ s' ι' F', GP X.K G σ' s' ι' F' H' ∧ Wp (sWhile mt mb m s') (SEnd X.K G D ι' F') noX, ⟨n, s, ι, F, g, h⟩, ?_⟩
    rintro m σ1 H1 ⟨s1, ι1, F1, g1, h1⟩
    cases m with
    | zero => exact h1.elim
    | succ m =>
      refine ⟨s1, ι1, F1, g1.st, (gp_leaf g1 h1).imp fun t s2 ι2 F2 H2 ⟨g2, io, fo, q⟩ => ?_⟩
      cases t with
      | false => exact iteF (SEnd.nx (show SEnd X.K G D ι2 F2 .nx s2 from q) g2 (List.prefix_refl _) (Same.refl _))
      | true =>
        refine iteT ⟨fun σ' H' => ∃ s' ι' F', GP X.K G σ' s' ι' F' H' ∧ Wp (sWhile mt mb m s') (SEnd X.K G D ι' F') noX, fun σ' H' z => ⟨m, Nat.lt_succ_self _, z⟩, G, s2, ι2, F2, g2, ?_⟩
        exact seq_ends (D := D) (m := sWhile mt mb m) rfl (fun s3 σ' ι' F' H' g' io' fo' q' => ⟨s3, ι', F', g', q'.imp (fun fl s4 q => q.le io' fo') fun _ _ z => z⟩) q
  · exact h.elim
theorem ss_for {tg iter : Expr} {body : List Stmt} {g : TG} {is : List Nat} {put : Dv → Env → Option Env} {ml : Mo (List Dv)} (hp : PassesOwn (model X.prog X.w) X.A X.env X.xe) (hc : X.calm = true) (hi : PI X tg iter (WI X.K EE ml)) (gk : GOk X.K g is put) (hg : PG X tg g) (hb : PSs X body (tS X.K mb))
    (hs : ∀ x, foldedSetIterable iter X.env x = pure x := by intro _; rfl) : PS X (.For tg iter body [] pos) (tS X.K (sFor put ml mb)) := PS.imp (ps_for hp hc hi hg hb hs) fun D σ H ⟨G, s, ι, F, g0, h⟩ => by
  refine ⟨s, ι, F, g0.st, (gp_leaf g0 h).imp fun ds s1 ι1 F1 H1 ⟨g1, io, fo, q⟩ J wk => ?_⟩
  refine ⟨fun i m σ' H' => i ≤ ds.length ∧ m = ds.length - i ∧ ∃ s' ι' F', GP X.K G σ' s' ι' F' H' ∧ ι1 <+: ι' ∧ Same F1 F' ∧ Wp (forS put mb (ds.drop i) s') (SEnd X.K G D ι' F') noX, ⟨ds.length, Nat.zero_le _, by simp, s1, ι1, F1, g1, List.prefix_refl _, Same.refl _, q⟩, ?_⟩
  rintro i m σ2 H2 ⟨hil, rfl, s2, ι2, F2, g2, io2, fo2, h2⟩
  by_cases hlt : i < ds.length
  · have hd : ds[i]? = some ds[i] := List.getElem?_eq_getElem hlt
    rw [List.drop_eq_getElem_cons hlt] at h2
    generalize ds[i] = d at hd h2
    obtain ⟨go, yl⟩ := wk.item i d H2 hd (fo2.trans g2.st.hs.le)
    refine .inr ⟨go, fun σ' H' => i + 1 ≤ ds.length ∧ ∃ s' ι' F', GP X.K G σ' s' ι' F' H' ∧ ι1 <+: ι' ∧ Same F1 F' ∧ Wp (forS put mb (ds.drop (i + 1)) s') (SEnd X.K G D ι' F') noX, fun σ' H' ⟨q1, q2⟩ => ⟨ds.length - (i + 1), by omega, q1, rfl, q2⟩, fun x H3 hy => ?_⟩
    obtain ⟨F3, st3, rx, p3⟩ := yl _ _ ι2 F2 x H3 io2 fo2 g2.st hy
    have g3 := g2.step p3 st3
    unfold forS at h2
    cases hput : put d s2.env with
    | none => rw [hput] at h2; exact h2.elim
    | some e1 =>
      rw [hput] at h2
      dsimp only at h2
      obtain ⟨σ4, st4, ow4, _, _, gq⟩ := gk.to _ _ ι2 F3 H3 d x e1 st3 rx hput
      have g4 : GP X.K G σ4 { s2 with env := e1 } ι2 F3 H3 := ⟨st4, g3.fp, fun a z => g3.ow a (ow4 a z)⟩
      refine gq _ ⟨G, _, ι2, F3, g4, ?_⟩
      refine seq_ends (D := D) (m := forS put mb (ds.drop (i + 1))) rfl (fun s5 σ' ι' F' H' g' io' fo' q' => ⟨hlt, s5, ι', F', g', io2.trans io', (fo2.trans p3.exF).trans fo', q'.imp (fun fl s4 q => q.le io' fo') fun _ _ z => z⟩) ?_
      exact h2.imp (fun fl s5 q => q.le (List.prefix_refl _) p3.exF) fun _ _ z => z
  · have e : i = ds.length := by omega
    subst e
    rw [List.drop_length] at h2
    exact .inl ⟨wk.stop H2 (fo2.trans g2.st.hs.le), SEnd.nx (show SEnd X.K G D ι2 F2 .nx s2 from h2) g2 (List.prefix_refl _) (Same.refl _)⟩
theorem ss_sub (hv : PE X e (tI X.K EE mv)) (ho : PE X o (tI X.K EE mo)) (hk : PE X k (tI X.K EE mi)) (ha : ∀ v, assign (.Subscript o k tpos) X.env v = (do
      let ov ← holding [v] (eval o X.env)
      let iv ← holding [v, ov] (eval k X.env)
      standAt tpos
      holding [v, ov, iv] (setItem ov iv v)
      release [v, ov, iv] []) := by intro _; rfl) (hs : swapsWithSole [.Subscript o k tpos] e pos.line X.env = pure false := by rfl) (hw : swappedStores [.Subscript o k tpos] e X.env = pure none := by rfl)
    (h1 : (assignEach [.Subscript o k tpos] X.env).map (·.2) = [assign (.Subscript o k tpos) X.env] := by rfl) : PS X (.Assign [.Subscript o k tpos] e pos) (tS X.K (sSub mv mo mi)) := PS.imp (ps_asg hv (pg_sub ho hk set_list ha) hs hw h1) fun D σ H ⟨G, s, ι, F, g, h⟩ =>
  ⟨s, ι, F, g.st, (gp_frz g h).imp fun d s1 ι1 F1 H1 kk v rv nv => by
    obtain ⟨e, F2, g2, io, fo, re, q⟩ := kk v rv nv
    refine ⟨s1, ι1, F2, g2.st, (gp_leafP g2 q).imp fun d s3 ι3 F3 H3 ⟨g3, p3, q3⟩ ov rov nov => ?_⟩
    refine ⟨s3, ι3, F3, g3.st, (gp_leafP g3 q3).imp fun i s4 ι4 F4 H4 ⟨g4, p4, q4⟩ iv riv niv => ?_⟩
    cases i with
    | int n =>
      have r' : Rep X.K ι4 F4 (.int n) iv := riv
      cases r'
      unfold setAt at q4
      dsimp only at q4
      cases hg : getL s4 d with
      | none => rw [hg] at q4; exact q4.elim
      | some ds =>
        rw [hg] at q4
        dsimp only at q4
        cases hj : ixN ds.length n with
        | none => rw [hj] at q4; exact q4.elim
        | some j =>
          rw [hj] at q4
          obtain ⟨a, vs, rfl, k1, k2, k3⟩ := setL_ok g4.st (rov.mono p4) hg
          obtain ⟨pp, ss⟩ := k3 (ds.set j e) (vs.set j v) (Reps.set ((re.mono p3.io p3.exF).mono p4.io p4.exF) j k2)
          exact ⟨a, vs, n, j, rfl, rfl, k1, by rw [k2.length]; exact hj, SEnd.nx (show SEnd X.K G D ι4 F4 .nx _ from q4) (g4.step pp ss) (List.prefix_refl _) (Same.refl _)⟩
    | _ => exact (show False from q4).elim⟩
theorem ss_aug (i : Nat) {f : Int → Int → Int} {x : Str} {op : Operator} {pos' : Pos} (hN : X.N.Nodup) (he : PE X e (tI X.K EE me)) (ho : PIp X op (ipI f)) (hi : X.N[i]? = some x := by rfl) (hx : Loc X.env.scope x := by first | exact Or.inl rfl | exact Or.inr rfl) (hf : X.fn x = true ∨ X.env.scope.names.lookup x = some .local := by first | exact .inl rfl | exact .inr rfl) :
    PS X (.AugAssign (.Name x pos') op e pos) (tS X.K (sAug f i me)) := PS.imp (ps_aug hN hi hx he ho hf) fun D σ H ⟨G, s, ι, F, g, h⟩ => by
  unfold sAug at h
  split at h
  · rename_i a hs
    obtain ⟨v, h1, h2⟩ := g.st.val i _ hs
    cases h2
    refine ⟨_, h1, s, ι, F, g.st, (gp_leaf g h).imp fun d s1 ι1 F1 H1 ⟨g1, io, fo, q⟩ w rw' nw => ?_⟩
    cases d with
    | int b =>
      have r' : Rep X.K ι1 F1 (.int b) w := rw'
      cases r'
      exact ⟨a, b, rfl, rfl, SEnd.nx (show SEnd X.K G D ι1 F1 .nx _ from q) (g1.put (.int _)) (List.prefix_refl _) (Same.refl _)⟩
    | _ => exact (show False from q).elim
  · exact h.elim
/-- a value that may go to a slot -/
theorem frzB_to {K : PySem.W.Frag} {G : Ent} {D : Ends} {σ : L2.St} {s : Mem} {ι : List Addr} {F H : Hp} {b : Bool} {m : Mo Dv} {f : Dv → Mo Fl} (g : GP K G σ s ι F H) (h : Wp (((mFrzB b m).bind f) s) (SEnd K G D ι F) noX) :
    Leaf K EE m σ s ι F H fun d s1 ι1 F1 H1 => ∀ v, VR K σ s1 ι1 F1 H1 d v → New H d v → ∃ e F2, GP K G σ s1 ι1 F2 H1 ∧ Post σ s s1 ι ι1 F F2 H H1 ∧ VR K σ s1 ι1 F2 H1 e v ∧ New H e v ∧ Wp (f e s1) (SEnd K G D ι1 F2) noX := by
  cases b with
  | true => exact (gp_leafP g h).imp fun d s1 ι1 F1 H1 ⟨g1, p1, q⟩ v rv nv => ⟨d, F1, g1, p1, rv, nv, q⟩
  | false =>
    refine (frz_to (gp_leafP (E := EE) g h)).imp fun d s1 ι1 F1 H1 ⟨_, _, k⟩ v rv nv => ?_
    obtain ⟨e, F2, p2, st2, re, g2, _, q⟩ := k v rv nv
    exact ⟨e, F2, g2, p2, rep_vr re, rep_new re, q⟩
/-- the store itself; what else is held stays held -/
theorem put1_to {K : PySem.W.Frag} {G : Ent} {D : Ends} {σ : L2.St} {s : Mem} {ι : List Addr} {F H : Hp} {b : Bool} {i : Nat} {d : Dv} {v : V} {f : Unit → Mo Fl} (g : GP K G σ s ι F H) (r : VR K σ s ι F H d v) (n : New G.H d v)
    (h : Wp (((put1 b i d).bind fun _ => f ()) s) (SEnd K G D ι F) noX) : ∃ s', GP K G (σ.set i (some v)) s' ι F H ∧ (∀ a, Owned (σ.set i (some v)) s' a → v = .ref a ∧ (∃ ds, d = .tmp ds) ∨ Owned σ s a) ∧ Wp (f () s') (SEnd K G D ι F) noX := by
  have h' := Wp.bind h
  cases b with
  | true =>
    cases d with
    | tmp ds =>
      obtain ⟨p, vs, rfl, k1, k2, k3, k4, k5⟩ := r
      exact ⟨_, g.putOwn k1 k2 k3 k4 k5 (n p rfl), fun a z => (owned_putOwn z).imp (fun e => ⟨by rw [e], _, rfl⟩) id, h'⟩
    | _ => exact (show False from h').elim
  | false =>
    have pl : ∀ d' : Dv, d' = d → Rep K ι F d' v → Wp (f () { s with env := s.env.set i (some (.val d')) }) (SEnd K G D ι F) noX → _ := fun d' e re q => (⟨_, g.put (i := i) re, fun a z => .inr (owned_put z), q⟩ : ∃ s', GP K G (σ.set i (some v)) s' ι F H ∧ (∀ a, Owned (σ.set i (some v)) s' a → v = .ref a ∧ (∃ ds, d = .tmp ds) ∨ Owned σ s a) ∧ Wp (f () s') (SEnd K G D ι F) noX)
    cases d with
    | tmp ds => exact (show False from h').elim
    | own k => exact (show False from h').elim
    | _ => exact pl _ rfl r h'
theorem new_dom {H H1 : Hp} {d : Dv} {v : V} (h : ∀ b, H1 b = none → H b = none) (n : New H1 d v) : New H d v := by
  cases d with
  | tmp ds => exact fun q e => h q (n q e)
  | _ => exact True.intro
theorem put2_to {K : PySem.W.Frag} {G : Ent} {D : Ends} {σ : L2.St} {s : Mem} {ι : List Addr} {F H : Hp} {b : Bool} {i : Nat} {d : Dv} {v : V} (g : GP K G σ s ι F H) (n : New G.H d v)
    (r : match d with
      | .tmp ds => ∃ p vs, v = .ref p ∧ H p = some (.lst vs) ∧ F p = none ∧ p ∉ ι ∧ ¬ Owned σ s p ∧ Reps K ι F ds vs
      | .own i => True
      | d => Rep K ι F d v)
    (h : Wp (put1 b i d s) (SEnd K G D ι F) noX) : D.nx (σ.set i (some v)) H := by
  cases b with
  | true =>
    cases d with
    | tmp ds =>
      obtain ⟨p, vs, rfl, k1, k2, k3, k4, k5⟩ := r
      exact SEnd.nx (show SEnd K G D ι F .nx _ from h) (g.putOwn k1 k2 k3 k4 k5 (n p rfl)) (List.prefix_refl _) (Same.refl _)
    | _ => exact (show False from h).elim
  | false =>
    cases d with
    | tmp ds => exact (show False from h).elim
    | own k => exact (show False from h).elim
    | _ => exact SEnd.nx (show SEnd K G D ι F .nx _ from h) (g.put r) (List.prefix_refl _) (Same.refl _)
theorem ss_par (bi bj : Bool) (i j : Nat) {x y : Str} {a b : Expr} {ma mb : Mo Dv} {px py pt : Pos} {kt k2 pt2} (hc : X.calm = true) (hN : X.N.Nodup) (ha : PE X a (tI X.K EE ma)) (hb : PE X b (tI X.K EE mb)) 
    (hw : swappedStores [.Tuple [.Name x px, .Name y py] kt pt] (.Tuple [a, b] k2 pt2) X.env = pure (some [x, y]))
    (hi : X.N[i]? = some x := by rfl) (hj : X.N[j]? = some y := by rfl) (hij : i ≠ j := by decide)
    (hx : X.env.scope.names.lookup x = some .local := by rfl) (hy : X.env.scope.names.lookup y = some .local := by rfl) 
    (hs : swapsWithSole [.Tuple [.Name x px, .Name y py] kt pt] (.Tuple [a, b] k2 pt2) pos.line X.env = pure false := by rfl)
    (hs1 : starEach (a :: [b]) X.env = (false, eval a X.env) :: starEach [b] X.env := by rfl) (hs2 : starEach (b :: []) X.env = (false, eval b X.env) :: starEach [] X.env := by rfl) :
    PS X (.Assign [.Tuple [.Name x px, .Name y py] kt pt] (.Tuple [a, b] k2 pt2) pos) (tS X.K (sPar bi bj i j ma mb)) := PS.imp (ps_par hc hN hi hj hij hx hy (pa_cons ha (pa_cons hb pa_nil hs2) hs1) hw hs) fun D σ H ⟨G, s, ι, F, g, h⟩ => by
  refine ⟨s, ι, F, g.st, (frzB_to g h).imp fun d s1 ι1 F1 H1 k v rv nv => ?_⟩
  obtain ⟨d, F1', g1, p1, rd, nd, q1⟩ := k v rv nv
  refine ⟨s1, ι1, F1', g1.st, (frzB_to g1 q1).imp fun e s2 ι2 F2 H2 k2 w rw' nw => ?_⟩
  obtain ⟨e, F2', g2, p2, re, ne, q2⟩ := k2 w rw' nw
  obtain ⟨s3, g3, ow, q3⟩ := put1_to (f := fun _ => put1 bj j e) g2 (rd.mono p2) (new_dom g.fp.dom nd) q2
  refine ⟨v, w, rfl, put2_to g3 (new_dom (fun b z => g.fp.dom b (p1.dom b z)) ne) ?_ q3⟩
  cases e with
  | tmp ds =>
    obtain ⟨p, vs, rfl, k1, k2, k3, k4, k5⟩ := re
    refine ⟨p, vs, rfl, k1, k2, k3, fun z => ?_, k5⟩
    rcases ow p z with ⟨ev, xs, ed⟩ | z
    · subst ed
      obtain ⟨p', us, e', m1, _⟩ := rd
      rw [ev] at e'
      cases e'
      rw [ne p rfl] at m1
      cases m1
    · exact k4 z
  | own k => exact True.intro
  | _ => exact re
theorem ss_par3 (i j l : Nat) {x y z : Str} {a b c : Expr} {ms : Mo (List Dv)} {px py pz pt : Pos} {kt k2 pt2} (hc : X.calm = true) (hN : X.N.Nodup) (ha : PA X [a, b, c] (tIA X.K EE ms))
    (hw : swappedStores [.Tuple [.Name x px, .Name y py, .Name z pz] kt pt] (.Tuple [a, b, c] k2 pt2) X.env = pure (some [x, y, z]))
    (hi : X.N[i]? = some x := by rfl) (hj : X.N[j]? = some y := by rfl) (hl : X.N[l]? = some z := by rfl) (hij : i ≠ j := by decide) (hil : i ≠ l := by decide) (hjl : j ≠ l := by decide)
    (hx : X.env.scope.names.lookup x = some .local := by rfl) (hy : X.env.scope.names.lookup y = some .local := by rfl) (hz : X.env.scope.names.lookup z = some .local := by rfl)
    (hs : swapsWithSole [.Tuple [.Name x px, .Name y py, .Name z pz] kt pt] (.Tuple [a, b, c] k2 pt2) pos.line X.env = pure false := by rfl) :
    PS X (.Assign [.Tuple [.Name x px, .Name y py, .Name z pz] kt pt] (.Tuple [a, b, c] k2 pt2) pos) (tS X.K (sPar3 i j l ms)) := PS.imp (ps_par3 hc hN hi hj hl hij hil hjl hx hy hz ha hw hs) fun D σ H ⟨G, s, ι, F, g, h⟩ =>
  ⟨s, ι, F, g.st, (gp_leaf g h).imp fun ds s1 ι1 F1 H1 ⟨g1, io, fo, q⟩ vs rs => by
    split at q
    · cases rs with
      | cons r1 rs =>
        cases rs with
        | cons r2 rs =>
          cases rs with
          | cons r3 rs =>
            cases rs
            exact ⟨_, _, _, rfl, SEnd.nx (show SEnd X.K G D ι1 F1 .nx _ from q) (((g1.put r1).put r2).put r3) (List.prefix_refl _) (Same.refl _)⟩
    · exact q.elim⟩
end

/-! ### defs -/
noncomputable def mFun (N : Nat) (m : Mo Fl) : FM := fun ds h => match m { env := ds.map (fun d => some (.val d)) ++ List.replicate (N - ds.length) none, hp := h } with
  | .ok (.rt d) s => .ok d s.hp
  | .ok .nx s => .ok .non s.hp
  | .ex _ _ => .no
  | .no => .no
theorem start_sta {K : PySem.W.Frag} {N : List Str} {ι : List Addr} {F H : Hp} {h : List Cell} {ds : List Dv} {vs : List V} (hs : HS K ι F H h) (rs : Reps K ι F ds vs) : Sta K (start N vs) { env := ds.map (fun d => some (.val d)) ++ List.replicate (N.length - ds.length) none, hp := h } ι F H := by
  have hl := rs.length
  have no : ∀ (i : Nat) (xs : List Dv), (ds.map (fun d => some (Sl.val d)) ++ List.replicate (N.length - ds.length) none)[i]? ≠ some (some (.own xs)) := fun i xs e => by
    by_cases hi : i < ds.length
    · rw [List.getElem?_append_left (by rw [List.length_map]; exact hi), List.getElem?_map, List.getElem?_eq_getElem hi] at e
      cases (show some (some (Sl.val ds[i])) = _ from e)
    · rw [List.getElem?_append_right (by rw [List.length_map]; omega), List.getElem?_replicate] at e
      split at e <;> cases e
  refine ⟨hs, ?_, fun i d hd => ?_, fun i xs hx => (no i xs hx).elim, fun i j a xs ys h1 _ _ _ => (no i xs h1).elim⟩
  · show (ds.map _ ++ List.replicate _ _).length = (vs.map some ++ List.replicate _ _).length
    simp only [List.length_append, List.length_map, List.length_replicate, hl]
  · have hd' : (ds.map (fun d => some (Sl.val d)) ++ List.replicate (N.length - ds.length) none)[i]? = some (some (.val d)) := hd
    by_cases hi : i < ds.length
    · rw [List.getElem?_append_left (by rw [List.length_map]; exact hi), List.getElem?_map, List.getElem?_eq_getElem hi] at hd'
      have e : ds[i] = d := by
        have z : some (some (Sl.val ds[i])) = some (some (Sl.val d)) := hd'
        cases z
        rfl
      obtain ⟨v, h1, h2⟩ := rs.get (i := i) (d := d) (by rw [List.getElem?_eq_getElem hi, e])
      exact ⟨v, by show (vs.map some ++ _)[i]? = _; rw [List.getElem?_append_left (by rw [List.length_map, hl]; exact hi), List.getElem?_map, h1] <;> rfl, h2⟩
    · rw [List.getElem?_append_right (by rw [List.length_map]; omega), List.getElem?_replicate] at hd'
      split at hd' <;> cases hd'
theorem fun_to {K : PySem.W.Frag} {N : List Str} {n : Nat} {m : Mo Fl} {vs : List V} {H : Hp} {Q : VK} {E : XK} (h : spI K n (mFun N.length m) vs H Q E) : tS K m { nx := fun _ H' => Q .non H', rt := Q } (start N vs) H := by
  obtain ⟨ι, F, hp, ds, hn, hs, rs, h⟩ := h
  refine ⟨⟨ι, F, H⟩, _, ι, F, ⟨start_sta (N := N) hs rs, FPost.refl, fun a ⟨i, xs, h1, _⟩ => ?_⟩, ?_⟩
  · exfalso
    by_cases hi : i < ds.length
    · rw [List.getElem?_append_left (by rw [List.length_map]; exact hi), List.getElem?_map, List.getElem?_eq_getElem hi] at h1
      cases (show some (some (Sl.val ds[i])) = _ from h1)
    · rw [List.getElem?_append_right (by rw [List.length_map]; omega), List.getElem?_replicate] at h1
      split at h1 <;> cases h1
  · unfold mFun at h
    split at h
    · rename_i d s e
      rw [e]
      exact fun v ι' F' H' p hs' r => h v ι' F' H' p hs' r
    · rename_i s e
      rw [e]
      exact fun σ' ι' F' H' g io fo => h .non ι' F' H' g.fp g.st.hs .non
    · exact h.elim
    · exact h.elim
open PyProof.Rows in
theorem fn_ok {P : Program} {w : World} {K : PySem.W.Frag} {mg : Str → Option Value} {base : Heap} {x qual : Str} {st : Stmt} {f : Addr} {fd : FuncData} {N ps : List Str} {k n : Nat} {m : Mo Fl} (Fu : Fun K x qual st f fd) (S : FnScope N ps (defScope st)) (hn : n = ps.length)
    (hbody : ∀ (cdv : Value) (A : Around) (outer : List PySem.Env) (s : Shared) (H : Hp) (Q : VK) (E : XK), Room k (A.deeper (envOfC qual (defScope st) s.heap.objs.size f cdv)) →
      PSs (cxOf CX0 P w K mg base N qual (defScope st) f cdv A outer s H E).nox (defBody st) (tS K m)) : FnOk P w K mg base CX0 (k + 1) f fd ps (spI K n (mFun N.length m)) :=
  Fu.ok S (fun vs H Q E h => by obtain ⟨_, _, _, _, h1, _⟩ := h; rw [h1, hn]) fun cdv A outer s H vs Q E hr h => ⟨tS K m, hbody cdv A outer s H Q E hr, fun_to h⟩
end Mir

set_option Elab.async false
set_option linter.all false
set_option maxRecDepth 100000
set_option maxHeartbeats 1000000
/-! Mir: known defs, keyword calls, name = [..]. -/
namespace Mir
open PySem PySem.Spec L2
/-- a def that is known to do what fm says -/
structure Kn (P : Program) (w : World) (K : PySem.W.Frag) (mg : Str → Option Value) (base : Heap) (k : Nat) (x : Str) (n : Nat) (fm : FM) : Prop where
  ex : ∃ (f : Addr) (fd : FuncData) (ps : List Str), FnOk P w K mg base CX0 k f fd ps (spI K n fm) ∧ mg x = some (.ref f) ∧ PySem.W.keepIn K (.ref f) = true ∧ Binds K fd ps []
/-- one parameter, given by its name -/
structure KnK (P : Program) (w : World) (K : PySem.W.Frag) (mg : Str → Option Value) (base : Heap) (k : Nat) (x p : Str) (fm : FM) : Prop where
  ex : ∃ (f : Addr) (fd : FuncData), FnOk P w K mg base CX0 k f fd [p] (spI K 1 fm) ∧ mg x = some (.ref f) ∧ PySem.W.keepIn K (.ref f) = true ∧ ∀ (s : Shared) (u : Value), K.In s.heap → BindsTo s fd ⟨[], [(p, u)]⟩ [(p, u)]
section
variable {X : Cx} {σ : L2.St} {H : Hp} {Q : VK} {a b e o : Expr} {es : List Expr} {m : Mo Dv} {ms : Mo (List Dv)} {x : Str} {p p2 pos kpos : Pos} {j k n : Nat} {fm : FM}
theorem se_kn (G : Kn X.prog X.w X.K X.mg X.base j x n fm) (hr : Room k X.A) (ha : PA X (e :: es) (tIA X.K EE ms)) (hjk : j ≤ k := by decide) (hg : Gl X x := by rfl) (hdb : (x == ("__debug__" : Str)) = false := by decide) (he : starEach (e :: es) X.env = (false, eval e X.env) :: starEach es X.env := by rfl)
    (hpl : (backTo pos (starEach es X.env)).any (·.1) = false := by rfl) : PE X (.Call (.Name x p) (e :: es) [] pos) (tI X.K EE (mCall fm n ms)) := by
  obtain ⟨f, fd, ps, h1, h2, h3, h4⟩ := G.ex
  exact se_call h1 (hr.mono hjk) h2 h3 h4 pass0 ha hg hdb he hpl
theorem se_knK {ky : Str} (G : KnK X.prog X.w X.K X.mg X.base j x ky fm) (hr : Room k X.A) (ha : PE X e (tI X.K EE m)) (hjk : j ≤ k := by decide) (hg : Gl X x := by rfl) (hdb : (x == ("__debug__" : Str)) = false := by decide)
    (hall : (backToKw pos (keywordEach [⟨some ky, e, kpos⟩] X.env)).all (·.1.isSome) = true := by rfl) (hks : (backToKw pos (keywordEach [⟨some ky, e, kpos⟩] X.env)).filterMap (·.1) = [ky] := by rfl)
    (hpl : ((backTo pos (starEach [] X.env)).any (·.1) || (backToKw pos (keywordEach [⟨some ky, e, kpos⟩] X.env)).any (·.1.isNone)) = false := by rfl) :
    PE X (.Call (.Name x p) [] [⟨some ky, e, kpos⟩] pos) (tI X.K EE (mCall fm 1 (mCons m mNil))) := by
  obtain ⟨f, fd, h1, h2, h3, h4⟩ := G.ex
  refine ⟨fun pins s σ H Q I h => ?_⟩
  have h := call_to (E' := E0) h
  refine wpAny_Call_Name_kw (ld_glob I hg h2 ?_ hdb)
  refine PySem.W.callWith_KW0 (h₀ := X.base) I.ok.mod.kin h3 hall (thn ((pk_cons (nm := some ky) (kpos := kpos) ha pk_nil).run pos pins s σ H (fun zs H2 => spI X.K 1 fm zs H2 Q E0) I ?_) fun ws s2 ⟨zs, H2, I2, rz, q2⟩ => ⟨I2.kIn, ?_⟩) hpl
  · have h' : tIA X.K EE (mCons m mNil) σ H fun vs H1 => spI X.K 1 fm (vs ++ []) H1 Q E0 := h
    have h2 := cons_to h'
    obtain ⟨s', ι, F, st, h3⟩ := h2
    refine ⟨s', ι, F, st, h3.imp fun d s'' ι' F' H' k v rv nv => ?_⟩
    have k2 := nil_to (k v rv nv)
    simpa using k2
  · rw [hks]
    obtain ⟨ι, F, hp, ds, hn, hs, rs, hw⟩ := id q2
    obtain ⟨v, rfl⟩ := List.length_eq_one_iff.mp hn
    obtain ⟨u, rfl, r⟩ := vals1 rz
    refine wpAny_call (codeAny_mono (h1.run X.A X.stack s2 H2 ⟨[], [(ky, u)]⟩ [u] [v] Q E0 (hr.mono hjk) I2.env0 (h4 s2 u I2.kIn) (.cons r .nil) q2) fun r s' hq => ?_)
    cases r with
    | error e => exact pass0 pins σ H2 s2 e s' I2 hq
    | ok fl =>
      cases fl with
      | ret u => exact I2.after hq
      | next => exact False.elim hq
      | brk => exact False.elim hq
      | cont => exact False.elim hq
theorem pts_none {E : XE} : PTs X [] (tT X.K E (Mo.pure true)) := ⟨fun pins s σ H Q I h => pts_nil.run pins s σ H Q I (by
  obtain ⟨s, ι, F, st, h⟩ := h
  exact Leaf.pure st h)⟩
theorem room_units {X : Cx} {k : Nat} (hr : Room k X.A) : X.A.units + 64 < cLine := hr.units
end
/-- what the library's names are -/
structure Blt (mg : Str → Option Value) : Prop where
  len : mg "len" = none
  int : mg "int" = none
  abs : mg "abs" = none
  tuple : mg "tuple" = none
  list : mg "list" = none
  sum : mg "sum" = none
  zip : mg "zip" = none
  range : mg "range" = none
  enumerate : mg "enumerate" = none
  isinstance : mg "isinstance" = none
  dict : mg "dict" = none
  bool : mg "bool" = none
  str : mg "str" = none
section
variable {P : Program} {w : World} {K : PySem.W.Frag} {mg : Str → Option Value} {base : Heap}
theorem kn_mk {x qual : Str} {st : Stmt} {f : Addr} {fd : FuncData} {N ps : List Str} {k n : Nat} {m : Mo Fl} {fm : FM} (Fu : Fun K x qual st f fd) (S : FnScope N ps (defScope st)) (hn : n = ps.length) (hm : mg x = some (.ref f)) (hb : Binds K fd ps []) (hf : fm = mFun N.length m)
    (hbody : ∀ (cdv : Value) (A : Around) (outer : List PySem.Env) (s : Shared) (H : Hp) (Q : VK) (E : XK), Room k (A.deeper (PyProof.Rows.envOfC qual (defScope st) s.heap.objs.size f cdv)) →
      PSs (cxOf CX0 P w K mg base N qual (defScope st) f cdv A outer s H E).nox (defBody st) (tS K m)) : Kn P w K mg base (k + 1) x n fm := by
  subst hf
  exact ⟨f, fd, ps, fn_ok Fu S hn hbody, hm, Fu.kp, hb⟩
theorem knk_mk {x qual p : Str} {st : Stmt} {f : Addr} {fd : FuncData} {N : List Str} {k : Nat} {m : Mo Fl} {fm : FM} (Fu : Fun K x qual st f fd) (S : FnScope N [p] (defScope st)) (hm : mg x = some (.ref f)) (hb : ∀ (s : Shared) (u : Value), K.In s.heap → BindsTo s fd ⟨[], [(p, u)]⟩ [(p, u)]) (hf : fm = mFun N.length m)
    (hbody : ∀ (cdv : Value) (A : Around) (outer : List PySem.Env) (s : Shared) (H : Hp) (Q : VK) (E : XK), Room k (A.deeper (PyProof.Rows.envOfC qual (defScope st) s.heap.objs.size f cdv)) →
      PSs (cxOf CX0 P w K mg base N qual (defScope st) f cdv A outer s H E).nox (defBody st) (tS K m)) : KnK P w K mg base (k + 1) x p fm := by
  subst hf
  exact ⟨f, fd, fn_ok Fu S rfl hbody, hm, Fu.kp, hb⟩
end
/-- name = [..], on one line, the name a local: the slot's own -/
theorem ss_ownLc {X : Cx} {i : Nat} {y : Str} {py : Pos} {elt tg iter : Expr} {ifs : List Expr} {scope : Scope} {own : List (Str × Nat)} {pos spos : Pos} {ml : Mo (List Dv)} {mt : Mo Bool} {me : Mo Dv}  {g : TG} {put : Dv → Env → Option Env}
    (hc : X.calm = true) (hN : X.N.Nodup) (hsw : swapsWith (.ListComp elt [⟨tg, iter, ifs, 0⟩] scope pos) (some (.Name y py)) spos.line X.env = pure true) (hi : PI X tg iter (WI X.K EE ml)) (ok : BlkOk X.N X.env.scope scope own) (gk : GOk X.K g (own.map (·.2)) put)
    (hg : ∀ (s : Shared) (H : Hp) (C : Addr) (cl : List (Str × Addr)) (fp : List Addr), PG (X.blk s H scope (compEnvC scope cl C X.env) fp) tg g) (ht : ∀ (s : Shared) (H : Hp) (C : Addr) (cl : List (Str × Addr)) (fp : List Addr), PTs (X.blk s H scope (compEnvC scope cl C X.env) fp) ifs (tT X.K EE mt))
    (he : ∀ (s : Shared) (H : Hp) (C : Addr) (cl : List (Str × Addr)) (fp : List Addr), PE (X.blk s H scope (compEnvC scope cl C X.env) fp) elt (tI X.K EE me)) (hy : X.N[i]? = some y := by rfl) (hyl : X.env.scope.names.lookup y = some .local := by rfl) (hs : ∀ x, foldedSetIterable iter X.env x = pure x := by intro _; rfl) :
    PS X (.Assign [.Name y py] (.ListComp elt [⟨tg, iter, ifs, 0⟩] scope pos) spos) (tS X.K (sOwn i (mComp put (own.map (·.2)) ml mt me))) := PS.imp (ps_setLc hc hN hy hyl hsw hi ok hg ht he hs) fun D σ H ⟨G, s, ι, F, gp, h⟩ =>
  lc_to gk ⟨s, ι, F, gp.st, own_to gp h⟩
end Mir

set_option Elab.async false
set_option linter.all false
set_option maxRecDepth 100000
/-! Mir: how a mirror is worked out. -/
namespace Mir
open PySem PySem.Spec L2
def R {α : Type} (m : Mo α) (s : Mem) (P : α → Mem → Prop) : Prop := Wp (m s) P noX
def OP {α : Type} (o : Option α) (P : α → Prop) : Prop := match o with
  | some z => P z
  | none => False
def RF (r : FRes) (P : Dv → List Cell → Prop) : Prop := match r with
  | .ok d h => P d h
  | _ => False
section
variable {α β : Type} {s : Mem} {e : Env} {h : List Cell}
theorem op_some {z : α} {P : α → Prop} : OP (some z) P = P z := rfl
theorem op_none {P : α → Prop} : OP none P = False := rfl
theorem op_ite {c : Prop} [Decidable c] {z : α} {P : α → Prop} : OP (if c then some z else none) P = (c ∧ P z) := by
  by_cases hc : c
  · rw [if_pos hc, op_some]; simp [hc]
  · rw [if_neg hc, op_none]; simp [hc]
theorem op_map {f : α → β} {o : Option α} {P : β → Prop} : OP (o.map f) P = OP o fun a => P (f a) := by cases o <;> rfl
theorem op_imp {o : Option α} {P Q : α → Prop} (hp : OP o P) (hq : ∀ a, P a → Q a) : OP o Q := by
  cases o with
  | none => exact hp
  | some a => exact hq a hp
theorem r_imp {m : Mo α} {P Q : α → Mem → Prop} (hp : R m s P) (hq : ∀ a s, P a s → Q a s) : R m s Q := Wp.imp hp hq fun _ _ z => z
theorem rf_imp {r : FRes} {P Q : Dv → List Cell → Prop} (hp : RF r P) (hq : ∀ a s, P a s → Q a s) : RF r Q := by
  cases r with
  | ok d h => exact hq _ _ hp
  | _ => exact hp
theorem r_bind {m : Mo α} {f : α → Mo β} {P : β → Mem → Prop} : R (m.bind f) s P = R m s fun a s1 => R (f a) s1 P := by
  unfold R Mo.bind
  cases m s <;> rfl
theorem r_fun {f : Mem → Res α} {P : α → Mem → Prop} : R (fun s => f s) s P = Wp (f s) P noX := rfl
theorem r_pure {a : α} {P : α → Mem → Prop} : R (Mo.pure a) s P = P a s := rfl
theorem r_no {P : α → Mem → Prop} : R mNo s P = False := rfl
theorem r_c {d : Dv} {P : Dv → Mem → Prop} : R (mC d) s P = P d s := rfl
def rdSl (i : Nat) : Option (Option Sl) → Option Dv
  | some (some (.val d)) => some d
  | some (some (.own _)) => some (.own i)
  | _ => none
theorem r_var {i : Nat} {P : Dv → Mem → Prop} : R (mVar i) ⟨e, h⟩ P = OP (rdSl i e[i]?) fun d => P d ⟨e, h⟩ := by
  unfold R mVar
  show Wp (match e[i]? with | some (some (.val d)) => _ | some (some (.own _)) => _ | _ => _) P noX = _
  cases he : e[i]? with
  | none => rfl
  | some o =>
    cases o with
    | none => rfl
    | some sl => cases sl <;> rfl
theorem r_lift2 {g : Dv → Dv → Option Dv} {a b : Dv} {P : Dv → Mem → Prop} : R (lift2 g a b) s P = OP (g (peek s a) (peek s b)) fun z => P z s := by
  unfold R lift2
  cases g (peek s a) (peek s b) <;> rfl
theorem r_bin {g : Dv → Dv → Option Dv} {ma mb : Mo Dv} {P : Dv → Mem → Prop} : R (mBin g ma mb) s P = R ma s fun a s1 => R mb s1 fun b s2 => OP (g (peek s2 a) (peek s2 b)) fun z => P z s2 := by
  unfold mBin
  simp only [r_bind, r_lift2]
theorem r_u {g : Dv → Option Dv} {m : Mo Dv} {P : Dv → Mem → Prop} : R (mU g m) s P = R m s fun a s1 => OP (g (peek s1 a)) fun z => P z s1 := by
  unfold mU
  refine Eq.trans r_bind ?_
  refine congrArg _ (funext fun a => funext fun s1 => ?_)
  unfold R lift1
  cases g (peek s1 a) <;> rfl
def asB : Dv → Option Bool
  | .bl b => some b
  | _ => none
theorem r_test {m : Mo Dv} {P : Bool → Mem → Prop} : R (mTest m) s P = R m s fun d s1 => OP (asB d) fun b => P b s1 := by
  unfold mTest
  refine Eq.trans r_bind ?_
  refine congrArg _ (funext fun a => funext fun s1 => ?_)
  unfold R toB
  cases a <;> rfl
def frz : Dv → Option Dv
  | .tmp ds => some (.lst ds)
  | .own _ => none
  | d => some d
theorem r_frz {m : Mo Dv} {P : Dv → Mem → Prop} : R (mFrz m) s P = R m s fun d s1 => OP (frz d) fun e => P e s1 := by
  unfold mFrz
  refine Eq.trans r_bind ?_
  refine congrArg _ (funext fun a => funext fun s1 => ?_)
  unfold R
  cases a <;> rfl
theorem r_nil {P : List Dv → Mem → Prop} : R mNil s P = P [] s := rfl
theorem r_cons {m : Mo Dv} {ms : Mo (List Dv)} {P : List Dv → Mem → Prop} : R (mCons m ms) s P = R m s fun d s1 => OP (frz d) fun e => R ms s1 fun ds s2 => P (e :: ds) s2 := by
  unfold mCons
  simp only [r_bind, r_frz, r_pure]
theorem r_guard {c : Prop} [Decidable c] {z : α} {P : α → Mem → Prop} : R (mGuard c z) s P = (c ∧ P z s) := by
  unfold R mGuard
  by_cases hc : c
  · rw [if_pos hc]; simp [hc, Wp]
  · rw [if_neg hc]; simp [hc, Wp]
theorem r_tup {ms : Mo (List Dv)} {P : Dv → Mem → Prop} : R (mTup ms) s P = R ms s fun ds s1 => (ds.length ≤ lim ∧ P (.tup ds) s1) := by
  unfold mTup
  simp only [r_bind, r_guard]
theorem r_lst {ms : Mo (List Dv)} {P : Dv → Mem → Prop} : R (mLst ms) s P = R ms s fun ds s1 => (ds.length ≤ lim ∧ P (.tmp ds) s1) := by
  unfold mLst
  simp only [r_bind, r_guard]
def asI : Dv → Option Int
  | .int i => some i
  | .bl b => some (if b then 1 else 0)
  | _ => none
theorem r_nopart {P : Option Int → Mem → Prop} : R mNoPart s P = P none s := rfl
def asPI : Dv → Option Int
  | .int i => some i
  | _ => none
theorem r_part {m : Mo Dv} {P : Option Int → Mem → Prop} : R (mPart m) s P = R m s fun d s1 => OP (asPI d) fun i => P (some i) s1 := by
  unfold mPart
  refine Eq.trans r_bind ?_
  refine congrArg _ (funext fun a => funext fun s1 => ?_)
  unfold R toI
  cases a <;> rfl
theorem r_sl {m : Mo Dv} {ml mh : Mo (Option Int)} {P : Dv → Mem → Prop} : R (mSl m ml mh) s P = R m s fun d s1 => R ml s1 fun lo s2 => R mh s2 fun hi s3 => OP (gSl (peek s3 d) lo hi) fun z => P z s3 := by
  unfold mSl
  simp only [r_bind]
  refine congrArg _ (funext fun a => funext fun s1 => congrArg _ (funext fun b => funext fun s2 => congrArg _ (funext fun c => funext fun s3 => ?_)))
  unfold R liftS
  cases gSl (peek s3 a) b c <;> rfl
theorem r_and {a b : Mo Bool} {P : Bool → Mem → Prop} : R (mAnd a b) s P = R a s fun c s1 => if c = true then R b s1 P else P false s1 := by
  unfold mAnd
  refine Eq.trans r_bind ?_
  refine congrArg _ (funext fun c => funext fun s1 => ?_)
  cases c <;> rfl
theorem r_or {a b : Mo Bool} {P : Bool → Mem → Prop} : R (mOr a b) s P = R a s fun c s1 => if c = true then P true s1 else R b s1 P := by
  unfold mOr
  refine Eq.trans r_bind ?_
  refine congrArg _ (funext fun c => funext fun s1 => ?_)
  cases c <;> rfl
theorem r_not {a : Mo Bool} {P : Bool → Mem → Prop} : R (mNot a) s P = R a s fun c s1 => P (!c) s1 := by
  unfold mNot
  refine Eq.trans r_bind ?_
  rfl
theorem r_mite {c : Mo Bool} {a b : Mo α} {P : α → Mem → Prop} : R (mIte c a b) s P = R c s fun k s1 => if k = true then R a s1 P else R b s1 P := by
  unfold mIte
  refine Eq.trans r_bind ?_
  refine congrArg _ (funext fun c => funext fun s1 => ?_)
  cases c <;> rfl
theorem r_andV {a b : Mo Dv} {P : Dv → Mem → Prop} : R (mAndV a b) s P = R a s fun d s1 => OP (asB d) fun c => if c = true then R b s1 P else P (.bl false) s1 := by
  unfold mAndV
  refine Eq.trans r_bind ?_
  refine congrArg _ (funext fun c => funext fun s1 => ?_)
  cases c with
  | bl b => cases b <;> rfl
  | _ => rfl
theorem r_notV {a : Mo Dv} {P : Dv → Mem → Prop} : R (mNotV a) s P = R a s fun d s1 => OP (asB d) fun c => P (.bl (!c)) s1 := by
  unfold mNotV
  refine Eq.trans r_bind ?_
  refine congrArg _ (funext fun c => funext fun s1 => ?_)
  unfold R
  cases c <;> rfl
theorem r_pop {m : Mo Dv} {P : Dv → Mem → Prop} : R (mPop m) s P = R m s fun d s1 => OP (getL s1 d) fun ds => OP ds[ds.length - 1]? fun z => P z (setL s1 d ds.dropLast) := by
  unfold mPop
  refine Eq.trans r_bind ?_
  refine congrArg _ (funext fun d => funext fun s1 => ?_)
  unfold R
  dsimp only
  cases getL s1 d with
  | none => rfl
  | some ds =>
    show Wp (match ds[ds.length - 1]? with | some z => _ | none => _) P noX = OP ds[ds.length - 1]? _
    cases ds[ds.length - 1]? <;> rfl
theorem r_app {m me : Mo Dv} {P : Dv → Mem → Prop} : R (mApp m me) s P = R m s fun d s1 => OP (getL s1 d) fun _ => R me s1 fun x s2 => OP (frz x) fun x => OP (getL s2 d) fun ds => (ds.length < lim ∧ P .non (setL s2 d (ds ++ [x]))) := by
  unfold mApp
  refine Eq.trans r_bind (Eq.trans r_bind ?_)
  refine congrArg (R m s) (funext fun d => funext fun s1 => ?_)
  unfold R
  dsimp only
  cases getL s1 d with
  | none => rfl
  | some ds0 =>
    show R ((mFrz me).bind _) s1 P = R me s1 _
    refine Eq.trans r_bind (Eq.trans r_frz ?_)
    refine congrArg (R me s1) (funext fun x => funext fun s2 => congrArg (OP (frz x)) (funext fun y => ?_))
    unfold R
    dsimp only
    cases getL s2 d with
    | none => rfl
    | some ds =>
      dsimp only
      by_cases hl : ds.length < lim
      · rw [if_pos hl]
        show P _ _ = (ds.length < lim ∧ _)
        simp [hl]
      · rw [if_neg hl]
        show False = (ds.length < lim ∧ _)
        simp [hl]
theorem r_shr {m : Mo Dv} {P : Dv → Mem → Prop} : R (mShr m) s P = R m s fun d s1 => match d with
  | .tmp ds => P (.ref s1.hp.length) ⟨s1.env, s1.hp ++ [.lst ds]⟩
  | _ => False := by
  unfold mShr
  refine Eq.trans r_bind ?_
  refine congrArg _ (funext fun c => funext fun s1 => ?_)
  unfold R
  cases c <;> rfl
theorem r_do {f : FM} {ds : List Dv} {P : Dv → Mem → Prop} : R (mDo f ds) s P = RF (f ds s.hp) fun d h => P d ⟨s.env, h⟩ := by
  unfold R mDo
  cases f ds s.hp <;> rfl
theorem r_call {f : FM} {n : Nat} {ms : Mo (List Dv)} {P : Dv → Mem → Prop} : R (mCall f n ms) s P = R ms s fun ds s1 => (ds.length = n ∧ RF (f ds s1.hp) fun d h => P d ⟨s1.env, h⟩) := by
  unfold mCall
  simp only [r_bind, r_guard, r_do]
def retD : Fl → Dv
  | .nx => .non
  | .rt d => d
theorem rf_fun {N : Nat} {m : Mo Fl} {ds : List Dv} {P : Dv → List Cell → Prop} : RF (mFun N m ds h) P = R m ⟨ds.map (fun d => some (.val d)) ++ List.replicate (N - ds.length) none, h⟩ fun fl s => P (retD fl) s.hp := by
  unfold mFun R
  cases m ⟨ds.map (fun d => some (.val d)) ++ List.replicate (N - ds.length) none, h⟩ with
  | ok fl s => cases fl <;> rfl
  | _ => rfl
theorem r_snil {P : Fl → Mem → Prop} : R sNil s P = P .nx s := rfl
def thenP (fl : Fl) (s : Mem) (m : Mo Fl) (P : Fl → Mem → Prop) : Prop := match fl with
  | .nx => R m s P
  | .rt d => P (.rt d) s
theorem r_then {fl : Fl} {m : Mo Fl} {P : Fl → Mem → Prop} : R (thenS fl m) s P = thenP fl s m P := by cases fl <;> rfl
theorem then_nx {m : Mo Fl} {P : Fl → Mem → Prop} : thenP .nx s m P = R m s P := rfl
theorem then_rt {m : Mo Fl} {d : Dv} {P : Fl → Mem → Prop} : thenP (.rt d) s m P = P (.rt d) s := rfl
theorem r_seq {a b : Mo Fl} {P : Fl → Mem → Prop} : R (sSeq a b) s P = R a s fun fl s1 => thenP fl s1 b P := by
  unfold sSeq
  simp only [r_bind, r_then]
theorem r_drop {m : Mo Dv} {P : Fl → Mem → Prop} : R (sDrop m) s P = R m s fun _ s1 => P .nx s1 := by
  unfold sDrop
  simp only [r_bind, r_pure]
theorem r_set {i : Nat} {m : Mo Dv} {P : Fl → Mem → Prop} : R (sSet i m) s P = R m s fun d s1 => OP (frz d) fun x => P .nx ⟨s1.env.set i (some (.val x)), s1.hp⟩ := by
  unfold sSet
  exact Eq.trans r_bind r_frz
theorem r_own {i : Nat} {m : Mo Dv} {P : Fl → Mem → Prop} : R (sOwn i m) s P = R m s fun d s1 => match d with
  | .tmp ds => P .nx ⟨s1.env.set i (some (.own ds)), s1.hp⟩
  | _ => False := by
  unfold sOwn
  refine Eq.trans r_bind ?_
  refine congrArg _ (funext fun c => funext fun s1 => ?_)
  unfold R
  cases c <;> rfl
theorem r_fix {i : Nat} {P : Fl → Mem → Prop} : R (sFix i) ⟨e, h⟩ P = match e[i]? with
  | some (some (.own ds)) => P .nx ⟨e.set i (some (.val (.lst ds))), h⟩
  | _ => False := by
  unfold R sFix
  show Wp (match e[i]? with | some (some (.own ds)) => _ | _ => _) P noX = _
  cases he : e[i]? with
  | none => rfl
  | some o =>
    cases o with
    | none => rfl
    | some sl => cases sl <;> rfl
theorem r_to {put : Dv → Env → Option Env} {m : Mo Dv} {P : Fl → Mem → Prop} : R (sTo put m) s P = R m s fun d s1 => OP (frz d) fun x => OP (put x s1.env) fun e => P .nx ⟨e, s1.hp⟩ := by
  unfold sTo
  refine Eq.trans r_bind (Eq.trans r_frz ?_)
  refine congrArg (R m s) (funext fun d => funext fun s1 => congrArg _ (funext fun x => ?_))
  unfold R
  dsimp only
  cases put x s1.env <;> rfl
theorem r_ret {m : Mo Dv} {P : Fl → Mem → Prop} : R (sRet m) s P = R m s fun d s1 => OP (frz d) fun x => P (.rt x) s1 := by
  unfold sRet
  exact Eq.trans r_bind r_frz
theorem r_if {c : Mo Bool} {a b : Mo Fl} {P : Fl → Mem → Prop} : R (sIf c a b) s P = R c s fun t s1 => if t = true then R a s1 P else R b s1 P := by
  unfold sIf
  refine Eq.trans r_bind ?_
  refine congrArg _ (funext fun c => funext fun s1 => ?_)
  cases c <;> rfl
theorem r_for {put : Dv → Env → Option Env} {ml : Mo (List Dv)} {b : Mo Fl} {P : Fl → Mem → Prop} : R (sFor put ml b) s P = R ml s fun ds s1 => R (forS put b ds) s1 P := by
  unfold sFor
  exact r_bind
theorem r_for0 {put : Dv → Env → Option Env} {b : Mo Fl} {P : Fl → Mem → Prop} : R (forS put b []) s P = P .nx s := rfl
theorem r_for1 {put : Dv → Env → Option Env} {b : Mo Fl} {d : Dv} {ds : List Dv} {P : Fl → Mem → Prop} : R (forS put b (d :: ds)) s P = OP (put d s.env) fun e => R b ⟨e, s.hp⟩ fun fl s1 => thenP fl s1 (forS put b ds) P := by
  unfold R
  show Wp (match put d s.env with | some e => (b.bind fun fl => thenS fl (forS put b ds)) { s with env := e } | none => .no) P noX = _
  cases put d s.env with
  | none => rfl
  | some e =>
    show R (b.bind _) _ P = R b _ _
    refine Eq.trans r_bind ?_
    exact congrArg (R b _) (funext fun fl => funext fun s1 => r_then)
theorem r_aug {f : Int → Int → Int} {i : Nat} {m : Mo Dv} {P : Fl → Mem → Prop} {a : Int} (he : s.env[i]? = some (some (.val (.int a)))) : R (sAug f i m) s P = R m s fun d s1 => OP (asPI d) fun b => P .nx ⟨s1.env.set i (some (.val (.int (f a b)))), s1.hp⟩ := by
  unfold R sAug
  rw [he]
  show R (m.bind _) s P = _
  refine Eq.trans r_bind ?_
  refine congrArg (R m s) (funext fun c => funext fun s1 => ?_)
  unfold R
  cases c <;> rfl
theorem r_sub {mv mo mi : Mo Dv} {P : Fl → Mem → Prop} : R (sSub mv mo mi) s P = R mv s fun v s1 => OP (frz v) fun x => R mo s1 fun d s2 => R mi s2 fun k s3 => OP (asPI k) fun k => OP (setAt s3 d k x) fun s4 => P .nx s4 := by
  unfold sSub
  refine Eq.trans r_bind (Eq.trans r_frz ?_)
  refine congrArg (R mv s) (funext fun d => funext fun s1 => congrArg (OP (frz d)) (funext fun x => Eq.trans r_bind (congrArg (R mo s1) (funext fun d => funext fun s2 => Eq.trans r_bind (congrArg (R mi s2) (funext fun k => funext fun s3 => ?_))))))
  unfold R
  cases k with
  | int n =>
    show Wp (match setAt s3 d n x with | some s' => _ | none => _) P noX = OP (setAt s3 d n x) _
    cases setAt s3 d n x <;> rfl
  | _ => rfl
theorem r_par3 {i j l : Nat} {ms : Mo (List Dv)} {P : Fl → Mem → Prop} : R (sPar3 i j l ms) s P = R ms s fun ds s1 => match ds with
  | [a, b, c] => P .nx ⟨((s1.env.set i (some (.val a))).set j (some (.val b))).set l (some (.val c)), s1.hp⟩
  | _ => False := by
  unfold sPar3
  refine Eq.trans r_bind ?_
  refine congrArg _ (funext fun ds => funext fun s1 => ?_)
  unfold R
  match ds with
  | [] => rfl
  | [_] => rfl
  | [_, _] => rfl
  | [_, _, _] => rfl
  | _ :: _ :: _ :: _ :: _ => rfl
theorem r_put1f {i : Nat} {d x : Dv} {P : Fl → Mem → Prop} (hx : frz d = some x) (hd : ∀ ds, d ≠ .tmp ds) : R (put1 false i d) s P = P .nx ⟨s.env.set i (some (.val x)), s.hp⟩ := by
  cases d with
  | tmp ds => exact (hd ds rfl).elim
  | own _ => cases hx
  | _ => cases hx; rfl
theorem r_put1 {b : Bool} {i : Nat} {d : Dv} {P : Fl → Mem → Prop} : R (put1 b i d) s P = match b, d with
  | true, .tmp ds => P .nx ⟨s.env.set i (some (.own ds)), s.hp⟩
  | true, _ => False
  | false, .tmp _ => False
  | false, .own _ => False
  | false, d => P .nx ⟨s.env.set i (some (.val d)), s.hp⟩ := by
  unfold R
  cases b <;> cases d <;> rfl
theorem r_par {b c : Bool} {i j : Nat} {ma mb : Mo Dv} {P : Fl → Mem → Prop} : R (sPar b c i j ma mb) s P = R (mFrzB b ma) s fun d s1 => R (mFrzB c mb) s1 fun x s2 => R (put1 b i d) s2 fun _ s3 => R (put1 c j x) s3 P := by
  unfold sPar
  simp only [r_bind]
theorem r_frzT {m : Mo Dv} {P : Dv → Mem → Prop} : R (mFrzB true m) s P = R m s P := rfl
theorem r_frzF {m : Mo Dv} {P : Dv → Mem → Prop} : R (mFrzB false m) s P = R m s fun d s1 => OP (frz d) fun e => P e s1 := r_frz
def itD : Dv → Option (List Dv)
  | .tup ds => some ds
  | .lst ds => some ds
  | .tmp ds => some ds
  | .scr ns => some (ns.map .int)
  | _ => none
theorem r_it {m : Mo Dv} {P : List Dv → Mem → Prop} : R (mIt m) s P = R m s fun d s1 => OP (itD d) fun ds => P ds s1 := by
  unfold mIt
  refine Eq.trans r_bind (Eq.trans r_frz ?_)
  refine congrArg (R m s) (funext fun d => funext fun s1 => ?_)
  cases d <;> rfl
theorem r_enum {ms : Mo (List Dv)} {P : List Dv → Mem → Prop} : R (mEnum ms) s P = R ms s fun ds s1 => match ds with
  | [.tup xs] => P (enumD 0 xs) s1
  | _ => False := by
  unfold mEnum
  refine Eq.trans r_bind ?_
  refine congrArg _ (funext fun ds => funext fun s1 => ?_)
  unfold R
  match ds with
  | [] => rfl
  | [d] => cases d <;> rfl
  | d :: _ :: _ => cases d <;> rfl
theorem r_rng {ms : Mo (List Dv)} {P : List Dv → Mem → Prop} : R (mRng ms) s P = R ms s fun ds s1 => OP (rngN ds) fun xs => P xs s1 := by
  unfold mRng
  refine Eq.trans r_bind ?_
  refine congrArg _ (funext fun ds => funext fun s1 => ?_)
  unfold R
  dsimp only
  cases rngN ds <;> rfl
theorem r_comp {put : Dv → Env → Option Env} {vs : List Nat} {ml : Mo (List Dv)} {mt : Mo Bool} {me : Mo Dv} {P : Dv → Mem → Prop} : R (mComp put vs ml mt me) s P = R ml s fun ds s1 => OP (compL put vs mt me s1.env ds [] s1.hp) fun r => P (.tmp r.1) ⟨s1.env, r.2⟩ := by
  unfold mComp
  refine Eq.trans r_bind ?_
  refine congrArg _ (funext fun ds => funext fun s1 => ?_)
  unfold R
  dsimp only
  cases compL put vs mt me s1.env ds [] s1.hp <;> rfl
theorem comp_nil {put : Dv → Env → Option Env} {vs : List Nat} {mt : Mo Bool} {me : Mo Dv} {acc : List Dv} {P : List Dv × List Cell → Prop} : OP (compL put vs mt me e [] acc h) P = P (acc, h) := rfl
theorem comp_cons {put : Dv → Env → Option Env} {vs : List Nat} {mt : Mo Bool} {me : Mo Dv} {d : Dv} {ds acc : List Dv} {P : List Dv × List Cell → Prop} :
    OP (compL put vs mt me e (d :: ds) acc h) P = OP (put d (hideE vs e)) fun e1 => R mt ⟨e1, h⟩ fun b s1 => if b = true then R me s1 fun x s2 => OP (frz x) fun y => (acc.length < lim ∧ OP (compL put vs mt me e ds (acc ++ [y]) s2.hp) P) else OP (compL put vs mt me e ds acc s1.hp) P := by
  rw [compL]
  cases put d (hideE vs e) with
  | none => rfl
  | some e1 =>
    have k : ∀ Q : List Dv → Mem → Prop, R (turnC mt me acc) ⟨e1, h⟩ Q = R mt ⟨e1, h⟩ fun b s1 => if b = true then R me s1 fun x s2 => OP (frz x) fun y => (acc.length < lim ∧ Q (acc ++ [y]) s2) else Q acc s1 := fun Q => by
      unfold turnC
      refine Eq.trans r_bind ?_
      refine congrArg _ (funext fun b => funext fun s1 => ?_)
      cases b with
      | true => simp only [if_true, r_bind, r_frz, r_guard]
      | false => rfl
    refine Eq.trans ?_ (k fun acc1 s1 => OP (compL put vs mt me e ds acc1 s1.hp) P)
    unfold R
    show OP (match turnC mt me acc ⟨e1, h⟩ with | .ok acc1 s => _ | _ => none) P = _
    cases turnC mt me acc ⟨e1, h⟩ <;> rfl
/-- a comprehension that maps -/
theorem comp_map {put : Dv → Env → Option Env} {vs : List Nat} {me : Mo Dv} {f : Dv → Dv} {P : List Dv × List Cell → Prop} : ∀ {ds acc : List Dv}, (∀ d ∈ ds, OP (put d (hideE vs e)) fun e1 => R me ⟨e1, h⟩ fun x s2 => OP (frz x) fun y => y = f d ∧ s2.hp = h) → acc.length + ds.length ≤ lim → P (acc ++ ds.map f, h) →
    OP (compL put vs (Mo.pure true) me e ds acc h) P
  | [], acc, _, _, hp => by
    rw [comp_nil]
    simpa using hp
  | d :: ds, acc, hd, hl, hp => by
    rw [comp_cons]
    refine op_imp (hd d List.mem_cons_self) fun e1 h1 => ?_
    rw [r_pure, if_pos rfl]
    refine r_imp h1 fun x s2 h2 => op_imp h2 fun y h3 => ?_
    obtain ⟨rfl, e2⟩ := h3
    rw [e2]
    have hl' : acc.length + (ds.length + 1) ≤ lim := hl
    refine ⟨by omega, comp_map (fun d' hd' => hd d' (List.mem_cons_of_mem _ hd')) (by rw [List.length_append, List.length_singleton]; omega) ?_⟩
    rw [List.append_assoc]
    exact hp

/-! ### the loop -/
theorem while_succ {c : Mo Bool} {b : Mo Fl} {n : Nat} {s : Mem} : sWhile c b (n + 1) s = match c s with
  | .ok true s1 => (match b s1 with
    | .ok fl s2 => thenS fl (sWhile c b n) s2
    | .ex e s2 => .ex e s2
    | .no => .no)
  | .ok false s1 => .ok .nx s1
  | .ex e s1 => .ex e s1
  | .no => .no := by
  show Mo.bind c _ s = _
  unfold Mo.bind
  cases c s with
  | ok t s1 =>
    cases t with
    | false => rfl
    | true =>
      have k : ∀ f g : Mo Fl, (if true = true then f else g) = f := fun f g => if_pos rfl
      refine Eq.trans (congrFun (k (b.bind fun fl => thenS fl (sWhile c b n)) (Mo.pure .nx)) s1) ?_
      dsimp only
      unfold Mo.bind
      cases b s1 <;> rfl
  | ex e s1 => rfl
  | no => rfl
theorem while_mono {c : Mo Bool} {b : Mo Fl} : ∀ {n m : Nat} {s : Mem}, n ≤ m → sWhile c b n s ≠ .no → sWhile c b m s = sWhile c b n s
  | 0, _, _, _, h => (h rfl).elim
  | n + 1, 0, _, hm, _ => absurd hm (Nat.not_succ_le_zero _)
  | n + 1, m + 1, s, hm, h => by
    have hm' := Nat.le_of_succ_le_succ hm
    rw [while_succ] at h ⊢
    rw [while_succ]
    cases hc : c s with
    | no => rfl
    | ex e s1 => rfl
    | ok t s1 =>
      rw [hc] at h
      cases t with
      | false => rfl
      | true =>
        dsimp only at h ⊢
        cases hb : b s1 with
        | no => rfl
        | ex e s2 => rfl
        | ok fl s2 =>
          rw [hb] at h
          dsimp only at h ⊢
          cases fl with
          | rt d => rfl
          | nx => exact while_mono hm' h
theorem loop_of {c : Mo Bool} {b : Mo Fl} {n : Nat} {s : Mem} (h : sWhile c b n s ≠ .no) : sLoop c b s = sWhile c b n s := by
  have hx : ∃ n, sWhile c b n s ≠ .no := ⟨n, h⟩
  unfold sLoop
  rw [dif_pos hx]
  have h2 := hx.choose_spec
  rcases Nat.le_total n hx.choose with l | l
  · exact while_mono l h
  · exact (while_mono l h2).symm
theorem r_loop {c : Mo Bool} {b : Mo Fl} {P : Fl → Mem → Prop} (h : R c s fun t s1 => if t = true then R b s1 fun fl s2 => thenP fl s2 (sLoop c b) P else P .nx s1) : R (sLoop c b) s P := by
  unfold R at h
  cases hc : c s with
  | no => rw [hc] at h; exact h.elim
  | ex e s1 => rw [hc] at h; exact h.elim
  | ok t s1 =>
    rw [hc] at h
    have h : (if t = true then R b s1 fun fl s2 => thenP fl s2 (sLoop c b) P else P .nx s1) := h
    cases t with
    | false =>
      rw [if_neg Bool.false_ne_true] at h
      have e1 : sWhile c b 1 s = .ok .nx s1 := by
        show Mo.bind c _ s = _
        unfold Mo.bind
        rw [hc]
        rfl
      unfold R
      rw [loop_of (n := 1) (by rw [e1]; exact fun z => nomatch z), e1]
      exact h
    | true =>
      rw [if_pos rfl] at h
      unfold R at h
      cases hb : b s1 with
      | no => rw [hb] at h; exact h.elim
      | ex e s2 => rw [hb] at h; exact h.elim
      | ok fl s2 =>
        rw [hb] at h
        have step : ∀ n, sWhile c b (n + 1) s = thenS fl (sWhile c b n) s2 := fun n => by
          rw [while_succ, hc]
          dsimp only
          rw [hb]
        cases fl with
        | rt d =>
          unfold R
          have e1 : sWhile c b 1 s = .ok (.rt d) s2 := step 0
          rw [loop_of (n := 1) (by rw [e1]; exact fun z => nomatch z), e1]
          exact h
        | nx =>
          have h : Wp (sLoop c b s2) P noX := h
          unfold sLoop at h
          split at h
          · rename_i hx
            have e1 : sWhile c b (hx.choose + 1) s = sWhile c b hx.choose s2 := step _
            unfold R
            rw [loop_of (n := hx.choose + 1) (by rw [e1]; exact hx.choose_spec), e1]
            exact h
          · exact h.elim
end
end Mir

set_option Elab.async false
set_option linter.all false
set_option maxRecDepth 100000
/-! Mir: equations by which a mirror is worked out. -/
namespace Mir
open PySem PySem.Spec L2
theorem r_loopg {c : Mo Bool} {b : Mo Fl} {s : Mem} {P : Fl → Mem → Prop} (h : ∀ lp, lp = sLoop c b → R c s fun t s1 => if t = true then R b s1 fun fl s2 => thenP fl s2 lp P else P .nx s1) : R (sLoop c b) s P := r_loop (h _ rfl)
section
variable {α : Type} {s : Mem} {e : Env} {h : List Cell} {i j : Int} {n : Nat} {xs ys : List Dv} {b c : Bool} {x y : Str} {d : Dv}
theorem pk_non : peek s .non = .non := rfl
theorem pk_bl : peek s (.bl b) = .bl b := rfl
theorem pk_int : peek s (.int i) = .int i := rfl
theorem pk_str : peek s (.str x) = .str x := rfl
theorem pk_tup : peek s (.tup xs) = .tup xs := rfl
theorem pk_lst : peek s (.lst xs) = .lst xs := rfl
theorem pk_tmp : peek s (.tmp xs) = .lst xs := rfl
theorem pk_scr {ns : List Int} : peek s (.scr ns) = .scr ns := rfl
def pkO (n : Nat) : Option (Option Sl) → Dv
  | some (some (.own ds)) => .lst ds
  | _ => .own n
theorem pk_own : peek ⟨e, h⟩ (.own n) = pkO n e[n]? := by
  show (match e[n]? with | some (some (.own ds)) => Dv.lst ds | _ => .own n) = _
  cases e[n]? with
  | none => rfl
  | some o =>
    cases o with
    | none => rfl
    | some sl => cases sl <;> rfl
theorem pkO_some : pkO n (some (some (.own xs))) = .lst xs := rfl
def pkR (n : Nat) : Option Cell → Dv
  | some (.lst ds) => .lst ds
  | none => .ref n
theorem pk_ref : peek ⟨e, h⟩ (.ref n) = pkR n h[n]? := by
  show (match h[n]? with | some (.lst ds) => Dv.lst ds | none => .ref n) = _
  cases h[n]? with
  | none => rfl
  | some o => cases o; rfl
theorem pkR_some : pkR n (some (.lst xs)) = .lst xs := rfl
theorem rd_val : rdSl n (some (some (.val d))) = some d := rfl
theorem rd_own : rdSl n (some (some (.own xs))) = some (.own n) := rfl
theorem fz_non : frz .non = some .non := rfl
theorem fz_bl : frz (.bl b) = some (.bl b) := rfl
theorem fz_int : frz (.int i) = some (.int i) := rfl
theorem fz_str : frz (.str x) = some (.str x) := rfl
theorem fz_tup : frz (.tup xs) = some (.tup xs) := rfl
theorem fz_lst : frz (.lst xs) = some (.lst xs) := rfl
theorem fz_tmp : frz (.tmp xs) = some (.lst xs) := rfl
theorem fz_ref : frz (.ref n) = some (.ref n) := rfl
theorem fz_scr {ns : List Int} : frz (.scr ns) = some (.scr ns) := rfl
def gO : Option (Option Sl) → Option (List Dv)
  | some (some (.own ds)) => some ds
  | _ => none
theorem gl_own : getL ⟨e, h⟩ (.own n) = gO e[n]? := by
  show (match e[n]? with | some (some (.own ds)) => some ds | _ => none) = _
  cases e[n]? with
  | none => rfl
  | some o =>
    cases o with
    | none => rfl
    | some sl => cases sl <;> rfl
theorem gO_some : gO (some (some (.own xs))) = some xs := rfl
def gR : Option Cell → Option (List Dv)
  | some (.lst ds) => some ds
  | none => none
theorem gl_ref : getL ⟨e, h⟩ (.ref n) = gR h[n]? := by
  show (match h[n]? with | some (.lst ds) => some ds | none => none) = _
  cases h[n]? with
  | none => rfl
  | some o => cases o; rfl
theorem gR_some : gR (some (.lst xs)) = some xs := rfl
theorem sl_own : setL ⟨e, h⟩ (.own n) xs = ⟨e.set n (some (.own xs)), h⟩ := rfl
theorem sl_ref : setL ⟨e, h⟩ (.ref n) xs = ⟨e, h.set n (.lst xs)⟩ := rfl
theorem ab_bl : asB (.bl b) = some b := rfl
theorem ai_int : asPI (.int i) = some i := rfl
theorem it_tup : itD (.tup xs) = some xs := rfl
theorem it_lst : itD (.lst xs) = some xs := rfl
theorem it_tmp : itD (.tmp xs) = some xs := rfl
theorem it_scr {ns : List Int} : itD (.scr ns) = some (ns.map .int) := rfl
theorem put_n {k : Nat} : putN k d e = some (e.set k (some (.val d))) := rfl
theorem put_p {k l : Nat} {a b : Dv} : putP k l (.tup [a, b]) e = some ((e.set k (some (.val a))).set l (some (.val b))) := rfl
theorem put_t {k : Nat} {P : Fl → Mem → Prop} : R (put1 true k (.tmp xs)) s P = P .nx ⟨s.env.set k (some (.own xs)), s.hp⟩ := rfl
theorem put_int {k : Nat} {P : Fl → Mem → Prop} : R (put1 false k (.int i)) s P = P .nx ⟨s.env.set k (some (.val (.int i))), s.hp⟩ := rfl
theorem put_lst {k : Nat} {P : Fl → Mem → Prop} : R (put1 false k (.lst xs)) s P = P .nx ⟨s.env.set k (some (.val (.lst xs))), s.hp⟩ := rfl
theorem put_tup {k : Nat} {P : Fl → Mem → Prop} : R (put1 false k (.tup xs)) s P = P .nx ⟨s.env.set k (some (.val (.tup xs))), s.hp⟩ := rfl
theorem o_lst {k : Nat} {P : Fl → Mem → Prop} {m : Mo Dv} {Q : Dv → Mem → Prop} : True := True.intro
def ownD (k : Nat) (d : Dv) (s : Mem) (P : Fl → Mem → Prop) : Prop := match d with
  | .tmp ds => P .nx ⟨s.env.set k (some (.own ds)), s.hp⟩
  | _ => False
theorem r_own' {k : Nat} {m : Mo Dv} {P : Fl → Mem → Prop} : R (sOwn k m) s P = R m s fun d s1 => ownD k d s1 P := r_own
theorem own_tmp {k : Nat} {P : Fl → Mem → Prop} : ownD k (.tmp xs) s P = P .nx ⟨s.env.set k (some (.own xs)), s.hp⟩ := rfl
def fixD (k : Nat) (o : Option (Option Sl)) (e : Env) (h : List Cell) (P : Fl → Mem → Prop) : Prop := match o with
  | some (some (.own ds)) => P .nx ⟨e.set k (some (.val (.lst ds))), h⟩
  | _ => False
theorem r_fix' {k : Nat} {P : Fl → Mem → Prop} : R (sFix k) ⟨e, h⟩ P = fixD k e[k]? e h P := r_fix
theorem fix_own {k : Nat} {P : Fl → Mem → Prop} : fixD k (some (some (.own xs))) e h P = P .nx ⟨e.set k (some (.val (.lst xs))), h⟩ := rfl
def shrD (d : Dv) (s : Mem) (P : Dv → Mem → Prop) : Prop := match d with
  | .tmp ds => P (.ref s.hp.length) ⟨s.env, s.hp ++ [.lst ds]⟩
  | _ => False
theorem r_shr' {m : Mo Dv} {P : Dv → Mem → Prop} : R (mShr m) s P = R m s fun d s1 => shrD d s1 P := r_shr
theorem shr_tmp {P : Dv → Mem → Prop} : shrD (.tmp xs) s P = P (.ref s.hp.length) ⟨s.env, s.hp ++ [.lst xs]⟩ := rfl
theorem ret_nx : retD .nx = .non := rfl
theorem ret_rt : retD (.rt d) = d := rfl
theorem add_ii : gAdd (.int i) (.int j) = some (.int (i + j)) := rfl
theorem add_ll : gAdd (.lst xs) (.lst ys) = if xs.length + ys.length ≤ lim then some (.tmp (xs ++ ys)) else none := rfl
theorem add_tt : gAdd (.tup xs) (.tup ys) = if xs.length + ys.length ≤ lim then some (.tup (xs ++ ys)) else none := rfl
theorem sub_ii : gSub (.int i) (.int j) = some (.int (i - j)) := rfl
theorem mul_ii : gMul (.int i) (.int j) = if mulOk i j = true then some (.int (i * j)) else none := rfl
theorem mul_li : gMul (.lst xs) (.int j) = if 0 ≤ j ∧ j ≤ 1000000 ∧ xs.length * j.toNat ≤ lim then some (.tmp (List.replicate j.toNat xs).flatten) else none := rfl
theorem mul_ti : gMul (.tup xs) (.int j) = if xs.length = 1 ∧ 2 ≤ j ∧ j ≤ 1000000 then some (.tup (List.replicate j.toNat xs).flatten) else none := rfl
theorem mul_r (hj : j.natAbs < 18446744073709551616) : (mulOk i j = true) = True := by unfold mulOk; simp [hj]
theorem mul_l (hi : i.natAbs < 18446744073709551616) : (mulOk i j = true) = True := by unfold mulOk; simp [hi]
theorem div_ii : gDiv (.int i) (.int j) = if 0 < j ∧ (j < 1073741824 ∨ j.natAbs.log2 < 9000) then some (.int (i / j)) else none := rfl
theorem mod_ii : gMod (.int i) (.int j) = if 0 < j then some (.int (i % j)) else none := rfl
theorem pow_ii : gPow (.int i) (.int j) = if 0 ≤ j ∧ j ≤ 1000000 ∧ i.natAbs < 18446744073709551616 then some (.int (i ^ j.toNat)) else none := rfl
theorem ints_ii {f : Int → Int → Bool} : gInts f (.int i) (.int j) = some (.bl (f i j)) := rfl
theorem eq_ii : gEq (.int i) (.int j) = some (.bl (decide (i = j))) := rfl
theorem ne_ii : gNe (.int i) (.int j) = some (.bl (!decide (i = j))) := rfl
theorem is_non : gIs1 .non .non = some (.bl true) := rfl
theorem is_int : gIs1 (.int i) .non = some (.bl false) := rfl
theorem is_tup : gIs1 (.tup xs) .non = some (.bl false) := rfl
theorem is_intB : gIs1 (.int i) (.bl b) = some (.bl false) := rfl
theorem not_non : gNot1 .non .non = some (.bl false) := rfl
theorem not_tup : gNot1 (.tup xs) .non = some (.bl true) := rfl
theorem ix_l : gIx (.lst xs) (.int i) = atI xs i := rfl
theorem ix_t : gIx (.tup xs) (.int i) = atI xs i := rfl
theorem sl_l {lo hi : Option Int} : gSl (.lst xs) lo hi = some (.tmp (cutD xs lo hi)) := rfl
theorem sl_t {lo hi : Option Int} : gSl (.tup xs) lo hi = some (.tup (cutD xs lo hi)) := rfl
theorem sl_s {ns : List Int} {lo hi : Option Int} : gSl (.scr ns) lo hi = some (.tmp ((cutD ns lo hi).map .int)) := rfl
theorem rev_l : gRev (.lst xs) = some (.tmp xs.reverse) := rfl
theorem neg_i : gNeg (.int i) = some (.int (-i)) := rfl
theorem len_l : gLen (.lst xs) = some (.int xs.length) := rfl
theorem len_t : gLen (.tup xs) = some (.int xs.length) := rfl
theorem int_i : gInt (.int i) = some (.int i) := rfl
theorem abs_i : gAbs (.int i) = some (.int (if i < 0 then -i else i)) := rfl
theorem tup_l : gTuple (.lst xs) = some (.tup xs) := rfl
theorem tup_t : gTuple (.tup xs) = some (.tup xs) := rfl
theorem lst_l : gList (.lst xs) = some (.tmp xs) := rfl
theorem lst_t : gList (.tup xs) = some (.tmp xs) := rfl
theorem sum_l : gSum (.lst xs) = (toInts xs).map fun ns => .int ns.sum := rfl
theorem toInts_int : ∀ ns : List Int, toInts (ns.map .int) = some ns
  | [] => rfl
  | n :: ns => by
    show ((toInts (ns.map .int)).map (n :: ·)) = some (n :: ns)
    rw [toInts_int ns] <;> rfl
theorem zip_tt : gZip (.tup xs) (.tup ys) = if xs.length = ys.length then some (.tmp (zipD xs ys)) else none := rfl
theorem op_itec {c : Prop} {z : α} {P : α → Prop} : OP (@ite _ c (Classical.propDecidable _) (some z) none) P = (c ∧ P z) := @op_ite _ c (Classical.propDecidable _) z P
theorem rng_1 {P : List Dv → Prop} : OP (rngN [.int j]) P = ((-B62 ≤ j ∧ j < B62) ∧ P (rngD 0 1 j.toNat)) := op_itec
theorem rng_2 {P : List Dv → Prop} : OP (rngN [.int i, .int j]) P = ((-B62 ≤ i ∧ i < B62 ∧ -B62 ≤ j ∧ j < B62) ∧ P (rngD i 1 (j - i).toNat)) := op_itec
theorem rng_3 {P : List Dv → Prop} {k : Int} : OP (rngN [.int i, .int j, .int k]) P = ((-B62 ≤ i ∧ i < B62 ∧ -B62 ≤ j ∧ j < B62 ∧ k = 2) ∧ P (rngD i 2 ((j - i + 1) / 2).toNat)) := op_itec
theorem isi_int_int : gIsi .int (.int i) = some (.bl true) := rfl
theorem isi_str_int : gIsi .str (.int i) = some (.bl false) := rfl
theorem isi_bool_int : gIsi .bool (.int i) = some (.bl false) := rfl
theorem isi_tup_int : gIsi .tuple (.int i) = some (.bl false) := rfl
theorem isi_tup_tup : gIsi .tuple (.tup xs) = some (.bl true) := rfl
theorem isiC_int : gIsiC (.int i) = some (.bl false) := rfl
theorem isiC_tup : gIsiC (.tup xs) = some (.bl false) := rfl
theorem isiA_int : gIsiA [.tuple, .list, .dict] (.int i) = some (.bl false) := rfl
theorem at_nat {α : Type} {zs : List α} {k : Nat} : atI zs (k : Int) = zs[k]? := by
  unfold atI ixN
  rw [if_pos (by omega)]
  by_cases hk : k < zs.length
  · rw [if_pos (by omega)]
    rfl
  · rw [if_neg (by omega), List.getElem?_eq_none (by omega)] <;> rfl
theorem at_0 {α : Type} {zs : List α} : atI zs 0 = zs[0]? := at_nat (k := 0)
theorem at_1 {α : Type} {zs : List α} : atI zs 1 = zs[1]? := at_nat (k := 1)
theorem at_last {α : Type} {zs : List α} {z : α} : atI (zs ++ [z]) (-1) = some z := by
  unfold atI ixN
  rw [if_neg (by decide), if_pos (by rw [List.length_append, List.length_singleton]; omega)]
  show (zs ++ [z])[((-1 : Int) + ((zs ++ [z]).length : Nat)).toNat]? = some z
  rw [show ((-1 : Int) + ((zs ++ [z]).length : Nat)).toNat = zs.length by rw [List.length_append, List.length_singleton]; omega]
  simp
theorem cut_nn {α : Type} {zs : List α} {a b : Nat} : cutD zs (some (a : Int)) (some (b : Int)) = (zs.drop a).take (b - a) := by
  unfold cutD
  rw [HT.sIx_nat, HT.sIx_nat]
  by_cases ha : a ≤ zs.length
  · rw [Nat.min_eq_left ha]
    by_cases hb : b ≤ zs.length
    · rw [Nat.min_eq_left hb]
    · rw [Nat.min_eq_right (by omega), List.take_of_length_le (by rw [List.length_drop]; omega), List.take_of_length_le (by rw [List.length_drop]; omega)]
  · rw [Nat.min_eq_right (show zs.length ≤ a by omega), List.drop_length, List.drop_of_length_le (show zs.length ≤ a by omega)]
    simp
theorem cut_on {α : Type} {zs : List α} {b : Nat} : cutD zs none (some (b : Int)) = zs.take b := by
  have := cut_nn (zs := zs) (a := 0) (b := b)
  simpa [cutD, HT.sIx_nat, HT.sIx_none] using this
theorem cut_no {α : Type} {zs : List α} {a : Nat} : cutD zs (some (a : Int)) none = zs.drop a := by
  unfold cutD
  rw [HT.sIx_nat, HT.sIx_none]
  by_cases ha : a ≤ zs.length
  · rw [Nat.min_eq_left ha, List.take_of_length_le (by rw [List.length_drop]; omega)]
  · rw [Nat.min_eq_right (by omega), List.drop_length, List.drop_of_length_le (by omega)]
    simp
theorem py_i : toPy (.int i) = some (.int i) := rfl
theorem eqv_pair {a b c d : Int} : gNe (.tup [.int a, .int b]) (.tup [.int c, .int d]) = some (.bl (!(decide (a = c) && decide (b = d)))) := by
  have e1 : gNe (.tup [.int a, .int b]) (.tup [.int c, .int d]) = gDat true (.tup [.int a, .int b]) (.tup [.int c, .int d]) := rfl
  rw [e1]
  have e2 : ∀ a b : Int, toPy (.tup [.int a, .int b]) = some (.tuple [.int a, .int b]) := fun a b => by
    simp only [toPy, toPys, Option.bind_some, Option.map_some]
  unfold gDat
  rw [e2, e2]
  have sh : ∀ a b : Int, SeqAt.shaped (.tuple [.int a, .int b]) = true := fun a b => rfl
  dsimp only
  rw [if_pos ⟨sh a b, sh c d⟩, if_pos rfl]
  have e3 : PyData.eqv (.tuple [.int a, .int b]) (.tuple [.int c, .int d]) = ((a == c) && ((b == d) && true)) := by
    simp only [PyData.eqv, PyData.eqvAll]
  rw [e3, Bool.and_true]
  rfl
end
end Mir

set_option Elab.async false
set_option linter.all false
set_option maxRecDepth 100000
set_option maxHeartbeats 4000000
/-! mirrors of the text's defs -/
namespace K74
open PySem PySem.Spec L2 Mir
def topS (i : Nat) : Stmt := PySem.Challenge.pw_howitbegan_k74_frames_are_read_up_to_the.main.body.getD i (.Pass ⟨0, 0, 0, 0⟩)

abbrev s_law_is_kind : Stmt := topS 22
abbrev N_law_is_kind : List Str := ["told", "due"]
theorem sc_law_is_kind : FnScope N_law_is_kind ["told", "due"] (defScope s_law_is_kind) := ⟨rfl, rfl, rfl, by decide +kernel, rfl, by decide +kernel, by decide +kernel⟩
abbrev s_law_same : Stmt := topS 23
abbrev N_law_same : List Str := ["told", "due", "todo", "one", "other"]
theorem sc_law_same : FnScope N_law_same ["told", "due"] (defScope s_law_same) := ⟨rfl, rfl, rfl, by decide +kernel, rfl, by decide +kernel, by decide +kernel⟩
abbrev s_law_all : Stmt := topS 24
abbrev N_law_all : List Str := ["pairs", "told", "due"]
theorem sc_law_all : FnScope N_law_all ["pairs"] (defScope s_law_all) := ⟨rfl, rfl, rfl, by decide +kernel, rfl, by decide +kernel, by decide +kernel⟩
abbrev s_sum_of_octets : Stmt := topS 13
abbrev N_sum_of_octets : List Str := ["octets", "found", "at", "octet"]
theorem sc_sum_of_octets : FnScope N_sum_of_octets ["octets"] (defScope s_sum_of_octets) := ⟨rfl, rfl, rfl, by decide +kernel, rfl, by decide +kernel, by decide +kernel⟩
abbrev s_sum_pair : Stmt := topS 14
abbrev N_sum_pair : List Str := ["body", "found"]
theorem sc_sum_pair : FnScope N_sum_pair ["body"] (defScope s_sum_pair) := ⟨rfl, rfl, rfl, by decide +kernel, rfl, by decide +kernel, by decide +kernel⟩
abbrev s_number_of : Stmt := topS 5
abbrev N_number_of : List Str := ["figures", "row", "base", "pairs", "at"]
theorem sc_number_of : FnScope N_number_of ["figures"] (defScope s_number_of) := ⟨rfl, rfl, rfl, by decide +kernel, rfl, by decide +kernel, by decide +kernel⟩
abbrev s_behind_number : Stmt := topS 6
abbrev N_behind_number : List Str := ["octets", "at", "place"]
theorem sc_behind_number : FnScope N_behind_number ["octets", "at"] (defScope s_behind_number) := ⟨rfl, rfl, rfl, by decide +kernel, rfl, by decide +kernel, by decide +kernel⟩
abbrev s_number_in : Stmt := topS 7
abbrev N_number_in : List Str := ["octets", "at", "end", "figures", "octet"]
theorem sc_number_in : FnScope N_number_in ["octets", "at"] (defScope s_number_in) := ⟨rfl, rfl, rfl, by decide +kernel, rfl, by decide +kernel, by decide +kernel⟩
abbrev s_frame_at : Stmt := topS 16
abbrev N_frame_at : List Str := ["octets", "at", "told", "end", "body"]
theorem sc_frame_at : FnScope N_frame_at ["octets", "at"] (defScope s_frame_at) := ⟨rfl, rfl, rfl, by decide +kernel, rfl, by decide +kernel, by decide +kernel⟩
abbrev s_frames : Stmt := topS 17
abbrev N_frames : List Str := ["octets", "told", "bodies", "place"]
theorem sc_frames : FnScope N_frames ["octets"] (defScope s_frames) := ⟨rfl, rfl, rfl, by decide +kernel, rfl, by decide +kernel, by decide +kernel⟩
abbrev s_law_any : Stmt := topS 20
abbrev N_law_any : List Str := ["deal", "bound", "rest"]
theorem sc_law_any : FnScope N_law_any ["deal", "bound"] (defScope s_law_any) := ⟨rfl, rfl, rfl, by decide +kernel, rfl, by decide +kernel, by decide +kernel⟩
abbrev s_octets_of_number : Stmt := topS 4
abbrev N_octets_of_number : List Str := ["number", "found", "rest"]
theorem sc_octets_of_number : FnScope N_octets_of_number ["number"] (defScope s_octets_of_number) := ⟨rfl, rfl, rfl, by decide +kernel, rfl, by decide +kernel, by decide +kernel⟩
abbrev s_number_octets : Stmt := topS 12
abbrev N_number_octets : List Str := ["number"]
theorem sc_number_octets : FnScope N_number_octets ["number"] (defScope s_number_octets) := ⟨rfl, rfl, rfl, by decide +kernel, rfl, by decide +kernel, by decide +kernel⟩
abbrev s_frame : Stmt := topS 15
abbrev N_frame : List Str := ["body"]
theorem sc_frame : FnScope N_frame ["body"] (defScope s_frame) := ⟨rfl, rfl, rfl, by decide +kernel, rfl, by decide +kernel, by decide +kernel⟩
abbrev s_law_number_octets : Stmt := topS 25
abbrev N_law_number_octets : List Str := ["number", "found", "rest"]
theorem sc_law_number_octets : FnScope N_law_number_octets ["number"] (defScope s_law_number_octets) := ⟨rfl, rfl, rfl, by decide +kernel, rfl, by decide +kernel, by decide +kernel⟩
abbrev s_law_of : Stmt := topS 21
abbrev N_law_of : List Str := ["deal", "some"]
theorem sc_law_of : FnScope N_law_of ["deal", "some"] (defScope s_law_of) := ⟨rfl, rfl, rfl, by decide +kernel, rfl, by decide +kernel, by decide +kernel⟩
abbrev s_law_octet : Stmt := topS 29
abbrev N_law_octet : List Str := ["deal"]
theorem sc_law_octet : FnScope N_law_octet ["deal"] (defScope s_law_octet) := ⟨rfl, rfl, rfl, by decide +kernel, rfl, by decide +kernel, by decide +kernel⟩
abbrev s_law_sum : Stmt := topS 26
abbrev N_law_sum : List Str := ["octets", "at"]
theorem sc_law_sum : FnScope N_law_sum ["octets"] (defScope s_law_sum) := ⟨rfl, rfl, rfl, by decide +kernel, rfl, by decide +kernel, by decide +kernel⟩
abbrev s_law_number_at : Stmt := topS 30
abbrev N_law_number_at : List Str := ["octets", "at", "number", "base", "place"]
theorem sc_law_number_at : FnScope N_law_number_at ["octets", "at"] (defScope s_law_number_at) := ⟨rfl, rfl, rfl, by decide +kernel, rfl, by decide +kernel, by decide +kernel⟩
abbrev s_law_frames_in : Stmt := topS 31
abbrev N_law_frames_in : List Str := ["octets", "turn", "bodies", "place", "told", "total", "body", "behind"]
theorem sc_law_frames_in : FnScope N_law_frames_in ["octets"] (defScope s_law_frames_in) := ⟨rfl, rfl, rfl, by decide +kernel, rfl, by decide +kernel, by decide +kernel⟩
abbrev s_law_due : Stmt := topS 34
abbrev N_law_due : List Str := ["octets", "bodies", "place", "body"]
theorem sc_law_due : FnScope N_law_due ["octets"] (defScope s_law_due) := ⟨rfl, rfl, rfl, by decide +kernel, rfl, by decide +kernel, by decide +kernel⟩
abbrev s_law_bent : Stmt := topS 33
abbrev N_law_bent : List Str := ["deal", "octets", "at", "sort"]
theorem sc_law_bent : FnScope N_law_bent ["deal", "octets"] (defScope s_law_bent) := ⟨rfl, rfl, rfl, by decide +kernel, rfl, by decide +kernel, by decide +kernel⟩
abbrev s_law_joined : Stmt := topS 28
abbrev N_law_joined : List Str := ["rows", "found", "row"]
theorem sc_law_joined : FnScope N_law_joined ["rows"] (defScope s_law_joined) := ⟨rfl, rfl, rfl, by decide +kernel, rfl, by decide +kernel, by decide +kernel⟩
abbrev s_law_framed : Stmt := topS 27
abbrev N_law_framed : List Str := ["body", "total"]
theorem sc_law_framed : FnScope N_law_framed ["body"] (defScope s_law_framed) := ⟨rfl, rfl, rfl, by decide +kernel, rfl, by decide +kernel, by decide +kernel⟩
abbrev s_law_some_body : Stmt := topS 32
abbrev N_law_some_body : List Str := ["deal", "many", "one", "step", "turn"]
theorem sc_law_some_body : FnScope N_law_some_body ["deal"] (defScope s_law_some_body) := ⟨rfl, rfl, rfl, by decide +kernel, rfl, by decide +kernel, by decide +kernel⟩
abbrev s_law_deal : Stmt := topS 19
abbrev N_law_deal : List Str := ["script", "salt", "most", "cell", "cells", "mix"]
theorem sc_law_deal : FnScope N_law_deal ["script", "salt"] (defScope s_law_deal) := ⟨rfl, rfl, rfl, by decide +kernel, rfl, by decide +kernel, by decide +kernel⟩
abbrev s_law : Stmt := topS 35
abbrev N_law : List Str := ["script", "deal", "turn", "octets", "pairs", "rows", "body", "row", "many", "ahead", "last", "cut", "bent", "wrong", "mixed", "total", "one", "number"]
theorem sc_law : FnScope N_law ["script"] (defScope s_law) := ⟨rfl, rfl, rfl, by decide +kernel, rfl, by decide +kernel, by decide +kernel⟩
/-! ### mirrors -/
-- 0: told, 1: due
noncomputable def B_law_is_kind : Mo Fl :=
  (sSeq (sIf (mTest (mBin gIs1 (mVar 1) (mC .non)))
  (sSeq (sRet (mBin gIs1 (mVar 0) (mC .non)))
  sNil)
  sNil)
  (sSeq (sIf (mOr (mTest (mBin gIs1 (mVar 1) (mC (.bl true)))) (mTest (mBin gIs1 (mVar 1) (mC (.bl false)))))
  (sSeq (sRet (mIte (mTest (mVar 1)) (mBin gIs1 (mVar 0) (mC (.bl true))) (mBin gIs1 (mVar 0) (mC (.bl false)))))
  sNil)
  sNil)
  (sSeq (sIf (mTest (mU (gIsi .str) (mVar 1)))
  (sSeq (sRet (mAndV (mU (gIsi .str) (mVar 0)) (mBin gEq (mVar 0) (mVar 1))))
  sNil)
  sNil)
  (sSeq (sRet (mAndV (mU (gIsi .int) (mVar 0)) (mAndV (mNotV (mU (gIsi .bool) (mVar 0))) (mBin gEq (mVar 0) (mVar 1)))))
  sNil))))
noncomputable def M_law_is_kind : FM := mFun 2 B_law_is_kind
-- 0: told, 1: due, 2: todo, 3: one, 4: other
noncomputable def C_law_same1 : Mo Bool := (mTest (mBin gGt (mU gLen (mVar 2)) (mC (.int 0))))
noncomputable def L_law_same1 : Mo Fl :=
  (sSeq (sTo (putP 3 4) (mPop (mVar 2)))
  (sSeq (sSet 3 (mIte (mTest (mU gIsiC (mVar 3))) mNo (mVar 3)))
  (sSeq (sIf (mTest (mU (gIsi .tuple) (mVar 4)))
  (sSeq (sIf (mOr (mNot (mTest (mU (gIsi .tuple) (mVar 3)))) (mTest (mBin gNe (mU gLen (mVar 3)) (mU gLen (mVar 4)))))
  (sSeq (sRet (mC (.bl false)))
  sNil)
  sNil)
  (sSeq (sOwn 2 (mBin gAdd (mVar 2) (mBin gZip (mVar 3) (mVar 4))))
  sNil))
  (sSeq (sIf (mOr (mTest (mU (gIsiA [.tuple, .list, .dict]) (mVar 3))) (mNot (mTest (mCall M_law_is_kind 2 (mCons (mVar 3) (mCons (mVar 4) mNil))))))
  (sSeq (sRet (mC (.bl false)))
  sNil)
  sNil)
  sNil))
  sNil)))
noncomputable def B_law_same : Mo Fl :=
  (sSeq (sOwn 2 (mLst (mCons (mTup (mCons (mVar 0) (mCons (mVar 1) mNil))) mNil)))
  (sSeq (sLoop C_law_same1 L_law_same1)
  (sSeq (sRet (mC (.bl true)))
  sNil)))
noncomputable def M_law_same : FM := mFun 5 B_law_same
-- 0: pairs, 1: told, 2: due
noncomputable def B_law_all : Mo Fl :=
  (sSeq (sRet (mBin gEq (mU gLen (mComp (putP 1 2) [1, 2] (mIt (mVar 0)) (mNot (mTest (mCall M_law_same 2 (mCons (mVar 1) (mCons (mVar 2) mNil))))) (mVar 1))) (mC (.int 0))))
  sNil)
noncomputable def M_law_all : FM := mFun 3 B_law_all
-- 0: octets, 1: found, 2: at, 3: octet
noncomputable def F_sum_of_octets1 : Mo Fl :=
  (sSeq (sAug (fun i j => i + j) 1 (mBin gMul (mBin gAdd (mVar 2) (mC (.int 1))) (mVar 3)))
  sNil)
noncomputable def B_sum_of_octets : Mo Fl :=
  (sSeq (sSet 1 (mC (.int 0)))
  (sSeq (sFor (putP 2 3) (mEnum (mCons (mVar 0) mNil)) F_sum_of_octets1)
  (sSeq (sRet (mBin gMod (mVar 1) (mC (.int 65521))))
  sNil)))
noncomputable def M_sum_of_octets : FM := mFun 4 B_sum_of_octets
-- 0: body, 1: found
noncomputable def B_sum_pair : Mo Fl :=
  (sSeq (sSet 1 (mCall M_sum_of_octets 1 (mCons (mVar 0) mNil)))
  (sSeq (sRet (mTup (mCons (mBin gMod (mVar 1) (mC (.int 256))) (mCons (mBin gDiv (mVar 1) (mC (.int 256))) mNil))))
  sNil))
noncomputable def M_sum_pair : FM := mFun 2 B_sum_pair
-- 0: figures, 1: row, 2: base, 3: pairs, 4: at
noncomputable def C_number_of1 : Mo Bool := (mTest (mBin gGt (mU gLen (mVar 1)) (mC (.int 1))))
noncomputable def L_number_of1 : Mo Fl :=
  (sSeq (sOwn 3 (mComp (putN 4) [4] (mRng ((mCons (mC (.int 0)) (mCons (mBin gSub (mU gLen (mVar 1)) (mC (.int 1))) (mCons (mC (.int 2)) mNil))).bind fun ds => mGuard (ds.length = 3) ds)) (Mo.pure true) (mBin gAdd (mBin gIx (mVar 1) (mVar 4)) (mBin gMul (mVar 2) (mBin gIx (mVar 1) (mBin gAdd (mVar 4) (mC (.int 1))))))))
  (sSeq (sIf (mTest (mBin gEq (mBin gMod (mU gLen (mVar 1)) (mC (.int 2))) (mC (.int 1))))
  (sSeq (sDrop (mApp (mVar 3) (mBin gIx (mVar 1) (mBin gSub (mU gLen (mVar 1)) (mC (.int 1))))))
  sNil)
  sNil)
  (sSeq (sFix 3)
  (sSeq (sSet 1 (mVar 3))
  (sSeq (sSet 2 (mBin gMul (mVar 2) (mVar 2)))
  sNil)))))
noncomputable def B_number_of : Mo Fl :=
  (sSeq (sTo (putP 1 2) (mTup (mCons (mU gList (mVar 0)) (mCons (mC (.int 128)) mNil))))
  (sSeq (sLoop C_number_of1 L_number_of1)
  (sSeq (sRet (mBin gIx (mVar 1) (mC (.int 0))))
  sNil)))
noncomputable def M_number_of : FM := mFun 5 B_number_of
-- 0: octets, 1: at, 2: place
noncomputable def F_behind_number1 : Mo Fl :=
  (sSeq (sIf (mTest (mBin gLt (mBin gIx (mVar 0) (mVar 2)) (mC (.int 128))))
  (sSeq (sRet (mBin gAdd (mVar 2) (mC (.int 1))))
  sNil)
  sNil)
  sNil)
noncomputable def B_behind_number : Mo Fl :=
  (sSeq (sIf (mTest (mBin gLt (mVar 1) (mC (.int 0))))
  (sSeq (sRet (mC .non))
  sNil)
  sNil)
  (sSeq (sFor (putN 2) (mRng ((mCons (mVar 1) (mCons (mU gLen (mVar 0)) mNil)).bind fun ds => mGuard (ds.length = 2) ds)) F_behind_number1)
  (sSeq (sRet (mC .non))
  sNil)))
noncomputable def M_behind_number : FM := mFun 3 B_behind_number
-- 0: octets, 1: at, 2: end, 3: figures, 4: octet
noncomputable def B_number_in : Mo Fl :=
  (sSeq (sSet 2 (mCall M_behind_number 2 (mCons (mVar 0) (mCons (mVar 1) mNil))))
  (sSeq (sIf (mOr (mTest (mBin gIs1 (mVar 2) (mC .non))) (mAnd (mTest (mBin gGt (mBin gSub (mVar 2) (mVar 1)) (mC (.int 1)))) (mTest (mBin gEq (mBin gIx (mVar 0) (mBin gSub (mVar 2) (mC (.int 1)))) (mC (.int 0))))))
  (sSeq (sRet (mC .non))
  sNil)
  sNil)
  (sSeq (sSet 3 (mBin gAdd (mComp (putN 4) [4] (mIt (mSl (mVar 0) (mPart (mVar 1)) (mPart (mBin gSub (mVar 2) (mC (.int 1)))))) (Mo.pure true) (mBin gSub (mVar 4) (mC (.int 128)))) (mLst (mCons (mBin gIx (mVar 0) (mBin gSub (mVar 2) (mC (.int 1)))) mNil))))
  (sSeq (sRet (mTup (mCons (mCall M_number_of 1 (mCons (mVar 3) mNil)) (mCons (mVar 2) mNil))))
  sNil))))
noncomputable def M_number_in : FM := mFun 5 B_number_in
-- 0: octets, 1: at, 2: told, 3: end, 4: body
noncomputable def B_frame_at : Mo Fl :=
  (sSeq (sSet 2 (mCall M_number_in 2 (mCons (mVar 0) (mCons (mVar 1) mNil))))
  (sSeq (sIf (mOr (mTest (mBin gIs1 (mVar 2) (mC .non))) (mTest (mBin gGt (mBin gAdd (mBin gIx (mVar 2) (mC (.int 0))) (mC (.int 2))) (mBin gSub (mU gLen (mVar 0)) (mBin gIx (mVar 2) (mC (.int 1)))))))
  (sSeq (sRet (mC .non))
  sNil)
  sNil)
  (sSeq (sSet 3 (mBin gAdd (mBin gIx (mVar 2) (mC (.int 0))) (mBin gIx (mVar 2) (mC (.int 1)))))
  (sSeq (sSet 4 (mSl (mVar 0) (mPart (mBin gIx (mVar 2) (mC (.int 1)))) (mPart (mVar 3))))
  (sSeq (sIf (mTest (mBin gNe (mSl (mVar 0) (mPart (mVar 3)) (mPart (mBin gAdd (mVar 3) (mC (.int 2))))) (mCall M_sum_pair 1 (mCons (mVar 4) mNil))))
  (sSeq (sRet (mC .non))
  sNil)
  sNil)
  (sSeq (sRet (mTup (mCons (mVar 4) (mCons (mBin gAdd (mVar 3) (mC (.int 2))) mNil))))
  sNil))))))
noncomputable def M_frame_at : FM := mFun 5 B_frame_at
-- 0: octets, 1: told, 2: bodies, 3: place
noncomputable def C_frames1 : Mo Bool := (mTest (mBin gNot1 (mVar 1) (mC .non)))
noncomputable def L_frames1 : Mo Fl :=
  (sSeq (sDrop (mApp (mVar 2) (mBin gIx (mVar 1) (mC (.int 0)))))
  (sSeq (sSet 3 (mBin gIx (mVar 1) (mC (.int 1))))
  (sSeq (sSet 1 (mCall M_frame_at 2 (mCons (mVar 0) (mCons (mVar 3) mNil))))
  sNil)))
noncomputable def B_frames : Mo Fl :=
  (sSeq (sSet 0 (mU gTuple (mVar 0)))
  (sSeq (sPar true false 2 3 (mLst mNil) (mC (.int 0)))
  (sSeq (sSet 1 (mCall M_frame_at 2 (mCons (mVar 0) (mCons (mC (.int 0)) mNil))))
  (sSeq (sLoop C_frames1 L_frames1)
  (sSeq (sRet (mTup (mCons (mU gTuple (mVar 2)) (mCons (mVar 3) mNil))))
  sNil)))))
noncomputable def M_frames : FM := mFun 4 B_frames
-- 0: deal, 1: bound, 2: rest
noncomputable def C_law_any1 : Mo Bool := (mAnd (mTest (mBin gGt (mU gLen (mBin gIx (mVar 0) (mC (.int 0)))) (mC (.int 0)))) (mTest (mBin gEq (mBin gIx (mBin gIx (mVar 0) (mC (.int 0))) (mU gNeg (mC (.int 1)))) (mC (.int 0)))))
noncomputable def L_law_any1 : Mo Fl :=
  (sSeq (sDrop (mPop (mBin gIx (mVar 0) (mC (.int 0)))))
  sNil)
noncomputable def B_law_any : Mo Fl :=
  (sSeq (sLoop C_law_any1 L_law_any1)
  (sSeq (sIf (mTest (mBin gGt (mU gLen (mBin gIx (mVar 0) (mC (.int 0)))) (mC (.int 0))))
  (sSeq (sSet 2 (mU gInt (mPop (mBin gIx (mVar 0) (mC (.int 0))))))
  (sSeq (sDrop (mApp (mBin gIx (mVar 0) (mC (.int 0))) (mBin gDiv (mVar 2) (mVar 1))))
  (sSeq (sRet (mBin gMod (mVar 2) (mVar 1)))
  sNil)))
  sNil)
  (sSeq (sSub (mBin gMod (mU gInt (mBin gAdd (mBin gMul (mBin gIx (mVar 0) (mC (.int 1))) (mC (.int 48271))) (mC (.int 31)))) (mC (.int 2147483647))) (mVar 0) (mC (.int 1)))
  (sSeq (sRet (mBin gMod (mU gInt (mBin gDiv (mBin gIx (mVar 0) (mC (.int 1))) (mC (.int 64)))) (mVar 1)))
  sNil))))
noncomputable def M_law_any : FM := mFun 3 B_law_any
-- 0: number, 1: found, 2: rest
noncomputable def C_octets_of_number1 : Mo Bool := (mTest (mBin gGe (mVar 2) (mC (.int 128))))
noncomputable def L_octets_of_number1 : Mo Fl :=
  (sSeq (sDrop (mApp (mVar 1) (mBin gAdd (mC (.int 128)) (mBin gMod (mVar 2) (mC (.int 128))))))
  (sSeq (sSet 2 (mBin gDiv (mVar 2) (mC (.int 128))))
  sNil))
noncomputable def B_octets_of_number : Mo Fl :=
  (sSeq (sOwn 1 (mLst mNil))
  (sSeq (sSet 2 (mVar 0))
  (sSeq (sLoop C_octets_of_number1 L_octets_of_number1)
  (sSeq (sDrop (mApp (mVar 1) (mVar 2)))
  (sSeq (sRet (mU gTuple (mVar 1)))
  sNil)))))
noncomputable def M_octets_of_number : FM := mFun 3 B_octets_of_number
-- 0: number
noncomputable def B_number_octets : Mo Fl :=
  (sSeq (sRet (mCall M_octets_of_number 1 (mCons (mVar 0) mNil)))
  sNil)
noncomputable def M_number_octets : FM := mFun 1 B_number_octets
-- 0: body
noncomputable def B_frame : Mo Fl :=
  (sSeq (sRet (mBin gAdd (mBin gAdd (mCall M_number_octets 1 (mCons (mU gLen (mVar 0)) mNil)) (mU gTuple (mVar 0))) (mCall M_sum_pair 1 (mCons (mVar 0) mNil))))
  sNil)
noncomputable def M_frame : FM := mFun 1 B_frame
-- 0: number, 1: found, 2: rest
noncomputable def C_law_number_octets1 : Mo Bool := (mTest (mBin gGt (mVar 2) (mC (.int 127))))
noncomputable def L_law_number_octets1 : Mo Fl :=
  (sSeq (sDrop (mApp (mVar 1) (mBin gAdd (mBin gMod (mU gInt (mVar 2)) (mC (.int 128))) (mC (.int 128)))))
  (sSeq (sSet 2 (mBin gDiv (mVar 2) (mC (.int 128))))
  sNil))
noncomputable def B_law_number_octets : Mo Fl :=
  (sSeq (sPar true false 1 2 (mLst mNil) (mVar 0))
  (sSeq (sLoop C_law_number_octets1 L_law_number_octets1)
  (sSeq (sRet (mBin gAdd (mVar 1) (mLst (mCons (mVar 2) mNil))))
  sNil)))
noncomputable def M_law_number_octets : FM := mFun 3 B_law_number_octets
-- 0: deal, 1: some
noncomputable def B_law_of : Mo Fl :=
  (sSeq (sRet (mBin gIx (mVar 1) (mCall M_law_any 2 (mCons (mVar 0) (mCons (mU gLen (mVar 1)) mNil)))))
  sNil)
noncomputable def M_law_of : FM := mFun 2 B_law_of
-- 0: deal
noncomputable def B_law_octet : Mo Fl :=
  (sSeq (sRet (mCall M_law_of 2 (mCons (mVar 0) (mCons (mLst (mCons (mC (.int 0)) (mCons (mC (.int 1)) (mCons (mC (.int 127)) (mCons (mC (.int 128)) (mCons (mC (.int 255)) (mCons (mCall M_law_any 2 (mCons (mVar 0) (mCons (mC (.int 256)) mNil))) (mCons (mCall M_law_any 2 (mCons (mVar 0) (mCons (mC (.int 256)) mNil))) (mCons (mCall M_law_any 2 (mCons (mVar 0) (mCons (mC (.int 128)) mNil))) mNil))))))))) mNil))))
  sNil)
noncomputable def M_law_octet : FM := mFun 1 B_law_octet
-- 0: octets, 1: at
noncomputable def B_law_sum : Mo Fl :=
  (sSeq (sRet (mBin gMod (mU gInt (mU gSum (mComp (putN 1) [1] (mRng ((mCons (mU gLen (mVar 0)) mNil).bind fun ds => mGuard (ds.length = 1) ds)) (Mo.pure true) (mBin gMul (mBin gIx (mVar 0) (mVar 1)) (mBin gAdd (mVar 1) (mC (.int 1))))))) (mC (.int 65521))))
  sNil)
noncomputable def M_law_sum : FM := mFun 2 B_law_sum
-- 0: octets, 1: at, 2: number, 3: base, 4: place
noncomputable def C_law_number_at1 : Mo Bool := (mAnd (mTest (mBin gLt (mVar 4) (mU gLen (mVar 0)))) (mTest (mBin gGt (mBin gIx (mVar 0) (mVar 4)) (mC (.int 127)))))
noncomputable def L_law_number_at1 : Mo Fl :=
  (sSeq (sPar3 2 3 4 (mCons (mBin gAdd (mVar 2) (mBin gMul (mVar 3) (mBin gSub (mBin gIx (mVar 0) (mVar 4)) (mC (.int 128))))) (mCons (mBin gMul (mVar 3) (mC (.int 128))) (mCons (mBin gAdd (mVar 4) (mC (.int 1))) mNil))))
  sNil)
noncomputable def B_law_number_at : Mo Fl :=
  (sSeq (sPar3 2 3 4 (mCons (mC (.int 0)) (mCons (mC (.int 1)) (mCons (mVar 1) mNil))))
  (sSeq (sIf (mTest (mBin gLt (mVar 1) (mC (.int 0))))
  (sSeq (sRet (mC .non))
  sNil)
  sNil)
  (sSeq (sLoop C_law_number_at1 L_law_number_at1)
  (sSeq (sIf (mOr (mTest (mBin gGe (mVar 4) (mU gLen (mVar 0)))) (mAnd (mTest (mBin gGt (mVar 4) (mVar 1))) (mTest (mBin gEq (mBin gIx (mVar 0) (mVar 4)) (mC (.int 0))))))
  (sSeq (sRet (mC .non))
  sNil)
  sNil)
  (sSeq (sRet (mTup (mCons (mBin gAdd (mVar 2) (mBin gMul (mVar 3) (mBin gIx (mVar 0) (mVar 4)))) (mCons (mBin gAdd (mVar 4) (mC (.int 1))) mNil))))
  sNil)))))
noncomputable def M_law_number_at : FM := mFun 5 B_law_number_at
-- 0: octets, 1: turn, 2: bodies, 3: place, 4: told, 5: total, 6: body, 7: behind
noncomputable def F_law_frames_in1 : Mo Fl :=
  (sSeq (sSet 4 (mCall M_law_number_at 2 (mCons (mVar 0) (mCons (mVar 3) mNil))))
  (sSeq (sIf (mOr (mTest (mBin gIs1 (mVar 4) (mC .non))) (mTest (mBin gGt (mBin gAdd (mBin gIx (mVar 4) (mC (.int 0))) (mC (.int 2))) (mBin gSub (mU gLen (mVar 0)) (mBin gIx (mVar 4) (mC (.int 1)))))))
  (sSeq (sRet (mTup (mCons (mVar 2) (mCons (mVar 3) mNil))))
  sNil)
  sNil)
  (sSeq (sPar false false 6 7 (mSl (mVar 0) (mPart (mBin gIx (mVar 4) (mC (.int 1)))) (mPart (mBin gAdd (mBin gIx (mVar 4) (mC (.int 1))) (mBin gIx (mVar 4) (mC (.int 0)))))) (mBin gAdd (mBin gIx (mVar 4) (mC (.int 1))) (mBin gIx (mVar 4) (mC (.int 0)))))
  (sSeq (sSet 5 (mCall M_law_sum 1 (mCons (mVar 6) mNil)))
  (sSeq (sIf (mOr (mTest (mBin gNe (mBin gIx (mVar 0) (mVar 7)) (mBin gMod (mU gInt (mVar 5)) (mC (.int 256))))) (mTest (mBin gNe (mBin gIx (mVar 0) (mBin gAdd (mVar 7) (mC (.int 1)))) (mBin gDiv (mVar 5) (mC (.int 256))))))
  (sSeq (sRet (mTup (mCons (mVar 2) (mCons (mVar 3) mNil))))
  sNil)
  sNil)
  (sSeq (sPar false false 2 3 (mBin gAdd (mVar 2) (mLst (mCons (mVar 6) mNil))) (mBin gAdd (mVar 7) (mC (.int 2))))
  sNil))))))
noncomputable def B_law_frames_in : Mo Fl :=
  (sSeq (sPar false false 2 3 (mLst mNil) (mC (.int 0)))
  (sSeq (sFor (putN 1) (mRng ((mCons (mBin gAdd (mU gLen (mVar 0)) (mC (.int 1))) mNil).bind fun ds => mGuard (ds.length = 1) ds)) F_law_frames_in1)
  (sSeq (sRet (mTup (mCons (mVar 2) (mCons (mVar 3) mNil))))
  sNil)))
noncomputable def M_law_frames_in : FM := mFun 8 B_law_frames_in
-- 0: octets, 1: bodies, 2: place, 3: body
noncomputable def B_law_due : Mo Fl :=
  (sSeq (sTo (putP 1 2) (mCall M_law_frames_in 1 (mCons (mVar 0) mNil)))
  (sSeq (sRet (mTup (mCons (mU gTuple (mComp (putN 3) [3] (mIt (mVar 1)) (Mo.pure true) (mU gTuple (mVar 3)))) (mCons (mVar 2) mNil))))
  sNil))
noncomputable def M_law_due : FM := mFun 4 B_law_due
-- 0: deal, 1: octets, 2: at, 3: sort
noncomputable def B_law_bent : Mo Fl :=
  (sSeq (sIf (mTest (mBin gEq (mU gLen (mVar 1)) (mC (.int 0))))
  (sSeq (sRet (mVar 1))
  sNil)
  sNil)
  (sSeq (sPar false false 2 3 (mCall M_law_any 2 (mCons (mVar 0) (mCons (mU gLen (mVar 1)) mNil))) (mCall M_law_any 2 (mCons (mVar 0) (mCons (mC (.int 4)) mNil))))
  (sSeq (sIf (mTest (mBin gEq (mVar 3) (mC (.int 0))))
  (sSeq (sRet (mBin gAdd (mSl (mVar 1) mNoPart (mPart (mVar 2))) (mSl (mVar 1) (mPart (mBin gAdd (mVar 2) (mC (.int 1)))) mNoPart)))
  sNil)
  sNil)
  (sSeq (sIf (mTest (mBin gEq (mVar 3) (mC (.int 1))))
  (sSeq (sRet (mBin gAdd (mBin gAdd (mSl (mVar 1) mNoPart (mPart (mVar 2))) (mLst (mCons (mCall M_law_octet 1 (mCons (mVar 0) mNil)) mNil))) (mSl (mVar 1) (mPart (mVar 2)) mNoPart)))
  sNil)
  sNil)
  (sSeq (sRet (mBin gAdd (mBin gAdd (mSl (mVar 1) mNoPart (mPart (mVar 2))) (mLst (mCons (mBin gMod (mU gInt (mBin gAdd (mBin gIx (mVar 1) (mVar 2)) (mCall M_law_of 2 (mCons (mVar 0) (mCons (mLst (mCons (mC (.int 1)) (mCons (mC (.int 128)) (mCons (mC (.int 255)) (mCons (mBin gAdd (mC (.int 1)) (mCall M_law_any 2 (mCons (mVar 0) (mCons (mC (.int 255)) mNil)))) mNil))))) mNil))))) (mC (.int 256))) mNil))) (mSl (mVar 1) (mPart (mBin gAdd (mVar 2) (mC (.int 1)))) mNoPart)))
  sNil)))))
noncomputable def M_law_bent : FM := mFun 4 B_law_bent
-- 0: rows, 1: found, 2: row
noncomputable def F_law_joined1 : Mo Fl :=
  (sSeq (sSet 1 (mBin gAdd (mVar 1) (mVar 2)))
  sNil)
noncomputable def B_law_joined : Mo Fl :=
  (sSeq (sSet 1 (mLst mNil))
  (sSeq (sFor (putN 2) (mIt (mVar 0)) F_law_joined1)
  (sSeq (sRet (mVar 1))
  sNil)))
noncomputable def M_law_joined : FM := mFun 3 B_law_joined
-- 0: body, 1: total
noncomputable def B_law_framed : Mo Fl :=
  (sSeq (sSet 1 (mCall M_law_sum 1 (mCons (mVar 0) mNil)))
  (sSeq (sRet (mBin gAdd (mBin gAdd (mCall M_law_number_octets 1 (mCons (mU gLen (mVar 0)) mNil)) (mVar 0)) (mLst (mCons (mBin gMod (mU gInt (mVar 1)) (mC (.int 256))) (mCons (mBin gDiv (mVar 1) (mC (.int 256))) mNil)))))
  sNil))
noncomputable def M_law_framed : FM := mFun 2 B_law_framed
-- 0: deal, 1: many, 2: one, 3: step, 4: turn
noncomputable def B_law_some_body : Mo Fl :=
  (sSeq (sSet 1 (mCall M_law_of 2 (mCons (mVar 0) (mCons (mLst (mCons (mC (.int 0)) (mCons (mC (.int 1)) (mCons (mC (.int 2)) (mCons (mC (.int 5)) (mCons (mC (.int 20)) (mCons (mC (.int 126)) (mCons (mC (.int 127)) (mCons (mC (.int 128)) (mCons (mC (.int 129)) (mCons (mC (.int 300)) mNil))))))))))) mNil))))
  (sSeq (sIf (mTest (mBin gGt (mVar 1) (mC (.int 30))))
  (sSeq (sTo (putP 2 3) (mTup (mCons (mCall M_law_octet 1 (mCons (mVar 0) mNil)) (mCons (mCall M_law_of 2 (mCons (mVar 0) (mCons (mLst (mCons (mC (.int 0)) (mCons (mC (.int 1)) (mCons (mC (.int 7)) (mCons (mC (.int 128)) mNil))))) mNil))) mNil))))
  (sSeq (sRet (mComp (putN 4) [4] (mRng ((mCons (mVar 1) mNil).bind fun ds => mGuard (ds.length = 1) ds)) (Mo.pure true) (mBin gMod (mU gInt (mBin gAdd (mVar 2) (mBin gMul (mVar 4) (mVar 3)))) (mC (.int 256)))))
  sNil))
  sNil)
  (sSeq (sRet (mComp (putN 4) [4] (mRng ((mCons (mVar 1) mNil).bind fun ds => mGuard (ds.length = 1) ds)) (Mo.pure true) (mCall M_law_octet 1 (mCons (mVar 0) mNil))))
  sNil)))
noncomputable def M_law_some_body : FM := mFun 5 B_law_some_body
-- 0: script, 1: salt, 2: most, 3: cell, 4: cells, 5: mix
noncomputable def F_law_deal1 : Mo Fl :=
  (sSeq (sSet 5 (mBin gMod (mU gInt (mBin gAdd (mBin gAdd (mBin gMul (mVar 5) (mC (.int 69621))) (mBin gMod (mU gInt (mVar 3)) (mC (.int 2147483563)))) (mC (.int 23)))) (mC (.int 2147483647))))
  sNil)
noncomputable def B_law_deal : Mo Fl :=
  (sSeq (sSet 2 (mBin gMul (mBin gMul (mBin gMul (mBin gMul (mBin gMul (mBin gPow (mC (.int 10)) (mC (.int 64))) (mBin gPow (mC (.int 10)) (mC (.int 64)))) (mBin gPow (mC (.int 10)) (mC (.int 64)))) (mBin gPow (mC (.int 10)) (mC (.int 64)))) (mBin gPow (mC (.int 10)) (mC (.int 64)))) (mBin gPow (mC (.int 10)) (mC (.int 64)))))
  (sSeq (sPar false false 4 5 (mComp (putN 3) [3] (mIt (mSl (mVar 0) mNoPart (mPart (mC (.int 63))))) (Mo.pure true) (mBin gMod (mU gInt (mU gAbs (mU gInt (mVar 3)))) (mVar 2))) (mBin gAdd (mC (.int 70001)) (mBin gMul (mC (.int 7919)) (mVar 1))))
  (sSeq (sFor (putN 3) (mIt (mVar 4)) F_law_deal1)
  (sSeq (sRet (mShr (mLst (mCons (mShr (mU gRev (mComp (putN 3) [3] (mIt (mVar 4)) (mTest (mBin gGe (mVar 3) (mBin gPow (mC (.int 10)) (mC (.int 18))))) (mVar 3)))) (mCons (mVar 5) mNil)))))
  sNil))))
noncomputable def M_law_deal : FM := mFun 6 B_law_deal
-- 0: script, 1: deal, 2: turn, 3: octets, 4: pairs, 5: rows, 6: body, 7: row, 8: many, 9: ahead, 10: last, 11: cut, 12: bent, 13: wrong, 14: mixed, 15: total, 16: one, 17: number
noncomputable def F_law1 : Mo Fl :=
  (sSeq (sSet 8 (mCall M_law_any 2 (mCons (mVar 1) (mCons (mU gLen (mVar 5)) mNil))))
  (sSeq (sSet 9 (mCall M_law_joined 1 (mCons (mComp (putP 6 7) [6, 7] (mIt (mSl (mVar 5) mNoPart (mPart (mVar 8)))) (Mo.pure true) (mVar 7)) mNil)))
  (sSeq (sSet 10 (mBin gIx (mBin gIx (mVar 5) (mVar 8)) (mC (.int 1))))
  (sSeq (sSet 11 (mBin gAdd (mVar 9) (mSl (mVar 10) mNoPart (mPart (mCall M_law_any 2 (mCons (mVar 1) (mCons (mU gLen (mVar 10)) mNil)))))))
  (sSeq (sDrop (mApp (mVar 4) (mTup (mCons (mCall M_frames 1 (mCons (mU gTuple (mVar 11)) mNil)) (mCons (mTup (mCons (mU gTuple (mComp (putP 6 7) [6, 7] (mIt (mSl (mVar 5) mNoPart (mPart (mVar 8)))) (Mo.pure true) (mU gTuple (mVar 6)))) (mCons (mU gLen (mVar 9)) mNil))) mNil)))))
  (sSeq (sDrop (mApp (mVar 4) (mTup (mCons (mCall M_frames 1 (mCons (mU gTuple (mBin gAdd (mVar 9) (mVar 10))) mNil)) (mCons (mTup (mCons (mU gTuple (mComp (putP 6 7) [6, 7] (mIt (mSl (mVar 5) mNoPart (mPart (mBin gAdd (mVar 8) (mC (.int 1)))))) (Mo.pure true) (mU gTuple (mVar 6)))) (mCons (mU gLen (mBin gAdd (mVar 9) (mVar 10))) mNil))) mNil)))))
  (sSeq (sSet 12 (mCall M_law_bent 2 (mCons (mVar 1) (mCons (mVar 3) mNil))))
  (sSeq (sDrop (mApp (mVar 4) (mTup (mCons (mCall M_frames 1 (mCons (mU gTuple (mVar 12)) mNil)) (mCons (mCall M_law_due 1 (mCons (mVar 12) mNil)) mNil)))))
  (sSeq (sSet 13 (mCall M_law_of 2 (mCons (mVar 1) (mCons (mLst (mCons (mLst (mCons (mC (.int 0)) (mCons (mC (.int 0)) (mCons (mC (.int 1)) mNil)))) (mCons (mLst (mCons (mC (.int 1)) (mCons (mC (.int 0)) (mCons (mC (.int 1)) (mCons (mC (.int 0)) mNil))))) (mCons (mLst (mCons (mC (.int 0)) (mCons (mC (.int 1)) (mCons (mC (.int 0)) mNil)))) (mCons (mLst (mCons (mC (.int 128)) (mCons (mC (.int 0)) (mCons (mC (.int 0)) (mCons (mC (.int 0)) mNil))))) (mCons (mLst (mCons (mC (.int 1)) (mCons (mC (.int 5)) (mCons (mC (.int 0)) (mCons (mC (.int 5)) mNil))))) (mCons (mLst (mCons (mC (.int 255)) mNil)) (mCons (mLst (mCons (mC (.int 3)) (mCons (mC (.int 1)) (mCons (mC (.int 1)) (mCons (mC (.int 1)) (mCons (mC (.int 6)) mNil)))))) (mCons (mLst (mCons (mC (.int 2)) (mCons (mC (.int 1)) (mCons (mC (.int 1)) (mCons (mC (.int 3)) (mCons (mC (.int 1)) mNil)))))) mNil))))))))) mNil))))
  (sSeq (sSet 14 (mBin gAdd (mBin gAdd (mBin gAdd (mVar 9) (mVar 13)) (mVar 10)) (mComp (putN 17) [17] (mRng ((mCons (mCall M_law_any 2 (mCons (mVar 1) (mCons (mC (.int 5)) mNil))) mNil).bind fun ds => mGuard (ds.length = 1) ds)) (Mo.pure true) (mCall M_law_octet 1 (mCons (mVar 1) mNil)))))
  (sSeq (sDrop (mApp (mVar 4) (mTup (mCons (mCall M_frames 1 (mCons (mU gTuple (mVar 14)) mNil)) (mCons (mCall M_law_due 1 (mCons (mVar 14) mNil)) mNil)))))
  sNil)))))))))))
noncomputable def F_law2 : Mo Fl :=
  (sSeq (sSet 6 (mCall M_law_some_body 1 (mCons (mVar 1) mNil)))
  (sSeq (sSet 7 (mCall M_law_framed 1 (mCons (mVar 6) mNil)))
  (sSeq (sDrop (mApp (mVar 4) (mTup (mCons (mIte (mTest (mBin gLt (mVar 2) (mC (.int 2)))) (mCall M_frame 1 (mCons (mU gTuple (mVar 6)) mNil)) (mCall M_frame 1 (mCons (mU gTuple (mVar 6)) mNil))) (mCons (mU gTuple (mVar 7)) mNil)))))
  (sSeq (sDrop (mApp (mVar 5) (mTup (mCons (mVar 6) (mCons (mVar 7) mNil)))))
  sNil))))
noncomputable def B_law : Mo Fl :=
  (sSeq (sSet 1 (mCall M_law_deal 2 (mCons (mVar 0) (mCons (mC (.int 74)) mNil))))
  (sSeq (sPar true true 4 5 (mLst mNil) (mLst mNil))
  (sSeq (sFor (putN 2) (mRng ((mCons (mCall M_law_of 2 (mCons (mVar 1) (mCons (mLst (mCons (mC (.int 1)) (mCons (mC (.int 2)) (mCons (mC (.int 4)) (mCons (mC (.int 7)) mNil))))) mNil))) mNil).bind fun ds => mGuard (ds.length = 1) ds)) F_law2)
  (sSeq (sFix 5)
  (sSeq (sSet 3 (mCall M_law_joined 1 (mCons (mComp (putP 6 7) [6, 7] (mIt (mVar 5)) (Mo.pure true) (mVar 7)) mNil)))
  (sSeq (sDrop (mApp (mVar 4) (mTup (mCons (mCall M_frames 1 (mCons (mU gTuple (mVar 3)) mNil)) (mCons (mTup (mCons (mU gTuple (mComp (putP 6 7) [6, 7] (mIt (mVar 5)) (Mo.pure true) (mU gTuple (mVar 6)))) (mCons (mU gLen (mVar 3)) mNil))) mNil)))))
  (sSeq (sFor (putN 2) (mRng ((mCons (mC (.int 3)) mNil).bind fun ds => mGuard (ds.length = 1) ds)) F_law1)
  (sSeq (sIf (mTest (mBin gEq (mCall M_law_any 2 (mCons (mVar 1) (mCons (mC (.int 6)) mNil))) (mC (.int 0))))
  (sSeq (sPar false false 8 16 (mCall M_law_of 2 (mCons (mVar 1) (mCons (mLst (mCons (mC (.int 16384)) (mCons (mC (.int 16383)) (mCons (mC (.int 20000)) mNil)))) mNil))) (mCall M_law_octet 1 (mCons (mVar 1) mNil)))
  (sSeq (sSet 15 (mBin gMod (mU gInt (mBin gMul (mVar 16) (mBin gDiv (mBin gMul (mVar 8) (mBin gAdd (mVar 8) (mC (.int 1)))) (mC (.int 2))))) (mC (.int 65521))))
  (sSeq (sSet 7 (mBin gAdd (mBin gAdd (mCall M_law_number_octets 1 (mCons (mVar 8) mNil)) (mBin gMul (mLst (mCons (mVar 16) mNil)) (mVar 8))) (mLst (mCons (mBin gMod (mU gInt (mVar 15)) (mC (.int 256))) (mCons (mBin gDiv (mVar 15) (mC (.int 256))) mNil)))))
  (sSeq (sDrop (mApp (mVar 4) (mTup (mCons (mCall M_frame 1 (mCons (mBin gMul (mTup (mCons (mVar 16) mNil)) (mVar 8)) mNil)) (mCons (mU gTuple (mVar 7)) mNil)))))
  (sSeq (sDrop (mApp (mVar 4) (mTup (mCons (mCall M_frames 1 (mCons (mU gTuple (mBin gAdd (mVar 7) (mLst (mCons (mC (.int 0)) (mCons (mC (.int 0)) mNil))))) mNil)) (mCons (mTup (mCons (mTup (mCons (mBin gMul (mTup (mCons (mVar 16) mNil)) (mVar 8)) mNil)) (mCons (mU gLen (mVar 7)) mNil))) mNil)))))
  sNil)))))
  sNil)
  (sSeq (sDrop (mApp (mVar 4) (mTup (mCons (mCall M_frames 1 (mCons (mTup mNil) mNil)) (mCons (mTup (mCons (mTup mNil) (mCons (mC (.int 0)) mNil))) mNil)))))
  (sSeq (sFix 4)
  (sSeq (sRet (mCall M_law_all 1 (mCons (mVar 4) mNil)))
  sNil)))))))))))
noncomputable def M_law : FM := mFun 18 B_law
end K74

set_option Elab.async false
set_option linter.all false
set_option maxRecDepth 100000
set_option maxHeartbeats 4000000
namespace K74
open PySem PySem.Spec L2 Mir
abbrev iL (xs : List Int) : List Dv := xs.map Dv.int
theorem iL_len (xs : List Int) : (iL xs).length = xs.length := List.length_map ..
theorem iL_app (xs ys : List Int) : iL (xs ++ ys) = iL xs ++ iL ys := List.map_append ..
def Oc (xs : List Int) : Prop := ∀ x ∈ xs, 0 ≤ x ∧ x < 256
theorem lim_is : lim = 16777216 := rfl
/-! ### numbers as octets -/
def encN (n : Nat) : List Int := if h : n < 128 then [(n : Int)] else (128 + ((n % 128 : Nat) : Int)) :: encN (n / 128)
termination_by n
decreasing_by omega
theorem oct_loop (h : List Cell) (a : Option Sl) : ∀ (k n : Nat) (acc : List Int) (P : Fl → Mem → Prop), n ≤ k → acc.length + n < 1000000 → (∀ (l : Nat) (bs : List Int), acc ++ encN n = bs ++ [(l : Int)] → bs.length ≤ acc.length + n → P .nx ⟨[a, some (.own (iL bs)), some (.val (.int l))], h⟩) →
    R (sLoop C_octets_of_number1 L_octets_of_number1) ⟨[a, some (.own (iL acc)), some (.val (.int n))], h⟩ P
  | k, n, acc, P, hk, hl, hp => by
    refine r_loopg fun lp hlp => ?_
    unfold C_octets_of_number1 L_octets_of_number1
    simp only [r_bind, r_pure, r_c, r_var, r_bin, r_u, r_test, r_frz, r_nil, r_cons, r_guard, r_tup, r_lst, r_nopart, r_part, r_sl, r_and, r_or, r_not, r_mite, r_andV, r_notV, r_pop, r_app, r_shr', r_call, rf_fun, r_snil, then_nx, then_rt, r_seq, r_drop, r_set, r_own', r_fix', r_to, r_ret, r_if, r_for, r_for0, r_sub, r_par3, r_par, r_frzT, r_frzF, r_it, r_enum, r_rng, r_comp, op_some, op_none, op_ite, op_map, pk_non, pk_bl, pk_int, pk_str, pk_tup, pk_lst, pk_tmp, pk_scr, pk_own, pkO_some, pk_ref, pkR_some, rd_val, rd_own, fz_non, fz_bl, fz_int, fz_str, fz_tup, fz_lst, fz_tmp, fz_ref, fz_scr, gl_own, gO_some, gl_ref, gR_some, sl_own, sl_ref, ab_bl, ai_int, it_tup, it_lst, it_tmp, it_scr, put_n, put_p, put_t, put_int, put_lst, put_tup, own_tmp, fix_own, shr_tmp, ret_nx, ret_rt, add_ii, add_ll, add_tt, sub_ii, mul_ii, mul_li, mul_ti, div_ii, mod_ii, pow_ii, ints_ii, eq_ii, ne_ii, is_non, is_int, is_tup, is_intB, not_non, not_tup, ix_l, ix_t, sl_l, sl_t, sl_s, rev_l, neg_i, len_l, len_t, int_i, abs_i, tup_l, tup_t, lst_l, lst_t, sum_l, toInts_int, zip_tt, rng_1, rng_2, rng_3, isi_int_int, isi_str_int, isi_bool_int, isi_tup_int, isi_tup_tup, isiC_int, isiC_tup, isiA_int, List.getElem?_cons_zero, List.getElem?_cons_succ, List.set_cons_zero, List.set_cons_succ, List.map_cons, List.map_nil, List.replicate_succ, List.replicate_zero, List.cons_append, List.nil_append, List.length_cons, List.length_nil, Nat.reduceAdd, Nat.reduceSub, Nat.reduceEqDiff, decide_eq_true_eq, Bool.not_eq_true', Bool.not_false, Bool.not_true, decide_eq_false_iff_not, true_and, and_true, true_or, or_true, reduceIte, Bool.false_eq_true, Int.reduceLT, Int.reduceLE, Nat.reduceLT, Nat.reduceLeDiff, Int.reduceEq, Int.reduceNe]
    by_cases hn : n < 128
    · rw [if_neg (by omega)]
      exact hp n acc (by unfold encN; rw [dif_pos hn]) (by omega)
    · rw [if_pos (by omega)]
      refine ⟨by rw [iL_len, lim_is]; omega, ?_⟩
      subst hlp
      have e1 : (n : Int) / 128 = ((n / 128 : Nat) : Int) := by omega
      have e2 : iL acc ++ [Dv.int (128 + (n : Int) % 128)] = iL (acc ++ [128 + ((n % 128 : Nat) : Int)]) := by
        rw [iL_app, show (n : Int) % 128 = ((n % 128 : Nat) : Int) by omega] <;> rfl
      rw [e1, e2]
      match k, hk with
      | 0, hk => omega
      | k + 1, hk =>
        refine oct_loop h a k (n / 128) _ P (by omega) (by rw [List.length_append, List.length_singleton]; omega) fun l bs h1 h2 => hp l bs ?_ ?_
        · rw [← h1]
          conv => lhs; unfold encN
          rw [dif_neg hn, List.append_assoc]
          rfl
        · rw [List.length_append, List.length_singleton] at h2
          omega
theorem octs_ok {h : List Cell} {P : Dv → List Cell → Prop} {n : Nat} (hn : n < 900000) (hp : P (.tup (iL (encN n))) h) : RF (M_octets_of_number [.int n] h) P := by
  unfold M_octets_of_number B_octets_of_number
  simp only [r_bind, r_pure, r_c, r_var, r_bin, r_u, r_test, r_frz, r_nil, r_cons, r_guard, r_tup, r_lst, r_nopart, r_part, r_sl, r_and, r_or, r_not, r_mite, r_andV, r_notV, r_pop, r_app, r_shr', r_call, rf_fun, r_snil, then_nx, then_rt, r_seq, r_drop, r_set, r_own', r_fix', r_to, r_ret, r_if, r_for, r_for0, r_sub, r_par3, r_par, r_frzT, r_frzF, r_it, r_enum, r_rng, r_comp, op_some, op_none, op_ite, op_map, pk_non, pk_bl, pk_int, pk_str, pk_tup, pk_lst, pk_tmp, pk_scr, pk_own, pkO_some, pk_ref, pkR_some, rd_val, rd_own, fz_non, fz_bl, fz_int, fz_str, fz_tup, fz_lst, fz_tmp, fz_ref, fz_scr, gl_own, gO_some, gl_ref, gR_some, sl_own, sl_ref, ab_bl, ai_int, it_tup, it_lst, it_tmp, it_scr, put_n, put_p, put_t, put_int, put_lst, put_tup, own_tmp, fix_own, shr_tmp, ret_nx, ret_rt, add_ii, add_ll, add_tt, sub_ii, mul_ii, mul_li, mul_ti, div_ii, mod_ii, pow_ii, ints_ii, eq_ii, ne_ii, is_non, is_int, is_tup, is_intB, not_non, not_tup, ix_l, ix_t, sl_l, sl_t, sl_s, rev_l, neg_i, len_l, len_t, int_i, abs_i, tup_l, tup_t, lst_l, lst_t, sum_l, toInts_int, zip_tt, rng_1, rng_2, rng_3, isi_int_int, isi_str_int, isi_bool_int, isi_tup_int, isi_tup_tup, isiC_int, isiC_tup, isiA_int, List.getElem?_cons_zero, List.getElem?_cons_succ, List.set_cons_zero, List.set_cons_succ, List.map_cons, List.map_nil, List.replicate_succ, List.replicate_zero, List.cons_append, List.nil_append, List.length_cons, List.length_nil, Nat.reduceAdd, Nat.reduceSub, Nat.reduceEqDiff, decide_eq_true_eq, Bool.not_eq_true', Bool.not_false, Bool.not_true, decide_eq_false_iff_not, true_and, and_true, true_or, or_true, reduceIte, Bool.false_eq_true, Int.reduceLT, Int.reduceLE, Nat.reduceLT, Nat.reduceLeDiff, Int.reduceEq, Int.reduceNe]
  refine ⟨Nat.zero_le _, ?_⟩
  refine oct_loop h _ n n [] _ (Nat.le_refl _) (by simp; omega) fun l bs h1 h2 => ?_
  simp only [r_bind, r_pure, r_c, r_var, r_bin, r_u, r_test, r_frz, r_nil, r_cons, r_guard, r_tup, r_lst, r_nopart, r_part, r_sl, r_and, r_or, r_not, r_mite, r_andV, r_notV, r_pop, r_app, r_shr', r_call, rf_fun, r_snil, then_nx, then_rt, r_seq, r_drop, r_set, r_own', r_fix', r_to, r_ret, r_if, r_for, r_for0, r_sub, r_par3, r_par, r_frzT, r_frzF, r_it, r_enum, r_rng, r_comp, op_some, op_none, op_ite, op_map, pk_non, pk_bl, pk_int, pk_str, pk_tup, pk_lst, pk_tmp, pk_scr, pk_own, pkO_some, pk_ref, pkR_some, rd_val, rd_own, fz_non, fz_bl, fz_int, fz_str, fz_tup, fz_lst, fz_tmp, fz_ref, fz_scr, gl_own, gO_some, gl_ref, gR_some, sl_own, sl_ref, ab_bl, ai_int, it_tup, it_lst, it_tmp, it_scr, put_n, put_p, put_t, put_int, put_lst, put_tup, own_tmp, fix_own, shr_tmp, ret_nx, ret_rt, add_ii, add_ll, add_tt, sub_ii, mul_ii, mul_li, mul_ti, div_ii, mod_ii, pow_ii, ints_ii, eq_ii, ne_ii, is_non, is_int, is_tup, is_intB, not_non, not_tup, ix_l, ix_t, sl_l, sl_t, sl_s, rev_l, neg_i, len_l, len_t, int_i, abs_i, tup_l, tup_t, lst_l, lst_t, sum_l, toInts_int, zip_tt, rng_1, rng_2, rng_3, isi_int_int, isi_str_int, isi_bool_int, isi_tup_int, isi_tup_tup, isiC_int, isiC_tup, isiA_int, List.getElem?_cons_zero, List.getElem?_cons_succ, List.set_cons_zero, List.set_cons_succ, List.map_cons, List.map_nil, List.replicate_succ, List.replicate_zero, List.cons_append, List.nil_append, List.length_cons, List.length_nil, Nat.reduceAdd, Nat.reduceSub, Nat.reduceEqDiff, decide_eq_true_eq, Bool.not_eq_true', Bool.not_false, Bool.not_true, decide_eq_false_iff_not, true_and, and_true, true_or, or_true, reduceIte, Bool.false_eq_true, Int.reduceLT, Int.reduceLE, Nat.reduceLT, Nat.reduceLeDiff, Int.reduceEq, Int.reduceNe]
  simp only [List.length_nil] at h2
  refine ⟨by rw [iL_len, lim_is]; omega, ?_⟩
  have e : iL bs ++ [Dv.int (l : Int)] = iL (encN n) := by
    rw [show encN n = bs ++ [(l : Int)] from h1, iL_app] <;> rfl
  rw [e]
  exact hp
theorem numo_ok {h : List Cell} {P : Dv → List Cell → Prop} {n : Nat} (hn : n < 900000) (hp : P (.tup (iL (encN n))) h) : RF (M_number_octets [.int n] h) P := by
  unfold M_number_octets B_number_octets
  simp only [r_bind, r_pure, r_c, r_var, r_bin, r_u, r_test, r_frz, r_nil, r_cons, r_guard, r_tup, r_lst, r_nopart, r_part, r_sl, r_and, r_or, r_not, r_mite, r_andV, r_notV, r_pop, r_app, r_shr', r_call, rf_fun, r_snil, then_nx, then_rt, r_seq, r_drop, r_set, r_own', r_fix', r_to, r_ret, r_if, r_for, r_for0, r_sub, r_par3, r_par, r_frzT, r_frzF, r_it, r_enum, r_rng, r_comp, op_some, op_none, op_ite, op_map, pk_non, pk_bl, pk_int, pk_str, pk_tup, pk_lst, pk_tmp, pk_scr, pk_own, pkO_some, pk_ref, pkR_some, rd_val, rd_own, fz_non, fz_bl, fz_int, fz_str, fz_tup, fz_lst, fz_tmp, fz_ref, fz_scr, gl_own, gO_some, gl_ref, gR_some, sl_own, sl_ref, ab_bl, ai_int, it_tup, it_lst, it_tmp, it_scr, put_n, put_p, put_t, put_int, put_lst, put_tup, own_tmp, fix_own, shr_tmp, ret_nx, ret_rt, add_ii, add_ll, add_tt, sub_ii, mul_ii, mul_li, mul_ti, div_ii, mod_ii, pow_ii, ints_ii, eq_ii, ne_ii, is_non, is_int, is_tup, is_intB, not_non, not_tup, ix_l, ix_t, sl_l, sl_t, sl_s, rev_l, neg_i, len_l, len_t, int_i, abs_i, tup_l, tup_t, lst_l, lst_t, sum_l, toInts_int, zip_tt, rng_1, rng_2, rng_3, isi_int_int, isi_str_int, isi_bool_int, isi_tup_int, isi_tup_tup, isiC_int, isiC_tup, isiA_int, List.getElem?_cons_zero, List.getElem?_cons_succ, List.set_cons_zero, List.set_cons_succ, List.map_cons, List.map_nil, List.replicate_succ, List.replicate_zero, List.cons_append, List.nil_append, List.length_cons, List.length_nil, Nat.reduceAdd, Nat.reduceSub, Nat.reduceEqDiff, decide_eq_true_eq, Bool.not_eq_true', Bool.not_false, Bool.not_true, decide_eq_false_iff_not, true_and, and_true, true_or, or_true, reduceIte, Bool.false_eq_true, Int.reduceLT, Int.reduceLE, Nat.reduceLT, Nat.reduceLeDiff, Int.reduceEq, Int.reduceNe]
  refine octs_ok hn ?_
  simp only [r_bind, r_pure, r_c, r_var, r_bin, r_u, r_test, r_frz, r_nil, r_cons, r_guard, r_tup, r_lst, r_nopart, r_part, r_sl, r_and, r_or, r_not, r_mite, r_andV, r_notV, r_pop, r_app, r_shr', r_call, rf_fun, r_snil, then_nx, then_rt, r_seq, r_drop, r_set, r_own', r_fix', r_to, r_ret, r_if, r_for, r_for0, r_sub, r_par3, r_par, r_frzT, r_frzF, r_it, r_enum, r_rng, r_comp, op_some, op_none, op_ite, op_map, pk_non, pk_bl, pk_int, pk_str, pk_tup, pk_lst, pk_tmp, pk_scr, pk_own, pkO_some, pk_ref, pkR_some, rd_val, rd_own, fz_non, fz_bl, fz_int, fz_str, fz_tup, fz_lst, fz_tmp, fz_ref, fz_scr, gl_own, gO_some, gl_ref, gR_some, sl_own, sl_ref, ab_bl, ai_int, it_tup, it_lst, it_tmp, it_scr, put_n, put_p, put_t, put_int, put_lst, put_tup, own_tmp, fix_own, shr_tmp, ret_nx, ret_rt, add_ii, add_ll, add_tt, sub_ii, mul_ii, mul_li, mul_ti, div_ii, mod_ii, pow_ii, ints_ii, eq_ii, ne_ii, is_non, is_int, is_tup, is_intB, not_non, not_tup, ix_l, ix_t, sl_l, sl_t, sl_s, rev_l, neg_i, len_l, len_t, int_i, abs_i, tup_l, tup_t, lst_l, lst_t, sum_l, toInts_int, zip_tt, rng_1, rng_2, rng_3, isi_int_int, isi_str_int, isi_bool_int, isi_tup_int, isi_tup_tup, isiC_int, isiC_tup, isiA_int, List.getElem?_cons_zero, List.getElem?_cons_succ, List.set_cons_zero, List.set_cons_succ, List.map_cons, List.map_nil, List.replicate_succ, List.replicate_zero, List.cons_append, List.nil_append, List.length_cons, List.length_nil, Nat.reduceAdd, Nat.reduceSub, Nat.reduceEqDiff, decide_eq_true_eq, Bool.not_eq_true', Bool.not_false, Bool.not_true, decide_eq_false_iff_not, true_and, and_true, true_or, or_true, reduceIte, Bool.false_eq_true, Int.reduceLT, Int.reduceLE, Nat.reduceLT, Nat.reduceLeDiff, Int.reduceEq, Int.reduceNe]
  exact hp
theorem loct_loop (h : List Cell) (a : Option Sl) : ∀ (k n : Nat) (acc : List Int) (P : Fl → Mem → Prop), n ≤ k → acc.length + n < 1000000 → (∀ (l : Nat) (bs : List Int), acc ++ encN n = bs ++ [(l : Int)] → bs.length ≤ acc.length + n → P .nx ⟨[a, some (.own (iL bs)), some (.val (.int l))], h⟩) →
    R (sLoop C_law_number_octets1 L_law_number_octets1) ⟨[a, some (.own (iL acc)), some (.val (.int n))], h⟩ P
  | k, n, acc, P, hk, hl, hp => by
    refine r_loopg fun lp hlp => ?_
    unfold C_law_number_octets1 L_law_number_octets1
    simp only [r_bind, r_pure, r_c, r_var, r_bin, r_u, r_test, r_frz, r_nil, r_cons, r_guard, r_tup, r_lst, r_nopart, r_part, r_sl, r_and, r_or, r_not, r_mite, r_andV, r_notV, r_pop, r_app, r_shr', r_call, rf_fun, r_snil, then_nx, then_rt, r_seq, r_drop, r_set, r_own', r_fix', r_to, r_ret, r_if, r_for, r_for0, r_sub, r_par3, r_par, r_frzT, r_frzF, r_it, r_enum, r_rng, r_comp, op_some, op_none, op_ite, op_map, pk_non, pk_bl, pk_int, pk_str, pk_tup, pk_lst, pk_tmp, pk_scr, pk_own, pkO_some, pk_ref, pkR_some, rd_val, rd_own, fz_non, fz_bl, fz_int, fz_str, fz_tup, fz_lst, fz_tmp, fz_ref, fz_scr, gl_own, gO_some, gl_ref, gR_some, sl_own, sl_ref, ab_bl, ai_int, it_tup, it_lst, it_tmp, it_scr, put_n, put_p, put_t, put_int, put_lst, put_tup, own_tmp, fix_own, shr_tmp, ret_nx, ret_rt, add_ii, add_ll, add_tt, sub_ii, mul_ii, mul_li, mul_ti, div_ii, mod_ii, pow_ii, ints_ii, eq_ii, ne_ii, is_non, is_int, is_tup, is_intB, not_non, not_tup, ix_l, ix_t, sl_l, sl_t, sl_s, rev_l, neg_i, len_l, len_t, int_i, abs_i, tup_l, tup_t, lst_l, lst_t, sum_l, toInts_int, zip_tt, rng_1, rng_2, rng_3, isi_int_int, isi_str_int, isi_bool_int, isi_tup_int, isi_tup_tup, isiC_int, isiC_tup, isiA_int, List.getElem?_cons_zero, List.getElem?_cons_succ, List.set_cons_zero, List.set_cons_succ, List.map_cons, List.map_nil, List.replicate_succ, List.replicate_zero, List.cons_append, List.nil_append, List.length_cons, List.length_nil, Nat.reduceAdd, Nat.reduceSub, Nat.reduceEqDiff, decide_eq_true_eq, Bool.not_eq_true', Bool.not_false, Bool.not_true, decide_eq_false_iff_not, true_and, and_true, true_or, or_true, reduceIte, Bool.false_eq_true, Int.reduceLT, Int.reduceLE, Nat.reduceLT, Nat.reduceLeDiff, Int.reduceEq, Int.reduceNe]
    by_cases hn : n < 128
    · rw [if_neg (by omega)]
      exact hp n acc (by unfold encN; rw [dif_pos hn]) (by omega)
    · rw [if_pos (by omega)]
      refine ⟨by rw [iL_len, lim_is]; omega, ?_⟩
      subst hlp
      have e1 : (n : Int) / 128 = ((n / 128 : Nat) : Int) := by omega
      have e2 : iL acc ++ [Dv.int ((n : Int) % 128 + 128)] = iL (acc ++ [128 + ((n % 128 : Nat) : Int)]) := by
        rw [iL_app, show (n : Int) % 128 + 128 = 128 + ((n % 128 : Nat) : Int) by omega] <;> rfl
      rw [e1, e2]
      match k, hk with
      | 0, hk => omega
      | k + 1, hk =>
        refine loct_loop h a k (n / 128) _ P (by omega) (by rw [List.length_append, List.length_singleton]; omega) fun l bs h1 h2 => hp l bs ?_ ?_
        · rw [← h1]
          conv => lhs; unfold encN
          rw [dif_neg hn, List.append_assoc]
          rfl
        · rw [List.length_append, List.length_singleton] at h2
          omega
theorem locts_ok {h : List Cell} {P : Dv → List Cell → Prop} {n : Nat} (hn : n < 900000) (hp : P (.lst (iL (encN n))) h) : RF (M_law_number_octets [.int n] h) P := by
  unfold M_law_number_octets B_law_number_octets
  simp only [r_bind, r_pure, r_c, r_var, r_bin, r_u, r_test, r_frz, r_nil, r_cons, r_guard, r_tup, r_lst, r_nopart, r_part, r_sl, r_and, r_or, r_not, r_mite, r_andV, r_notV, r_pop, r_app, r_shr', r_call, rf_fun, r_snil, then_nx, then_rt, r_seq, r_drop, r_set, r_own', r_fix', r_to, r_ret, r_if, r_for, r_for0, r_sub, r_par3, r_par, r_frzT, r_frzF, r_it, r_enum, r_rng, r_comp, op_some, op_none, op_ite, op_map, pk_non, pk_bl, pk_int, pk_str, pk_tup, pk_lst, pk_tmp, pk_scr, pk_own, pkO_some, pk_ref, pkR_some, rd_val, rd_own, fz_non, fz_bl, fz_int, fz_str, fz_tup, fz_lst, fz_tmp, fz_ref, fz_scr, gl_own, gO_some, gl_ref, gR_some, sl_own, sl_ref, ab_bl, ai_int, it_tup, it_lst, it_tmp, it_scr, put_n, put_p, put_t, put_int, put_lst, put_tup, own_tmp, fix_own, shr_tmp, ret_nx, ret_rt, add_ii, add_ll, add_tt, sub_ii, mul_ii, mul_li, mul_ti, div_ii, mod_ii, pow_ii, ints_ii, eq_ii, ne_ii, is_non, is_int, is_tup, is_intB, not_non, not_tup, ix_l, ix_t, sl_l, sl_t, sl_s, rev_l, neg_i, len_l, len_t, int_i, abs_i, tup_l, tup_t, lst_l, lst_t, sum_l, toInts_int, zip_tt, rng_1, rng_2, rng_3, isi_int_int, isi_str_int, isi_bool_int, isi_tup_int, isi_tup_tup, isiC_int, isiC_tup, isiA_int, List.getElem?_cons_zero, List.getElem?_cons_succ, List.set_cons_zero, List.set_cons_succ, List.map_cons, List.map_nil, List.replicate_succ, List.replicate_zero, List.cons_append, List.nil_append, List.length_cons, List.length_nil, Nat.reduceAdd, Nat.reduceSub, Nat.reduceEqDiff, decide_eq_true_eq, Bool.not_eq_true', Bool.not_false, Bool.not_true, decide_eq_false_iff_not, true_and, and_true, true_or, or_true, reduceIte, Bool.false_eq_true, Int.reduceLT, Int.reduceLE, Nat.reduceLT, Nat.reduceLeDiff, Int.reduceEq, Int.reduceNe]
  refine ⟨Nat.zero_le _, ?_⟩
  refine loct_loop h _ n n [] _ (Nat.le_refl _) (by simp; omega) fun l bs h1 h2 => ?_
  simp only [r_bind, r_pure, r_c, r_var, r_bin, r_u, r_test, r_frz, r_nil, r_cons, r_guard, r_tup, r_lst, r_nopart, r_part, r_sl, r_and, r_or, r_not, r_mite, r_andV, r_notV, r_pop, r_app, r_shr', r_call, rf_fun, r_snil, then_nx, then_rt, r_seq, r_drop, r_set, r_own', r_fix', r_to, r_ret, r_if, r_for, r_for0, r_sub, r_par3, r_par, r_frzT, r_frzF, r_it, r_enum, r_rng, r_comp, op_some, op_none, op_ite, op_map, pk_non, pk_bl, pk_int, pk_str, pk_tup, pk_lst, pk_tmp, pk_scr, pk_own, pkO_some, pk_ref, pkR_some, rd_val, rd_own, fz_non, fz_bl, fz_int, fz_str, fz_tup, fz_lst, fz_tmp, fz_ref, fz_scr, gl_own, gO_some, gl_ref, gR_some, sl_own, sl_ref, ab_bl, ai_int, it_tup, it_lst, it_tmp, it_scr, put_n, put_p, put_t, put_int, put_lst, put_tup, own_tmp, fix_own, shr_tmp, ret_nx, ret_rt, add_ii, add_ll, add_tt, sub_ii, mul_ii, mul_li, mul_ti, div_ii, mod_ii, pow_ii, ints_ii, eq_ii, ne_ii, is_non, is_int, is_tup, is_intB, not_non, not_tup, ix_l, ix_t, sl_l, sl_t, sl_s, rev_l, neg_i, len_l, len_t, int_i, abs_i, tup_l, tup_t, lst_l, lst_t, sum_l, toInts_int, zip_tt, rng_1, rng_2, rng_3, isi_int_int, isi_str_int, isi_bool_int, isi_tup_int, isi_tup_tup, isiC_int, isiC_tup, isiA_int, List.getElem?_cons_zero, List.getElem?_cons_succ, List.set_cons_zero, List.set_cons_succ, List.map_cons, List.map_nil, List.replicate_succ, List.replicate_zero, List.cons_append, List.nil_append, List.length_cons, List.length_nil, Nat.reduceAdd, Nat.reduceSub, Nat.reduceEqDiff, decide_eq_true_eq, Bool.not_eq_true', Bool.not_false, Bool.not_true, decide_eq_false_iff_not, true_and, and_true, true_or, or_true, reduceIte, Bool.false_eq_true, Int.reduceLT, Int.reduceLE, Nat.reduceLT, Nat.reduceLeDiff, Int.reduceEq, Int.reduceNe]
  simp only [List.length_nil] at h2
  refine ⟨by rw [lim_is]; omega, by rw [iL_len, lim_is]; omega, ?_⟩
  have e : iL bs ++ [Dv.int (l : Int)] = iL (encN n) := by
    rw [show encN n = bs ++ [(l : Int)] from h1, iL_app] <;> rfl
  rw [e]
  exact hp
/-! ### sums -/
def W : Nat → List Int → Int
  | _, [] => 0
  | k, x :: r => ((k : Int) + 1) * x + W (k + 1) r
def Sm (xs : List Int) : Int := W 0 xs % 65521
theorem oc_cons {x : Int} {r : List Int} (h : Oc (x :: r)) : (0 ≤ x ∧ x < 256) ∧ Oc r := ⟨h x List.mem_cons_self, fun y hy => h y (List.mem_cons_of_mem _ hy)⟩
theorem sum_loop (h : List Cell) (a b c : Option Sl) : ∀ (xs : List Int) (k : Nat) (t : Int) (b c : Option Sl) (P : Fl → Mem → Prop), Oc xs → (∀ b c, P .nx ⟨[a, some (.val (.int (t + W k xs))), b, c], h⟩) →
    R (forS (putP 2 3) F_sum_of_octets1 (enumD k (iL xs))) ⟨[a, some (.val (.int t)), b, c], h⟩ P
  | [], k, t, b, c, P, _, hp => by
    have := hp b c
    simp only [W, Int.add_zero] at this
    exact this
  | x :: r, k, t, b, c, P, ho, hp => by
    obtain ⟨hx, hr⟩ := oc_cons ho
    show R (forS (putP 2 3) F_sum_of_octets1 (.tup [.int k, .int x] :: enumD (k + 1) (iL r))) _ P
    rw [r_for1]
    conv in F_sum_of_octets1 => unfold F_sum_of_octets1
    simp only [r_bind, r_pure, r_c, r_var, r_bin, r_u, r_test, r_frz, r_nil, r_cons, r_guard, r_tup, r_lst, r_nopart, r_part, r_sl, r_and, r_or, r_not, r_mite, r_andV, r_notV, r_pop, r_app, r_shr', r_call, rf_fun, r_snil, then_nx, then_rt, r_seq, r_drop, r_set, r_own', r_fix', r_to, r_ret, r_if, r_for, r_for0, r_sub, r_par3, r_par, r_frzT, r_frzF, r_it, r_enum, r_rng, r_comp, op_some, op_none, op_ite, op_map, pk_non, pk_bl, pk_int, pk_str, pk_tup, pk_lst, pk_tmp, pk_scr, pk_own, pkO_some, pk_ref, pkR_some, rd_val, rd_own, fz_non, fz_bl, fz_int, fz_str, fz_tup, fz_lst, fz_tmp, fz_ref, fz_scr, gl_own, gO_some, gl_ref, gR_some, sl_own, sl_ref, ab_bl, ai_int, it_tup, it_lst, it_tmp, it_scr, put_n, put_p, put_t, put_int, put_lst, put_tup, own_tmp, fix_own, shr_tmp, ret_nx, ret_rt, add_ii, add_ll, add_tt, sub_ii, mul_ii, mul_li, mul_ti, div_ii, mod_ii, pow_ii, ints_ii, eq_ii, ne_ii, is_non, is_int, is_tup, is_intB, not_non, not_tup, ix_l, ix_t, sl_l, sl_t, sl_s, rev_l, neg_i, len_l, len_t, int_i, abs_i, tup_l, tup_t, lst_l, lst_t, sum_l, toInts_int, zip_tt, rng_1, rng_2, rng_3, isi_int_int, isi_str_int, isi_bool_int, isi_tup_int, isi_tup_tup, isiC_int, isiC_tup, isiA_int, List.getElem?_cons_zero, List.getElem?_cons_succ, List.set_cons_zero, List.set_cons_succ, List.map_cons, List.map_nil, List.replicate_succ, List.replicate_zero, List.cons_append, List.nil_append, List.length_cons, List.length_nil, Nat.reduceAdd, Nat.reduceSub, Nat.reduceEqDiff, decide_eq_true_eq, Bool.not_eq_true', Bool.not_false, Bool.not_true, decide_eq_false_iff_not, true_and, and_true, true_or, or_true, reduceIte, Bool.false_eq_true, Int.reduceLT, Int.reduceLE, Nat.reduceLT, Nat.reduceLeDiff, Int.reduceEq, Int.reduceNe]
    rw [r_aug (a := t) rfl]
    simp only [r_bind, r_pure, r_c, r_var, r_bin, r_u, r_test, r_frz, r_nil, r_cons, r_guard, r_tup, r_lst, r_nopart, r_part, r_sl, r_and, r_or, r_not, r_mite, r_andV, r_notV, r_pop, r_app, r_shr', r_call, rf_fun, r_snil, then_nx, then_rt, r_seq, r_drop, r_set, r_own', r_fix', r_to, r_ret, r_if, r_for, r_for0, r_sub, r_par3, r_par, r_frzT, r_frzF, r_it, r_enum, r_rng, r_comp, op_some, op_none, op_ite, op_map, pk_non, pk_bl, pk_int, pk_str, pk_tup, pk_lst, pk_tmp, pk_scr, pk_own, pkO_some, pk_ref, pkR_some, rd_val, rd_own, fz_non, fz_bl, fz_int, fz_str, fz_tup, fz_lst, fz_tmp, fz_ref, fz_scr, gl_own, gO_some, gl_ref, gR_some, sl_own, sl_ref, ab_bl, ai_int, it_tup, it_lst, it_tmp, it_scr, put_n, put_p, put_t, put_int, put_lst, put_tup, own_tmp, fix_own, shr_tmp, ret_nx, ret_rt, add_ii, add_ll, add_tt, sub_ii, mul_ii, mul_li, mul_ti, div_ii, mod_ii, pow_ii, ints_ii, eq_ii, ne_ii, is_non, is_int, is_tup, is_intB, not_non, not_tup, ix_l, ix_t, sl_l, sl_t, sl_s, rev_l, neg_i, len_l, len_t, int_i, abs_i, tup_l, tup_t, lst_l, lst_t, sum_l, toInts_int, zip_tt, rng_1, rng_2, rng_3, isi_int_int, isi_str_int, isi_bool_int, isi_tup_int, isi_tup_tup, isiC_int, isiC_tup, isiA_int, List.getElem?_cons_zero, List.getElem?_cons_succ, List.set_cons_zero, List.set_cons_succ, List.map_cons, List.map_nil, List.replicate_succ, List.replicate_zero, List.cons_append, List.nil_append, List.length_cons, List.length_nil, Nat.reduceAdd, Nat.reduceSub, Nat.reduceEqDiff, decide_eq_true_eq, Bool.not_eq_true', Bool.not_false, Bool.not_true, decide_eq_false_iff_not, true_and, and_true, true_or, or_true, reduceIte, Bool.false_eq_true, Int.reduceLT, Int.reduceLE, Nat.reduceLT, Nat.reduceLeDiff, Int.reduceEq, Int.reduceNe]
    rw [mul_r (by omega)]
    simp only [r_bind, r_pure, r_c, r_var, r_bin, r_u, r_test, r_frz, r_nil, r_cons, r_guard, r_tup, r_lst, r_nopart, r_part, r_sl, r_and, r_or, r_not, r_mite, r_andV, r_notV, r_pop, r_app, r_shr', r_call, rf_fun, r_snil, then_nx, then_rt, r_seq, r_drop, r_set, r_own', r_fix', r_to, r_ret, r_if, r_for, r_for0, r_sub, r_par3, r_par, r_frzT, r_frzF, r_it, r_enum, r_rng, r_comp, op_some, op_none, op_ite, op_map, pk_non, pk_bl, pk_int, pk_str, pk_tup, pk_lst, pk_tmp, pk_scr, pk_own, pkO_some, pk_ref, pkR_some, rd_val, rd_own, fz_non, fz_bl, fz_int, fz_str, fz_tup, fz_lst, fz_tmp, fz_ref, fz_scr, gl_own, gO_some, gl_ref, gR_some, sl_own, sl_ref, ab_bl, ai_int, it_tup, it_lst, it_tmp, it_scr, put_n, put_p, put_t, put_int, put_lst, put_tup, own_tmp, fix_own, shr_tmp, ret_nx, ret_rt, add_ii, add_ll, add_tt, sub_ii, mul_ii, mul_li, mul_ti, div_ii, mod_ii, pow_ii, ints_ii, eq_ii, ne_ii, is_non, is_int, is_tup, is_intB, not_non, not_tup, ix_l, ix_t, sl_l, sl_t, sl_s, rev_l, neg_i, len_l, len_t, int_i, abs_i, tup_l, tup_t, lst_l, lst_t, sum_l, toInts_int, zip_tt, rng_1, rng_2, rng_3, isi_int_int, isi_str_int, isi_bool_int, isi_tup_int, isi_tup_tup, isiC_int, isiC_tup, isiA_int, List.getElem?_cons_zero, List.getElem?_cons_succ, List.set_cons_zero, List.set_cons_succ, List.map_cons, List.map_nil, List.replicate_succ, List.replicate_zero, List.cons_append, List.nil_append, List.length_cons, List.length_nil, Nat.reduceAdd, Nat.reduceSub, Nat.reduceEqDiff, decide_eq_true_eq, Bool.not_eq_true', Bool.not_false, Bool.not_true, decide_eq_false_iff_not, true_and, and_true, true_or, or_true, reduceIte, Bool.false_eq_true, Int.reduceLT, Int.reduceLE, Nat.reduceLT, Nat.reduceLeDiff, Int.reduceEq, Int.reduceNe]
    refine sum_loop h a none none r (k + 1) _ _ _ P hr fun b c => ?_
    have := hp b c
    have e : t + W k (x :: r) = t + (↑k + 1) * x + W (k + 1) r := by
      show t + (((k : Int) + 1) * x + W (k + 1) r) = _
      omega
    rw [e] at this
    exact this
theorem sumo_ok {h : List Cell} {P : Dv → List Cell → Prop} {xs : List Int} (ho : Oc xs) (hp : P (.int (Sm xs)) h) : RF (M_sum_of_octets [.tup (iL xs)] h) P := by
  unfold M_sum_of_octets B_sum_of_octets
  simp only [r_bind, r_pure, r_c, r_var, r_bin, r_u, r_test, r_frz, r_nil, r_cons, r_guard, r_tup, r_lst, r_nopart, r_part, r_sl, r_and, r_or, r_not, r_mite, r_andV, r_notV, r_pop, r_app, r_shr', r_call, rf_fun, r_snil, then_nx, then_rt, r_seq, r_drop, r_set, r_own', r_fix', r_to, r_ret, r_if, r_for, r_for0, r_sub, r_par3, r_par, r_frzT, r_frzF, r_it, r_enum, r_rng, r_comp, op_some, op_none, op_ite, op_map, pk_non, pk_bl, pk_int, pk_str, pk_tup, pk_lst, pk_tmp, pk_scr, pk_own, pkO_some, pk_ref, pkR_some, rd_val, rd_own, fz_non, fz_bl, fz_int, fz_str, fz_tup, fz_lst, fz_tmp, fz_ref, fz_scr, gl_own, gO_some, gl_ref, gR_some, sl_own, sl_ref, ab_bl, ai_int, it_tup, it_lst, it_tmp, it_scr, put_n, put_p, put_t, put_int, put_lst, put_tup, own_tmp, fix_own, shr_tmp, ret_nx, ret_rt, add_ii, add_ll, add_tt, sub_ii, mul_ii, mul_li, mul_ti, div_ii, mod_ii, pow_ii, ints_ii, eq_ii, ne_ii, is_non, is_int, is_tup, is_intB, not_non, not_tup, ix_l, ix_t, sl_l, sl_t, sl_s, rev_l, neg_i, len_l, len_t, int_i, abs_i, tup_l, tup_t, lst_l, lst_t, sum_l, toInts_int, zip_tt, rng_1, rng_2, rng_3, isi_int_int, isi_str_int, isi_bool_int, isi_tup_int, isi_tup_tup, isiC_int, isiC_tup, isiA_int, List.getElem?_cons_zero, List.getElem?_cons_succ, List.set_cons_zero, List.set_cons_succ, List.map_cons, List.map_nil, List.replicate_succ, List.replicate_zero, List.cons_append, List.nil_append, List.length_cons, List.length_nil, Nat.reduceAdd, Nat.reduceSub, Nat.reduceEqDiff, decide_eq_true_eq, Bool.not_eq_true', Bool.not_false, Bool.not_true, decide_eq_false_iff_not, true_and, and_true, true_or, or_true, reduceIte, Bool.false_eq_true, Int.reduceLT, Int.reduceLE, Nat.reduceLT, Nat.reduceLeDiff, Int.reduceEq, Int.reduceNe]
  refine sum_loop h _ none none xs 0 0 _ _ _ ho fun b c => ?_
  simp only [r_bind, r_pure, r_c, r_var, r_bin, r_u, r_test, r_frz, r_nil, r_cons, r_guard, r_tup, r_lst, r_nopart, r_part, r_sl, r_and, r_or, r_not, r_mite, r_andV, r_notV, r_pop, r_app, r_shr', r_call, rf_fun, r_snil, then_nx, then_rt, r_seq, r_drop, r_set, r_own', r_fix', r_to, r_ret, r_if, r_for, r_for0, r_sub, r_par3, r_par, r_frzT, r_frzF, r_it, r_enum, r_rng, r_comp, op_some, op_none, op_ite, op_map, pk_non, pk_bl, pk_int, pk_str, pk_tup, pk_lst, pk_tmp, pk_scr, pk_own, pkO_some, pk_ref, pkR_some, rd_val, rd_own, fz_non, fz_bl, fz_int, fz_str, fz_tup, fz_lst, fz_tmp, fz_ref, fz_scr, gl_own, gO_some, gl_ref, gR_some, sl_own, sl_ref, ab_bl, ai_int, it_tup, it_lst, it_tmp, it_scr, put_n, put_p, put_t, put_int, put_lst, put_tup, own_tmp, fix_own, shr_tmp, ret_nx, ret_rt, add_ii, add_ll, add_tt, sub_ii, mul_ii, mul_li, mul_ti, div_ii, mod_ii, pow_ii, ints_ii, eq_ii, ne_ii, is_non, is_int, is_tup, is_intB, not_non, not_tup, ix_l, ix_t, sl_l, sl_t, sl_s, rev_l, neg_i, len_l, len_t, int_i, abs_i, tup_l, tup_t, lst_l, lst_t, sum_l, toInts_int, zip_tt, rng_1, rng_2, rng_3, isi_int_int, isi_str_int, isi_bool_int, isi_tup_int, isi_tup_tup, isiC_int, isiC_tup, isiA_int, List.getElem?_cons_zero, List.getElem?_cons_succ, List.set_cons_zero, List.set_cons_succ, List.map_cons, List.map_nil, List.replicate_succ, List.replicate_zero, List.cons_append, List.nil_append, List.length_cons, List.length_nil, Nat.reduceAdd, Nat.reduceSub, Nat.reduceEqDiff, decide_eq_true_eq, Bool.not_eq_true', Bool.not_false, Bool.not_true, decide_eq_false_iff_not, true_and, and_true, true_or, or_true, reduceIte, Bool.false_eq_true, Int.reduceLT, Int.reduceLE, Nat.reduceLT, Nat.reduceLeDiff, Int.reduceEq, Int.reduceNe, Int.zero_add]
  exact hp
theorem sump_ok {h : List Cell} {P : Dv → List Cell → Prop} {xs : List Int} (ho : Oc xs) (hp : P (.tup [.int (Sm xs % 256), .int (Sm xs / 256)]) h) : RF (M_sum_pair [.tup (iL xs)] h) P := by
  unfold M_sum_pair B_sum_pair
  simp only [r_bind, r_pure, r_c, r_var, r_bin, r_u, r_test, r_frz, r_nil, r_cons, r_guard, r_tup, r_lst, r_nopart, r_part, r_sl, r_and, r_or, r_not, r_mite, r_andV, r_notV, r_pop, r_app, r_shr', r_call, rf_fun, r_snil, then_nx, then_rt, r_seq, r_drop, r_set, r_own', r_fix', r_to, r_ret, r_if, r_for, r_for0, r_sub, r_par3, r_par, r_frzT, r_frzF, r_it, r_enum, r_rng, r_comp, op_some, op_none, op_ite, op_map, pk_non, pk_bl, pk_int, pk_str, pk_tup, pk_lst, pk_tmp, pk_scr, pk_own, pkO_some, pk_ref, pkR_some, rd_val, rd_own, fz_non, fz_bl, fz_int, fz_str, fz_tup, fz_lst, fz_tmp, fz_ref, fz_scr, gl_own, gO_some, gl_ref, gR_some, sl_own, sl_ref, ab_bl, ai_int, it_tup, it_lst, it_tmp, it_scr, put_n, put_p, put_t, put_int, put_lst, put_tup, own_tmp, fix_own, shr_tmp, ret_nx, ret_rt, add_ii, add_ll, add_tt, sub_ii, mul_ii, mul_li, mul_ti, div_ii, mod_ii, pow_ii, ints_ii, eq_ii, ne_ii, is_non, is_int, is_tup, is_intB, not_non, not_tup, ix_l, ix_t, sl_l, sl_t, sl_s, rev_l, neg_i, len_l, len_t, int_i, abs_i, tup_l, tup_t, lst_l, lst_t, sum_l, toInts_int, zip_tt, rng_1, rng_2, rng_3, isi_int_int, isi_str_int, isi_bool_int, isi_tup_int, isi_tup_tup, isiC_int, isiC_tup, isiA_int, List.getElem?_cons_zero, List.getElem?_cons_succ, List.set_cons_zero, List.set_cons_succ, List.map_cons, List.map_nil, List.replicate_succ, List.replicate_zero, List.cons_append, List.nil_append, List.length_cons, List.length_nil, Nat.reduceAdd, Nat.reduceSub, Nat.reduceEqDiff, decide_eq_true_eq, Bool.not_eq_true', Bool.not_false, Bool.not_true, decide_eq_false_iff_not, true_and, and_true, true_or, or_true, reduceIte, Bool.false_eq_true, Int.reduceLT, Int.reduceLE, Nat.reduceLT, Nat.reduceLeDiff, Int.reduceEq, Int.reduceNe]
  refine sumo_ok ho ?_
  simp only [r_bind, r_pure, r_c, r_var, r_bin, r_u, r_test, r_frz, r_nil, r_cons, r_guard, r_tup, r_lst, r_nopart, r_part, r_sl, r_and, r_or, r_not, r_mite, r_andV, r_notV, r_pop, r_app, r_shr', r_call, rf_fun, r_snil, then_nx, then_rt, r_seq, r_drop, r_set, r_own', r_fix', r_to, r_ret, r_if, r_for, r_for0, r_sub, r_par3, r_par, r_frzT, r_frzF, r_it, r_enum, r_rng, r_comp, op_some, op_none, op_ite, op_map, pk_non, pk_bl, pk_int, pk_str, pk_tup, pk_lst, pk_tmp, pk_scr, pk_own, pkO_some, pk_ref, pkR_some, rd_val, rd_own, fz_non, fz_bl, fz_int, fz_str, fz_tup, fz_lst, fz_tmp, fz_ref, fz_scr, gl_own, gO_some, gl_ref, gR_some, sl_own, sl_ref, ab_bl, ai_int, it_tup, it_lst, it_tmp, it_scr, put_n, put_p, put_t, put_int, put_lst, put_tup, own_tmp, fix_own, shr_tmp, ret_nx, ret_rt, add_ii, add_ll, add_tt, sub_ii, mul_ii, mul_li, mul_ti, div_ii, mod_ii, pow_ii, ints_ii, eq_ii, ne_ii, is_non, is_int, is_tup, is_intB, not_non, not_tup, ix_l, ix_t, sl_l, sl_t, sl_s, rev_l, neg_i, len_l, len_t, int_i, abs_i, tup_l, tup_t, lst_l, lst_t, sum_l, toInts_int, zip_tt, rng_1, rng_2, rng_3, isi_int_int, isi_str_int, isi_bool_int, isi_tup_int, isi_tup_tup, isiC_int, isiC_tup, isiA_int, List.getElem?_cons_zero, List.getElem?_cons_succ, List.set_cons_zero, List.set_cons_succ, List.map_cons, List.map_nil, List.replicate_succ, List.replicate_zero, List.cons_append, List.nil_append, List.length_cons, List.length_nil, Nat.reduceAdd, Nat.reduceSub, Nat.reduceEqDiff, decide_eq_true_eq, Bool.not_eq_true', Bool.not_false, Bool.not_true, decide_eq_false_iff_not, true_and, and_true, true_or, or_true, reduceIte, Bool.false_eq_true, Int.reduceLT, Int.reduceLE, Nat.reduceLT, Nat.reduceLeDiff, Int.reduceEq, Int.reduceNe]
  exact ⟨by rw [lim_is]; omega, hp⟩
def frm (xs : List Int) : List Int := encN xs.length ++ xs ++ [Sm xs % 256, Sm xs / 256]
theorem enc_len : ∀ (k n : Nat), n ≤ k → (encN n).length ≤ n + 1
  | k, n, hk => by
    unfold encN
    by_cases hn : n < 128
    · rw [dif_pos hn]; simp
    · rw [dif_neg hn]
      match k, hk with
      | 0, hk => omega
      | k + 1, hk =>
        have := enc_len k (n / 128) (by omega)
        rw [List.length_cons]
        omega
theorem frame_ok {h : List Cell} {P : Dv → List Cell → Prop} {xs : List Int} (ho : Oc xs) (hl : xs.length < 900000) (hp : P (.tup (iL (frm xs))) h) : RF (M_frame [.tup (iL xs)] h) P := by
  have h1 := enc_len _ xs.length (Nat.le_refl _)
  unfold M_frame B_frame
  simp only [r_bind, r_pure, r_c, r_var, r_bin, r_u, r_test, r_frz, r_nil, r_cons, r_guard, r_tup, r_lst, r_nopart, r_part, r_sl, r_and, r_or, r_not, r_mite, r_andV, r_notV, r_pop, r_app, r_shr', r_call, rf_fun, r_snil, then_nx, then_rt, r_seq, r_drop, r_set, r_own', r_fix', r_to, r_ret, r_if, r_for, r_for0, r_sub, r_par3, r_par, r_frzT, r_frzF, r_it, r_enum, r_rng, r_comp, op_some, op_none, op_ite, op_map, pk_non, pk_bl, pk_int, pk_str, pk_tup, pk_lst, pk_tmp, pk_scr, pk_own, pkO_some, pk_ref, pkR_some, rd_val, rd_own, fz_non, fz_bl, fz_int, fz_str, fz_tup, fz_lst, fz_tmp, fz_ref, fz_scr, gl_own, gO_some, gl_ref, gR_some, sl_own, sl_ref, ab_bl, ai_int, it_tup, it_lst, it_tmp, it_scr, put_n, put_p, put_t, put_int, put_lst, put_tup, own_tmp, fix_own, shr_tmp, ret_nx, ret_rt, add_ii, add_ll, add_tt, sub_ii, mul_ii, mul_li, mul_ti, div_ii, mod_ii, pow_ii, ints_ii, eq_ii, ne_ii, is_non, is_int, is_tup, is_intB, not_non, not_tup, ix_l, ix_t, sl_l, sl_t, sl_s, rev_l, neg_i, len_l, len_t, int_i, abs_i, tup_l, tup_t, lst_l, lst_t, sum_l, toInts_int, zip_tt, rng_1, rng_2, rng_3, isi_int_int, isi_str_int, isi_bool_int, isi_tup_int, isi_tup_tup, isiC_int, isiC_tup, isiA_int, List.getElem?_cons_zero, List.getElem?_cons_succ, List.set_cons_zero, List.set_cons_succ, List.map_cons, List.map_nil, List.replicate_succ, List.replicate_zero, List.cons_append, List.nil_append, List.length_cons, List.length_nil, Nat.reduceAdd, Nat.reduceSub, Nat.reduceEqDiff, decide_eq_true_eq, Bool.not_eq_true', Bool.not_false, Bool.not_true, decide_eq_false_iff_not, true_and, and_true, true_or, or_true, reduceIte, Bool.false_eq_true, Int.reduceLT, Int.reduceLE, Nat.reduceLT, Nat.reduceLeDiff, Int.reduceEq, Int.reduceNe]
  rw [iL_len]
  refine numo_ok hl ?_
  simp only [r_bind, r_pure, r_c, r_var, r_bin, r_u, r_test, r_frz, r_nil, r_cons, r_guard, r_tup, r_lst, r_nopart, r_part, r_sl, r_and, r_or, r_not, r_mite, r_andV, r_notV, r_pop, r_app, r_shr', r_call, rf_fun, r_snil, then_nx, then_rt, r_seq, r_drop, r_set, r_own', r_fix', r_to, r_ret, r_if, r_for, r_for0, r_sub, r_par3, r_par, r_frzT, r_frzF, r_it, r_enum, r_rng, r_comp, op_some, op_none, op_ite, op_map, pk_non, pk_bl, pk_int, pk_str, pk_tup, pk_lst, pk_tmp, pk_scr, pk_own, pkO_some, pk_ref, pkR_some, rd_val, rd_own, fz_non, fz_bl, fz_int, fz_str, fz_tup, fz_lst, fz_tmp, fz_ref, fz_scr, gl_own, gO_some, gl_ref, gR_some, sl_own, sl_ref, ab_bl, ai_int, it_tup, it_lst, it_tmp, it_scr, put_n, put_p, put_t, put_int, put_lst, put_tup, own_tmp, fix_own, shr_tmp, ret_nx, ret_rt, add_ii, add_ll, add_tt, sub_ii, mul_ii, mul_li, mul_ti, div_ii, mod_ii, pow_ii, ints_ii, eq_ii, ne_ii, is_non, is_int, is_tup, is_intB, not_non, not_tup, ix_l, ix_t, sl_l, sl_t, sl_s, rev_l, neg_i, len_l, len_t, int_i, abs_i, tup_l, tup_t, lst_l, lst_t, sum_l, toInts_int, zip_tt, rng_1, rng_2, rng_3, isi_int_int, isi_str_int, isi_bool_int, isi_tup_int, isi_tup_tup, isiC_int, isiC_tup, isiA_int, List.getElem?_cons_zero, List.getElem?_cons_succ, List.set_cons_zero, List.set_cons_succ, List.map_cons, List.map_nil, List.replicate_succ, List.replicate_zero, List.cons_append, List.nil_append, List.length_cons, List.length_nil, Nat.reduceAdd, Nat.reduceSub, Nat.reduceEqDiff, decide_eq_true_eq, Bool.not_eq_true', Bool.not_false, Bool.not_true, decide_eq_false_iff_not, true_and, and_true, true_or, or_true, reduceIte, Bool.false_eq_true, Int.reduceLT, Int.reduceLE, Nat.reduceLT, Nat.reduceLeDiff, Int.reduceEq, Int.reduceNe]
  refine ⟨by rw [iL_len, iL_len, lim_is]; omega, sump_ok ho ?_⟩
  simp only [r_bind, r_pure, r_c, r_var, r_bin, r_u, r_test, r_frz, r_nil, r_cons, r_guard, r_tup, r_lst, r_nopart, r_part, r_sl, r_and, r_or, r_not, r_mite, r_andV, r_notV, r_pop, r_app, r_shr', r_call, rf_fun, r_snil, then_nx, then_rt, r_seq, r_drop, r_set, r_own', r_fix', r_to, r_ret, r_if, r_for, r_for0, r_sub, r_par3, r_par, r_frzT, r_frzF, r_it, r_enum, r_rng, r_comp, op_some, op_none, op_ite, op_map, pk_non, pk_bl, pk_int, pk_str, pk_tup, pk_lst, pk_tmp, pk_scr, pk_own, pkO_some, pk_ref, pkR_some, rd_val, rd_own, fz_non, fz_bl, fz_int, fz_str, fz_tup, fz_lst, fz_tmp, fz_ref, fz_scr, gl_own, gO_some, gl_ref, gR_some, sl_own, sl_ref, ab_bl, ai_int, it_tup, it_lst, it_tmp, it_scr, put_n, put_p, put_t, put_int, put_lst, put_tup, own_tmp, fix_own, shr_tmp, ret_nx, ret_rt, add_ii, add_ll, add_tt, sub_ii, mul_ii, mul_li, mul_ti, div_ii, mod_ii, pow_ii, ints_ii, eq_ii, ne_ii, is_non, is_int, is_tup, is_intB, not_non, not_tup, ix_l, ix_t, sl_l, sl_t, sl_s, rev_l, neg_i, len_l, len_t, int_i, abs_i, tup_l, tup_t, lst_l, lst_t, sum_l, toInts_int, zip_tt, rng_1, rng_2, rng_3, isi_int_int, isi_str_int, isi_bool_int, isi_tup_int, isi_tup_tup, isiC_int, isiC_tup, isiA_int, List.getElem?_cons_zero, List.getElem?_cons_succ, List.set_cons_zero, List.set_cons_succ, List.map_cons, List.map_nil, List.replicate_succ, List.replicate_zero, List.cons_append, List.nil_append, List.length_cons, List.length_nil, Nat.reduceAdd, Nat.reduceSub, Nat.reduceEqDiff, decide_eq_true_eq, Bool.not_eq_true', Bool.not_false, Bool.not_true, decide_eq_false_iff_not, true_and, and_true, true_or, or_true, reduceIte, Bool.false_eq_true, Int.reduceLT, Int.reduceLE, Nat.reduceLT, Nat.reduceLeDiff, Int.reduceEq, Int.reduceNe]
  refine ⟨by rw [List.length_append, iL_len, iL_len, lim_is]; omega, ?_⟩
  unfold frm at hp
  rw [iL_app, iL_app] at hp
  exact hp
end K74

set_option Elab.async false
set_option linter.all false
set_option maxRecDepth 100000
set_option maxHeartbeats 4000000
namespace K74
open PySem PySem.Spec L2 Mir
theorem lsum_comp (h : List Cell) (e : Mir.Env) (os : List Int) (ho : Oc os) (hl : os.length < 900000) (he : e[0]? = some (some (Sl.val (.lst (iL os))))) (he1 : e.length = 2) : ∀ (rest : List Int) (p : Nat) (acc : List Int) (P : List Dv × List Cell → Prop), os.drop p = rest → acc.length ≤ p → (∀ zs : List Int, zs.sum = acc.sum + W p rest → P (iL zs, h)) →
    OP (compL (putN 1) [1] (Mo.pure true) (mBin gMul (mBin gIx (mVar 0) (mVar 1)) (mBin gAdd (mVar 1) (mC (.int 1)))) e (rngD p 1 rest.length) (iL acc) h) P := by
  match e, he1 with
  | [e0, e1], _ =>
  have he0 : e0 = some (Sl.val (.lst (iL os))) := by simpa using he
  subst he0
  intro rest
  induction rest with
  | nil =>
    intro p acc P hd ha hp
    exact hp acc (by simp [W])
  | cons x r ih =>
    intro p acc P hd ha hp
    have hpl : p < os.length := by
      by_cases h : p < os.length
      · exact h
      · rw [List.drop_of_length_le (by omega)] at hd; cases hd
    have hx : os[p]? = some x := by
      have := congrArg (·[0]?) hd
      simpa [List.getElem?_drop] using this
    have hd2 : os.drop (p + 1) = r := by
      have := congrArg (List.drop 1) hd
      simpa [List.drop_drop, Nat.add_comm] using this
    have hxo := ho x (List.mem_of_getElem? hx)
    show OP (compL _ _ _ _ _ (.int p :: rngD ((p : Int) + 1) 1 r.length) _ _) P
    rw [comp_cons]
    have hid : hideE [1] [some (Sl.val (.lst (iL os))), e1] = [some (Sl.val (.lst (iL os))), none] := by
      cases e1 with
      | none => rfl
      | some sl => cases sl <;> rfl
    rw [hid]
    simp only [r_bind, r_pure, r_c, r_var, r_bin, r_u, r_test, r_frz, r_nil, r_cons, r_guard, r_tup, r_lst, r_nopart, r_part, r_sl, r_and, r_or, r_not, r_mite, r_andV, r_notV, r_pop, r_app, r_shr', r_call, rf_fun, r_snil, then_nx, then_rt, r_seq, r_drop, r_set, r_own', r_fix', r_to, r_ret, r_if, r_for, r_for0, r_sub, r_par3, r_par, r_frzT, r_frzF, r_it, r_enum, r_rng, r_comp, op_some, op_none, op_ite, op_map, pk_non, pk_bl, pk_int, pk_str, pk_tup, pk_lst, pk_tmp, pk_scr, pk_own, pkO_some, pk_ref, pkR_some, rd_val, rd_own, fz_non, fz_bl, fz_int, fz_str, fz_tup, fz_lst, fz_tmp, fz_ref, fz_scr, gl_own, gO_some, gl_ref, gR_some, sl_own, sl_ref, ab_bl, ai_int, it_tup, it_lst, it_tmp, it_scr, put_n, put_p, put_t, put_int, put_lst, put_tup, own_tmp, fix_own, shr_tmp, ret_nx, ret_rt, add_ii, add_ll, add_tt, sub_ii, mul_ii, mul_li, mul_ti, div_ii, mod_ii, pow_ii, ints_ii, eq_ii, ne_ii, is_non, is_int, is_tup, is_intB, not_non, not_tup, ix_l, ix_t, sl_l, sl_t, sl_s, rev_l, neg_i, len_l, len_t, int_i, abs_i, tup_l, tup_t, lst_l, lst_t, sum_l, toInts_int, zip_tt, rng_1, rng_2, rng_3, isi_int_int, isi_str_int, isi_bool_int, isi_tup_int, isi_tup_tup, isiC_int, isiC_tup, isiA_int, List.getElem?_cons_zero, List.getElem?_cons_succ, List.set_cons_zero, List.set_cons_succ, List.map_cons, List.map_nil, List.replicate_succ, List.replicate_zero, List.cons_append, List.nil_append, List.length_cons, List.length_nil, Nat.reduceAdd, Nat.reduceSub, Nat.reduceEqDiff, decide_eq_true_eq, Bool.not_eq_true', Bool.not_false, Bool.not_true, decide_eq_false_iff_not, true_and, and_true, true_or, or_true, reduceIte, Bool.false_eq_true, Int.reduceLT, Int.reduceLE, Nat.reduceLT, Nat.reduceLeDiff, Int.reduceEq, Int.reduceNe, at_nat, List.getElem?_map, hx, Option.map_some]
    rw [mul_l (by omega)]
    simp only [r_bind, r_pure, r_c, r_var, r_bin, r_u, r_test, r_frz, r_nil, r_cons, r_guard, r_tup, r_lst, r_nopart, r_part, r_sl, r_and, r_or, r_not, r_mite, r_andV, r_notV, r_pop, r_app, r_shr', r_call, rf_fun, r_snil, then_nx, then_rt, r_seq, r_drop, r_set, r_own', r_fix', r_to, r_ret, r_if, r_for, r_for0, r_sub, r_par3, r_par, r_frzT, r_frzF, r_it, r_enum, r_rng, r_comp, op_some, op_none, op_ite, op_map, pk_non, pk_bl, pk_int, pk_str, pk_tup, pk_lst, pk_tmp, pk_scr, pk_own, pkO_some, pk_ref, pkR_some, rd_val, rd_own, fz_non, fz_bl, fz_int, fz_str, fz_tup, fz_lst, fz_tmp, fz_ref, fz_scr, gl_own, gO_some, gl_ref, gR_some, sl_own, sl_ref, ab_bl, ai_int, it_tup, it_lst, it_tmp, it_scr, put_n, put_p, put_t, put_int, put_lst, put_tup, own_tmp, fix_own, shr_tmp, ret_nx, ret_rt, add_ii, add_ll, add_tt, sub_ii, mul_ii, mul_li, mul_ti, div_ii, mod_ii, pow_ii, ints_ii, eq_ii, ne_ii, is_non, is_int, is_tup, is_intB, not_non, not_tup, ix_l, ix_t, sl_l, sl_t, sl_s, rev_l, neg_i, len_l, len_t, int_i, abs_i, tup_l, tup_t, lst_l, lst_t, sum_l, toInts_int, zip_tt, rng_1, rng_2, rng_3, isi_int_int, isi_str_int, isi_bool_int, isi_tup_int, isi_tup_tup, isiC_int, isiC_tup, isiA_int, List.getElem?_cons_zero, List.getElem?_cons_succ, List.set_cons_zero, List.set_cons_succ, List.map_cons, List.map_nil, List.replicate_succ, List.replicate_zero, List.cons_append, List.nil_append, List.length_cons, List.length_nil, Nat.reduceAdd, Nat.reduceSub, Nat.reduceEqDiff, decide_eq_true_eq, Bool.not_eq_true', Bool.not_false, Bool.not_true, decide_eq_false_iff_not, true_and, and_true, true_or, or_true, reduceIte, Bool.false_eq_true, Int.reduceLT, Int.reduceLE, Nat.reduceLT, Nat.reduceLeDiff, Int.reduceEq, Int.reduceNe]
    refine ⟨by rw [iL_len, lim_is]; omega, ?_⟩
    have e2 : iL acc ++ [Dv.int (x * (↑p + 1))] = iL (acc ++ [x * (↑p + 1)]) := by rw [iL_app] <;> rfl
    rw [e2]
    refine ih (p + 1) _ P hd2 (by rw [List.length_append, List.length_singleton]; omega) fun zs hz => hp zs ?_
    rw [hz, List.sum_append]
    show acc.sum + (x * (↑p + 1) + 0) + W (p + 1) r = acc.sum + ((↑p + 1) * x + W (p + 1) r)
    rw [Int.mul_comm x]
    omega
theorem lsum_ok {h : List Cell} {P : Dv → List Cell → Prop} {xs : List Int} (ho : Oc xs) (hl : xs.length < 900000) (hp : P (.int (Sm xs)) h) : RF (M_law_sum [.lst (iL xs)] h) P := by
  unfold M_law_sum B_law_sum
  simp only [r_bind, r_pure, r_c, r_var, r_bin, r_u, r_test, r_frz, r_nil, r_cons, r_guard, r_tup, r_lst, r_nopart, r_part, r_sl, r_and, r_or, r_not, r_mite, r_andV, r_notV, r_pop, r_app, r_shr', r_call, rf_fun, r_snil, then_nx, then_rt, r_seq, r_drop, r_set, r_own', r_fix', r_to, r_ret, r_if, r_for, r_for0, r_sub, r_par3, r_par, r_frzT, r_frzF, r_it, r_enum, r_rng, r_comp, op_some, op_none, op_ite, op_map, pk_non, pk_bl, pk_int, pk_str, pk_tup, pk_lst, pk_tmp, pk_scr, pk_own, pkO_some, pk_ref, pkR_some, rd_val, rd_own, fz_non, fz_bl, fz_int, fz_str, fz_tup, fz_lst, fz_tmp, fz_ref, fz_scr, gl_own, gO_some, gl_ref, gR_some, sl_own, sl_ref, ab_bl, ai_int, it_tup, it_lst, it_tmp, it_scr, put_n, put_p, put_t, put_int, put_lst, put_tup, own_tmp, fix_own, shr_tmp, ret_nx, ret_rt, add_ii, add_ll, add_tt, sub_ii, mul_ii, mul_li, mul_ti, div_ii, mod_ii, pow_ii, ints_ii, eq_ii, ne_ii, is_non, is_int, is_tup, is_intB, not_non, not_tup, ix_l, ix_t, sl_l, sl_t, sl_s, rev_l, neg_i, len_l, len_t, int_i, abs_i, tup_l, tup_t, lst_l, lst_t, sum_l, toInts_int, zip_tt, rng_1, rng_2, rng_3, isi_int_int, isi_str_int, isi_bool_int, isi_tup_int, isi_tup_tup, isiC_int, isiC_tup, isiA_int, List.getElem?_cons_zero, List.getElem?_cons_succ, List.set_cons_zero, List.set_cons_succ, List.map_cons, List.map_nil, List.replicate_succ, List.replicate_zero, List.cons_append, List.nil_append, List.length_cons, List.length_nil, Nat.reduceAdd, Nat.reduceSub, Nat.reduceEqDiff, decide_eq_true_eq, Bool.not_eq_true', Bool.not_false, Bool.not_true, decide_eq_false_iff_not, true_and, and_true, true_or, or_true, reduceIte, Bool.false_eq_true, Int.reduceLT, Int.reduceLE, Nat.reduceLT, Nat.reduceLeDiff, Int.reduceEq, Int.reduceNe, iL_len]
  refine ⟨by unfold B62; omega, ?_⟩
  have e : ((xs.length : Int)).toNat = xs.length := by omega
  rw [e]

  refine lsum_comp h _ xs ho hl rfl rfl xs 0 [] _ rfl (by simp) fun zs hz => ?_
  simp only [r_bind, r_pure, r_c, r_var, r_bin, r_u, r_test, r_frz, r_nil, r_cons, r_guard, r_tup, r_lst, r_nopart, r_part, r_sl, r_and, r_or, r_not, r_mite, r_andV, r_notV, r_pop, r_app, r_shr', r_call, rf_fun, r_snil, then_nx, then_rt, r_seq, r_drop, r_set, r_own', r_fix', r_to, r_ret, r_if, r_for, r_for0, r_sub, r_par3, r_par, r_frzT, r_frzF, r_it, r_enum, r_rng, r_comp, op_some, op_none, op_ite, op_map, pk_non, pk_bl, pk_int, pk_str, pk_tup, pk_lst, pk_tmp, pk_scr, pk_own, pkO_some, pk_ref, pkR_some, rd_val, rd_own, fz_non, fz_bl, fz_int, fz_str, fz_tup, fz_lst, fz_tmp, fz_ref, fz_scr, gl_own, gO_some, gl_ref, gR_some, sl_own, sl_ref, ab_bl, ai_int, it_tup, it_lst, it_tmp, it_scr, put_n, put_p, put_t, put_int, put_lst, put_tup, own_tmp, fix_own, shr_tmp, ret_nx, ret_rt, add_ii, add_ll, add_tt, sub_ii, mul_ii, mul_li, mul_ti, div_ii, mod_ii, pow_ii, ints_ii, eq_ii, ne_ii, is_non, is_int, is_tup, is_intB, not_non, not_tup, ix_l, ix_t, sl_l, sl_t, sl_s, rev_l, neg_i, len_l, len_t, int_i, abs_i, tup_l, tup_t, lst_l, lst_t, sum_l, toInts_int, zip_tt, rng_1, rng_2, rng_3, isi_int_int, isi_str_int, isi_bool_int, isi_tup_int, isi_tup_tup, isiC_int, isiC_tup, isiA_int, List.getElem?_cons_zero, List.getElem?_cons_succ, List.set_cons_zero, List.set_cons_succ, List.map_cons, List.map_nil, List.replicate_succ, List.replicate_zero, List.cons_append, List.nil_append, List.length_cons, List.length_nil, Nat.reduceAdd, Nat.reduceSub, Nat.reduceEqDiff, decide_eq_true_eq, Bool.not_eq_true', Bool.not_false, Bool.not_true, decide_eq_false_iff_not, true_and, and_true, true_or, or_true, reduceIte, Bool.false_eq_true, Int.reduceLT, Int.reduceLE, Nat.reduceLT, Nat.reduceLeDiff, Int.reduceEq, Int.reduceNe]
  have : zs.sum % 65521 = Sm xs := by
    rw [hz]
    simp [Sm]
  rw [this]
  exact hp
theorem framed_ok {h : List Cell} {P : Dv → List Cell → Prop} {xs : List Int} (ho : Oc xs) (hl : xs.length < 900000) (hp : P (.lst (iL (frm xs))) h) : RF (M_law_framed [.lst (iL xs)] h) P := by
  have h1 := enc_len _ xs.length (Nat.le_refl _)
  unfold M_law_framed B_law_framed
  simp only [r_bind, r_pure, r_c, r_var, r_bin, r_u, r_test, r_frz, r_nil, r_cons, r_guard, r_tup, r_lst, r_nopart, r_part, r_sl, r_and, r_or, r_not, r_mite, r_andV, r_notV, r_pop, r_app, r_shr', r_call, rf_fun, r_snil, then_nx, then_rt, r_seq, r_drop, r_set, r_own', r_fix', r_to, r_ret, r_if, r_for, r_for0, r_sub, r_par3, r_par, r_frzT, r_frzF, r_it, r_enum, r_rng, r_comp, op_some, op_none, op_ite, op_map, pk_non, pk_bl, pk_int, pk_str, pk_tup, pk_lst, pk_tmp, pk_scr, pk_own, pkO_some, pk_ref, pkR_some, rd_val, rd_own, fz_non, fz_bl, fz_int, fz_str, fz_tup, fz_lst, fz_tmp, fz_ref, fz_scr, gl_own, gO_some, gl_ref, gR_some, sl_own, sl_ref, ab_bl, ai_int, it_tup, it_lst, it_tmp, it_scr, put_n, put_p, put_t, put_int, put_lst, put_tup, own_tmp, fix_own, shr_tmp, ret_nx, ret_rt, add_ii, add_ll, add_tt, sub_ii, mul_ii, mul_li, mul_ti, div_ii, mod_ii, pow_ii, ints_ii, eq_ii, ne_ii, is_non, is_int, is_tup, is_intB, not_non, not_tup, ix_l, ix_t, sl_l, sl_t, sl_s, rev_l, neg_i, len_l, len_t, int_i, abs_i, tup_l, tup_t, lst_l, lst_t, sum_l, toInts_int, zip_tt, rng_1, rng_2, rng_3, isi_int_int, isi_str_int, isi_bool_int, isi_tup_int, isi_tup_tup, isiC_int, isiC_tup, isiA_int, List.getElem?_cons_zero, List.getElem?_cons_succ, List.set_cons_zero, List.set_cons_succ, List.map_cons, List.map_nil, List.replicate_succ, List.replicate_zero, List.cons_append, List.nil_append, List.length_cons, List.length_nil, Nat.reduceAdd, Nat.reduceSub, Nat.reduceEqDiff, decide_eq_true_eq, Bool.not_eq_true', Bool.not_false, Bool.not_true, decide_eq_false_iff_not, true_and, and_true, true_or, or_true, reduceIte, Bool.false_eq_true, Int.reduceLT, Int.reduceLE, Nat.reduceLT, Nat.reduceLeDiff, Int.reduceEq, Int.reduceNe]

  refine lsum_ok ho hl ?_
  simp only [r_bind, r_pure, r_c, r_var, r_bin, r_u, r_test, r_frz, r_nil, r_cons, r_guard, r_tup, r_lst, r_nopart, r_part, r_sl, r_and, r_or, r_not, r_mite, r_andV, r_notV, r_pop, r_app, r_shr', r_call, rf_fun, r_snil, then_nx, then_rt, r_seq, r_drop, r_set, r_own', r_fix', r_to, r_ret, r_if, r_for, r_for0, r_sub, r_par3, r_par, r_frzT, r_frzF, r_it, r_enum, r_rng, r_comp, op_some, op_none, op_ite, op_map, pk_non, pk_bl, pk_int, pk_str, pk_tup, pk_lst, pk_tmp, pk_scr, pk_own, pkO_some, pk_ref, pkR_some, rd_val, rd_own, fz_non, fz_bl, fz_int, fz_str, fz_tup, fz_lst, fz_tmp, fz_ref, fz_scr, gl_own, gO_some, gl_ref, gR_some, sl_own, sl_ref, ab_bl, ai_int, it_tup, it_lst, it_tmp, it_scr, put_n, put_p, put_t, put_int, put_lst, put_tup, own_tmp, fix_own, shr_tmp, ret_nx, ret_rt, add_ii, add_ll, add_tt, sub_ii, mul_ii, mul_li, mul_ti, div_ii, mod_ii, pow_ii, ints_ii, eq_ii, ne_ii, is_non, is_int, is_tup, is_intB, not_non, not_tup, ix_l, ix_t, sl_l, sl_t, sl_s, rev_l, neg_i, len_l, len_t, int_i, abs_i, tup_l, tup_t, lst_l, lst_t, sum_l, toInts_int, zip_tt, rng_1, rng_2, rng_3, isi_int_int, isi_str_int, isi_bool_int, isi_tup_int, isi_tup_tup, isiC_int, isiC_tup, isiA_int, List.getElem?_cons_zero, List.getElem?_cons_succ, List.set_cons_zero, List.set_cons_succ, List.map_cons, List.map_nil, List.replicate_succ, List.replicate_zero, List.cons_append, List.nil_append, List.length_cons, List.length_nil, Nat.reduceAdd, Nat.reduceSub, Nat.reduceEqDiff, decide_eq_true_eq, Bool.not_eq_true', Bool.not_false, Bool.not_true, decide_eq_false_iff_not, true_and, and_true, true_or, or_true, reduceIte, Bool.false_eq_true, Int.reduceLT, Int.reduceLE, Nat.reduceLT, Nat.reduceLeDiff, Int.reduceEq, Int.reduceNe, iL_len]
  refine locts_ok hl ?_
  simp only [r_bind, r_pure, r_c, r_var, r_bin, r_u, r_test, r_frz, r_nil, r_cons, r_guard, r_tup, r_lst, r_nopart, r_part, r_sl, r_and, r_or, r_not, r_mite, r_andV, r_notV, r_pop, r_app, r_shr', r_call, rf_fun, r_snil, then_nx, then_rt, r_seq, r_drop, r_set, r_own', r_fix', r_to, r_ret, r_if, r_for, r_for0, r_sub, r_par3, r_par, r_frzT, r_frzF, r_it, r_enum, r_rng, r_comp, op_some, op_none, op_ite, op_map, pk_non, pk_bl, pk_int, pk_str, pk_tup, pk_lst, pk_tmp, pk_scr, pk_own, pkO_some, pk_ref, pkR_some, rd_val, rd_own, fz_non, fz_bl, fz_int, fz_str, fz_tup, fz_lst, fz_tmp, fz_ref, fz_scr, gl_own, gO_some, gl_ref, gR_some, sl_own, sl_ref, ab_bl, ai_int, it_tup, it_lst, it_tmp, it_scr, put_n, put_p, put_t, put_int, put_lst, put_tup, own_tmp, fix_own, shr_tmp, ret_nx, ret_rt, add_ii, add_ll, add_tt, sub_ii, mul_ii, mul_li, mul_ti, div_ii, mod_ii, pow_ii, ints_ii, eq_ii, ne_ii, is_non, is_int, is_tup, is_intB, not_non, not_tup, ix_l, ix_t, sl_l, sl_t, sl_s, rev_l, neg_i, len_l, len_t, int_i, abs_i, tup_l, tup_t, lst_l, lst_t, sum_l, toInts_int, zip_tt, rng_1, rng_2, rng_3, isi_int_int, isi_str_int, isi_bool_int, isi_tup_int, isi_tup_tup, isiC_int, isiC_tup, isiA_int, List.getElem?_cons_zero, List.getElem?_cons_succ, List.set_cons_zero, List.set_cons_succ, List.map_cons, List.map_nil, List.replicate_succ, List.replicate_zero, List.cons_append, List.nil_append, List.length_cons, List.length_nil, Nat.reduceAdd, Nat.reduceSub, Nat.reduceEqDiff, decide_eq_true_eq, Bool.not_eq_true', Bool.not_false, Bool.not_true, decide_eq_false_iff_not, true_and, and_true, true_or, or_true, reduceIte, Bool.false_eq_true, Int.reduceLT, Int.reduceLE, Nat.reduceLT, Nat.reduceLeDiff, Int.reduceEq, Int.reduceNe]
  refine ⟨by rw [iL_len, iL_len, lim_is]; omega, by rw [lim_is]; omega, by rw [List.length_append, iL_len, iL_len, lim_is]; omega, ?_⟩
  unfold frm at hp
  rw [iL_app, iL_app] at hp
  exact hp
end K74

set_option Elab.async false
set_option linter.all false
set_option maxRecDepth 100000
set_option maxHeartbeats 4000000
namespace K74
open PySem PySem.Spec L2 Mir
theorem drop_hd {os : List Int} {p : Nat} {x : Int} {r : List Int} (hd : os.drop p = x :: r) : p < os.length ∧ os[p]? = some x ∧ os.drop (p + 1) = r := by
  have hpl : p < os.length := by
    by_cases h : p < os.length
    · exact h
    · rw [List.drop_of_length_le (by omega)] at hd; cases hd
  refine ⟨hpl, ?_, ?_⟩
  · have := congrArg (·[0]?) hd
    simpa [List.getElem?_drop] using this
  · have := congrArg (List.drop 1) hd
    simpa [List.drop_drop, Nat.add_comm] using this
theorem oc_drop {os : List Int} {p : Nat} (h : Oc os) : Oc (os.drop p) := fun x hx => h x (List.mem_of_mem_drop hx)
theorem oc_take {os : List Int} {p : Nat} (h : Oc os) : Oc (os.take p) := fun x hx => h x (List.mem_of_mem_take hx)
theorem iL_drop {os : List Int} {p : Nat} : (iL os).drop p = iL (os.drop p) := (List.map_drop ..).symm
theorem iL_take {os : List Int} {p : Nat} : (iL os).take p = iL (os.take p) := (List.map_take ..).symm
theorem iL_get {os : List Int} {p : Nat} : (iL os)[p]? = (os[p]?).map Dv.int := List.getElem?_map ..
/-! ### reading a number -/
def rdN : List Int → Option (Int × Nat)
  | [] => none
  | x :: r => if x < 128 then some (x, 1) else (rdN r).map fun q => (x - 128 + 128 * q.1, q.2 + 1)
def V (b : Int) : List Int → Int
  | [] => 0
  | x :: r => x + b * V b r
theorem rdN_len : ∀ {rest : List Int} {v : Int} {k : Nat}, rdN rest = some (v, k) → 1 ≤ k ∧ k ≤ rest.length
  | [], _, _, h => by cases h
  | x :: r, v, k, h => by
    unfold rdN at h
    split at h
    · cases h
      exact ⟨Nat.le_refl _, by simp⟩
    · obtain ⟨q, h1, h2⟩ := Option.map_eq_some_iff.mp h
      cases h2
      have := rdN_len (v := q.1) (k := q.2) h1
      exact ⟨by omega, by rw [List.length_cons]; omega⟩
theorem rdN_pos : ∀ {rest : List Int} {v : Int} {k : Nat}, Oc rest → rdN rest = some (v, k) → 0 ≤ v
  | [], _, _, _, h => by cases h
  | x :: r, v, k, ho, h => by
    obtain ⟨hx, hr⟩ := oc_cons ho
    unfold rdN at h
    split at h
    · cases h
      exact hx.1
    · rename_i hn
      obtain ⟨q, h1, h2⟩ := Option.map_eq_some_iff.mp h
      cases h2
      have := rdN_pos (v := q.1) (k := q.2) hr h1
      omega
/-- the figures -/
def figs (rest : List Int) (k : Nat) (z : Int) : List Int := (rest.take (k - 1)).map (· - 128) ++ [z]
theorem rdN_figs : ∀ {rest : List Int} {v : Int} {k : Nat}, Oc rest → rdN rest = some (v, k) → ∃ z, rest[k - 1]? = some z ∧ 0 ≤ z ∧ z < 128 ∧ V 128 (figs rest k z) = v ∧ ∀ x ∈ figs rest k z, 0 ≤ x ∧ x < 128
  | [], _, _, _, h => by cases h
  | x :: r, v, k, ho, h => by
    obtain ⟨hx, hr⟩ := oc_cons ho
    unfold rdN at h
    split at h
    · rename_i hx2
      cases h
      refine ⟨x, rfl, hx.1, hx2, ?_, ?_⟩
      · show x + 128 * 0 = x
        omega
      · intro y hy
        have : y = x := by simpa [figs] using hy
        rw [this]
        exact ⟨hx.1, hx2⟩
    · rename_i hn
      obtain ⟨q, h1, h2⟩ := Option.map_eq_some_iff.mp h
      cases h2
      obtain ⟨z, h3, h4, h5, h6, h7⟩ := rdN_figs (v := q.1) (k := q.2) hr h1
      have hk := (rdN_len (v := q.1) (k := q.2) h1).1
      obtain ⟨j, hj⟩ : ∃ j, q.2 = j + 1 := ⟨q.2 - 1, by omega⟩
      rw [hj] at h3 h6 h7 ⊢
      have ef : figs (x :: r) (j + 1 + 1) z = (x - 128) :: figs r (j + 1) z := rfl
      refine ⟨z, ?_, h4, h5, ?_, ?_⟩
      · show (x :: r)[j + 1]? = some z
        rw [List.getElem?_cons_succ]
        exact h3
      · rw [ef]
        show x - 128 + 128 * V 128 (figs r (j + 1) z) = _
        rw [h6]
      · rw [ef]
        intro y hy
        rcases List.mem_cons.mp hy with rfl | hy
        · omega
        · exact h7 y hy
def numL (rest : List Int) : Option (Int × Nat) := match rdN rest with
  | none => none
  | some (v, k) => if 1 < k ∧ rest[k - 1]? = some 0 then none else some (v, k)
/-! ### behind_number -/
theorem behind_loop (h : List Cell) (os : List Int) (a : Option Sl) : ∀ (rest : List Int) (p : Nat) (c : Option Sl) (P : Fl → Mem → Prop), os.drop p = rest → (match rdN rest with | none => ∀ c, P .nx ⟨[some (.val (.tup (iL os))), a, c], h⟩ | some (_, k) => ∀ s : Mem, s.hp = h → P (.rt (.int ((p + k : Nat) : Int))) s) →
    R (forS (putN 2) F_behind_number1 (rngD p 1 rest.length)) ⟨[some (.val (.tup (iL os))), a, c], h⟩ P
  | [], p, c, P, hd, hp => hp c
  | x :: r, p, c, P, hd, hp => by
    obtain ⟨h1, h2, h3⟩ := drop_hd hd
    show R (forS _ _ (.int p :: rngD ((p : Int) + 1) 1 r.length)) _ P
    rw [r_for1]
    conv in F_behind_number1 => unfold F_behind_number1
    simp only [r_bind, r_pure, r_c, r_var, r_bin, r_u, r_test, r_frz, r_nil, r_cons, r_guard, r_tup, r_lst, r_nopart, r_part, r_sl, r_and, r_or, r_not, r_mite, r_andV, r_notV, r_pop, r_app, r_shr', r_call, rf_fun, r_snil, then_nx, then_rt, r_seq, r_drop, r_set, r_own', r_fix', r_to, r_ret, r_if, r_for, r_for0, r_sub, r_par3, r_par, r_frzT, r_frzF, r_it, r_enum, r_rng, r_comp, op_some, op_none, op_ite, op_map, pk_non, pk_bl, pk_int, pk_str, pk_tup, pk_lst, pk_tmp, pk_scr, pk_own, pkO_some, pk_ref, pkR_some, rd_val, rd_own, fz_non, fz_bl, fz_int, fz_str, fz_tup, fz_lst, fz_tmp, fz_ref, fz_scr, gl_own, gO_some, gl_ref, gR_some, sl_own, sl_ref, ab_bl, ai_int, it_tup, it_lst, it_tmp, it_scr, put_n, put_p, put_t, put_int, put_lst, put_tup, own_tmp, fix_own, shr_tmp, ret_nx, ret_rt, add_ii, add_ll, add_tt, sub_ii, mul_ii, mul_li, mul_ti, div_ii, mod_ii, pow_ii, ints_ii, eq_ii, ne_ii, is_non, is_int, is_tup, is_intB, not_non, not_tup, ix_l, ix_t, sl_l, sl_t, sl_s, rev_l, neg_i, len_l, len_t, int_i, abs_i, tup_l, tup_t, lst_l, lst_t, sum_l, toInts_int, zip_tt, rng_1, rng_2, rng_3, isi_int_int, isi_str_int, isi_bool_int, isi_tup_int, isi_tup_tup, isiC_int, isiC_tup, isiA_int, List.getElem?_cons_zero, List.getElem?_cons_succ, List.set_cons_zero, List.set_cons_succ, List.map_cons, List.map_nil, List.replicate_succ, List.replicate_zero, List.cons_append, List.nil_append, List.length_cons, List.length_nil, Nat.reduceAdd, Nat.reduceSub, Nat.reduceEqDiff, decide_eq_true_eq, Bool.not_eq_true', Bool.not_false, Bool.not_true, decide_eq_false_iff_not, true_and, and_true, true_or, or_true, reduceIte, Bool.false_eq_true, Int.reduceLT, Int.reduceLE, Nat.reduceLT, Nat.reduceLeDiff, Int.reduceEq, Int.reduceNe, at_nat, iL_get, h2, Option.map_some]
    unfold rdN at hp
    by_cases hx : x < 128
    · rw [if_pos hx] at hp ⊢
      exact hp _ rfl
    · rw [if_neg hx] at hp ⊢
      refine behind_loop h os a r (p + 1) _ P h3 ?_
      cases hr : rdN r with
      | none => rw [hr] at hp; exact hp
      | some q =>
        rw [hr] at hp
        dsimp only [Option.map_some] at hp ⊢
        rw [show p + 1 + q.2 = p + (q.2 + 1) by omega]
        exact hp
theorem behind_ok {h : List Cell} {P : Dv → List Cell → Prop} {os : List Int} {p : Nat} (hl : os.length < 900000) (hpl : p ≤ os.length) (hp : match rdN (os.drop p) with | none => P .non h | some (_, k) => P (.int ((p + k : Nat) : Int)) h) : RF (M_behind_number [.tup (iL os), .int p] h) P := by
  unfold M_behind_number B_behind_number
  simp only [r_bind, r_pure, r_c, r_var, r_bin, r_u, r_test, r_frz, r_nil, r_cons, r_guard, r_tup, r_lst, r_nopart, r_part, r_sl, r_and, r_or, r_not, r_mite, r_andV, r_notV, r_pop, r_app, r_shr', r_call, rf_fun, r_snil, then_nx, then_rt, r_seq, r_drop, r_set, r_own', r_fix', r_to, r_ret, r_if, r_for, r_for0, r_sub, r_par3, r_par, r_frzT, r_frzF, r_it, r_enum, r_rng, r_comp, op_some, op_none, op_ite, op_map, pk_non, pk_bl, pk_int, pk_str, pk_tup, pk_lst, pk_tmp, pk_scr, pk_own, pkO_some, pk_ref, pkR_some, rd_val, rd_own, fz_non, fz_bl, fz_int, fz_str, fz_tup, fz_lst, fz_tmp, fz_ref, fz_scr, gl_own, gO_some, gl_ref, gR_some, sl_own, sl_ref, ab_bl, ai_int, it_tup, it_lst, it_tmp, it_scr, put_n, put_p, put_t, put_int, put_lst, put_tup, own_tmp, fix_own, shr_tmp, ret_nx, ret_rt, add_ii, add_ll, add_tt, sub_ii, mul_ii, mul_li, mul_ti, div_ii, mod_ii, pow_ii, ints_ii, eq_ii, ne_ii, is_non, is_int, is_tup, is_intB, not_non, not_tup, ix_l, ix_t, sl_l, sl_t, sl_s, rev_l, neg_i, len_l, len_t, int_i, abs_i, tup_l, tup_t, lst_l, lst_t, sum_l, toInts_int, zip_tt, rng_1, rng_2, rng_3, isi_int_int, isi_str_int, isi_bool_int, isi_tup_int, isi_tup_tup, isiC_int, isiC_tup, isiA_int, List.getElem?_cons_zero, List.getElem?_cons_succ, List.set_cons_zero, List.set_cons_succ, List.map_cons, List.map_nil, List.replicate_succ, List.replicate_zero, List.cons_append, List.nil_append, List.length_cons, List.length_nil, Nat.reduceAdd, Nat.reduceSub, Nat.reduceEqDiff, decide_eq_true_eq, Bool.not_eq_true', Bool.not_false, Bool.not_true, decide_eq_false_iff_not, true_and, and_true, true_or, or_true, reduceIte, Bool.false_eq_true, Int.reduceLT, Int.reduceLE, Nat.reduceLT, Nat.reduceLeDiff, Int.reduceEq, Int.reduceNe]
  rw [if_neg (by omega)]
  refine ⟨by rw [iL_len]; unfold B62; omega, ?_⟩
  have e : (((iL os).length : Int) - (p : Int)).toNat = (os.drop p).length := by
    rw [iL_len, List.length_drop]
    omega
  rw [e]
  refine behind_loop h os _ (os.drop p) p _ _ rfl ?_
  cases hr : rdN (os.drop p) with
  | none =>
    rw [hr] at hp
    intro c
    simp only [r_bind, r_pure, r_c, r_var, r_bin, r_u, r_test, r_frz, r_nil, r_cons, r_guard, r_tup, r_lst, r_nopart, r_part, r_sl, r_and, r_or, r_not, r_mite, r_andV, r_notV, r_pop, r_app, r_shr', r_call, rf_fun, r_snil, then_nx, then_rt, r_seq, r_drop, r_set, r_own', r_fix', r_to, r_ret, r_if, r_for, r_for0, r_sub, r_par3, r_par, r_frzT, r_frzF, r_it, r_enum, r_rng, r_comp, op_some, op_none, op_ite, op_map, pk_non, pk_bl, pk_int, pk_str, pk_tup, pk_lst, pk_tmp, pk_scr, pk_own, pkO_some, pk_ref, pkR_some, rd_val, rd_own, fz_non, fz_bl, fz_int, fz_str, fz_tup, fz_lst, fz_tmp, fz_ref, fz_scr, gl_own, gO_some, gl_ref, gR_some, sl_own, sl_ref, ab_bl, ai_int, it_tup, it_lst, it_tmp, it_scr, put_n, put_p, put_t, put_int, put_lst, put_tup, own_tmp, fix_own, shr_tmp, ret_nx, ret_rt, add_ii, add_ll, add_tt, sub_ii, mul_ii, mul_li, mul_ti, div_ii, mod_ii, pow_ii, ints_ii, eq_ii, ne_ii, is_non, is_int, is_tup, is_intB, not_non, not_tup, ix_l, ix_t, sl_l, sl_t, sl_s, rev_l, neg_i, len_l, len_t, int_i, abs_i, tup_l, tup_t, lst_l, lst_t, sum_l, toInts_int, zip_tt, rng_1, rng_2, rng_3, isi_int_int, isi_str_int, isi_bool_int, isi_tup_int, isi_tup_tup, isiC_int, isiC_tup, isiA_int, List.getElem?_cons_zero, List.getElem?_cons_succ, List.set_cons_zero, List.set_cons_succ, List.map_cons, List.map_nil, List.replicate_succ, List.replicate_zero, List.cons_append, List.nil_append, List.length_cons, List.length_nil, Nat.reduceAdd, Nat.reduceSub, Nat.reduceEqDiff, decide_eq_true_eq, Bool.not_eq_true', Bool.not_false, Bool.not_true, decide_eq_false_iff_not, true_and, and_true, true_or, or_true, reduceIte, Bool.false_eq_true, Int.reduceLT, Int.reduceLE, Nat.reduceLT, Nat.reduceLeDiff, Int.reduceEq, Int.reduceNe]
    exact hp
  | some q =>
    rw [hr] at hp
    intro s hs
    simp only [r_bind, r_pure, r_c, r_var, r_bin, r_u, r_test, r_frz, r_nil, r_cons, r_guard, r_tup, r_lst, r_nopart, r_part, r_sl, r_and, r_or, r_not, r_mite, r_andV, r_notV, r_pop, r_app, r_shr', r_call, rf_fun, r_snil, then_nx, then_rt, r_seq, r_drop, r_set, r_own', r_fix', r_to, r_ret, r_if, r_for, r_for0, r_sub, r_par3, r_par, r_frzT, r_frzF, r_it, r_enum, r_rng, r_comp, op_some, op_none, op_ite, op_map, pk_non, pk_bl, pk_int, pk_str, pk_tup, pk_lst, pk_tmp, pk_scr, pk_own, pkO_some, pk_ref, pkR_some, rd_val, rd_own, fz_non, fz_bl, fz_int, fz_str, fz_tup, fz_lst, fz_tmp, fz_ref, fz_scr, gl_own, gO_some, gl_ref, gR_some, sl_own, sl_ref, ab_bl, ai_int, it_tup, it_lst, it_tmp, it_scr, put_n, put_p, put_t, put_int, put_lst, put_tup, own_tmp, fix_own, shr_tmp, ret_nx, ret_rt, add_ii, add_ll, add_tt, sub_ii, mul_ii, mul_li, mul_ti, div_ii, mod_ii, pow_ii, ints_ii, eq_ii, ne_ii, is_non, is_int, is_tup, is_intB, not_non, not_tup, ix_l, ix_t, sl_l, sl_t, sl_s, rev_l, neg_i, len_l, len_t, int_i, abs_i, tup_l, tup_t, lst_l, lst_t, sum_l, toInts_int, zip_tt, rng_1, rng_2, rng_3, isi_int_int, isi_str_int, isi_bool_int, isi_tup_int, isi_tup_tup, isiC_int, isiC_tup, isiA_int, List.getElem?_cons_zero, List.getElem?_cons_succ, List.set_cons_zero, List.set_cons_succ, List.map_cons, List.map_nil, List.replicate_succ, List.replicate_zero, List.cons_append, List.nil_append, List.length_cons, List.length_nil, Nat.reduceAdd, Nat.reduceSub, Nat.reduceEqDiff, decide_eq_true_eq, Bool.not_eq_true', Bool.not_false, Bool.not_true, decide_eq_false_iff_not, true_and, and_true, true_or, or_true, reduceIte, Bool.false_eq_true, Int.reduceLT, Int.reduceLE, Nat.reduceLT, Nat.reduceLeDiff, Int.reduceEq, Int.reduceNe]
    rw [hs]
    exact hp
/-! ### number_of -/
def pr (b : Int) : List Int → List Int
  | x :: y :: r => (x + b * y) :: pr b r
  | [x] => [x]
  | [] => []
def prE (b : Int) : List Int → List Int
  | x :: y :: r => (x + b * y) :: prE b r
  | _ => []
theorem pr_V (b : Int) : ∀ row : List Int, V (b * b) (pr b row) = V b row
  | [] => rfl
  | [x] => by
    show x + b * b * 0 = x + b * 0
    simp
  | x :: y :: r => by
    show (x + b * y) + b * b * V (b * b) (pr b r) = x + b * (y + b * V b r)
    rw [pr_V b r, Int.mul_add, Int.mul_assoc]
    omega
theorem pr_len (b : Int) : ∀ row : List Int, (pr b row).length = (row.length + 1) / 2
  | [] => rfl
  | [x] => by simp [pr]
  | x :: y :: r => by
    show (pr b r).length + 1 = (r.length + 1 + 1 + 1) / 2
    rw [pr_len b r]
    omega
theorem pr_bd {e : Nat} : ∀ row : List Int, (∀ x ∈ row, 0 ≤ x ∧ x < (2 : Int) ^ e) → ∀ x ∈ pr ((2 : Int) ^ e) row, 0 ≤ x ∧ x < (2 : Int) ^ (e + e)
  | [], _, x, hx => by cases hx
  | [y], h, x, hx => by
    have : x = y := by simpa [pr] using hx
    subst this
    have h1 := h x (by simp)
    have h2 : (1 : Int) ≤ (2 : Int) ^ e := by exact_mod_cast Nat.one_le_two_pow
    rw [Int.pow_add]
    have h3 : (2 : Int) ^ e * 1 ≤ (2 : Int) ^ e * (2 : Int) ^ e := Int.mul_le_mul_of_nonneg_left h2 (by omega)
    omega
  | y :: z :: r, h, x, hx => by
    have hy := h y (by simp)
    have hz := h z (by simp)
    rcases List.mem_cons.mp (show x ∈ (y + (2 : Int) ^ e * z) :: pr _ r from hx) with rfl | hx
    · have h0 : (0 : Int) ≤ (2 : Int) ^ e := by omega
      have h3 : (2 : Int) ^ e * (z + 1) ≤ (2 : Int) ^ e * (2 : Int) ^ e := Int.mul_le_mul_of_nonneg_left (by omega) h0
      have h4 : (0 : Int) ≤ (2 : Int) ^ e * z := Int.mul_nonneg h0 hz.1
      rw [Int.pow_add]
      rw [Int.mul_add, Int.mul_one] at h3
      omega
    · exact pr_bd r (fun w hw => h w (by simp [hw])) x hx
theorem log_bd {x : Int} {e : Nat} (h0 : 0 ≤ x) (h1 : x < (2 : Int) ^ e) : x.natAbs.log2 ≤ e := by
  by_cases hz : x.natAbs = 0
  · rw [hz]
    simp
  · have : x.natAbs < 2 ^ e := by
      have e1 : ((x.natAbs : Nat) : Int) = x := Int.natAbs_of_nonneg h0
      have : ((x.natAbs : Nat) : Int) < ((2 ^ e : Nat) : Int) := by rw [e1]; exact_mod_cast h1
      exact_mod_cast this
    exact Nat.le_of_lt ((Nat.log2_lt hz).mpr this)
theorem log_pow (e : Nat) : ((2 : Int) ^ e).natAbs.log2 = e := by
  rw [Int.natAbs_pow]
  exact Nat.log2_two_pow
theorem mul_log {x y : Int} {e : Nat} (hx : x.natAbs.log2 ≤ e) (hy : y.natAbs.log2 ≤ e) (he : e + e < 1000000) : (mulOk x y = true) = True := by
  unfold mulOk
  simp only [Bool.or_eq_true, decide_eq_true_eq, eq_iff_iff, iff_true]
  right
  omega
theorem num_comp (h : List Cell) (row : List Int) (e : Nat) (a c d : Option Sl) (hb : ∀ x ∈ row, 0 ≤ x ∧ x < (2 : Int) ^ e) (he : e + e < 1000000) (hl : row.length < 900000) : ∀ (rest : List Int) (p : Nat) (acc : List Int) (P : List Dv × List Cell → Prop), row.drop p = rest → acc.length ≤ p → P (iL (acc ++ prE ((2 : Int) ^ e) rest), h) →
    OP (compL (putN 4) [4] (Mo.pure true) (mBin gAdd (mBin gIx (mVar 1) (mVar 4)) (mBin gMul (mVar 2) (mBin gIx (mVar 1) (mBin gAdd (mVar 4) (mC (.int 1)))))) [a, some (Sl.val (.lst (iL row))), some (Sl.val (.int ((2 : Int) ^ e))), c, d] (rngD p 2 (rest.length / 2)) (iL acc) h) P
  | [], p, acc, P, hd, ha, hp => by
    show P (iL acc, h)
    simpa [prE] using hp
  | [x], p, acc, P, hd, ha, hp => by
    rw [show [x].length / 2 = 0 by simp]
    show P (iL acc, h)
    simpa [prE] using hp
  | x :: y :: r, p, acc, P, hd, ha, hp => by
    obtain ⟨h1, h2, h3⟩ := drop_hd hd
    obtain ⟨h4, h5, h6⟩ := drop_hd h3
    have hy := hb y (List.mem_of_getElem? h5)
    have e1 : (x :: y :: r).length / 2 = r.length / 2 + 1 := by rw [List.length_cons, List.length_cons]; omega
    rw [e1]
    show OP (compL _ _ _ _ _ (.int p :: rngD ((p : Int) + 2) 2 (r.length / 2)) _ _) P
    rw [comp_cons]
    have hid : hideE [4] [a, some (Sl.val (.lst (iL row))), some (Sl.val (.int ((2 : Int) ^ e))), c, d] = [h1E a, some (Sl.val (.lst (iL row))), some (Sl.val (.int ((2 : Int) ^ e))), h1E c, none] := rfl
    rw [hid]
    have e2 : ((p : Int) + 1) = ((p + 1 : Nat) : Int) := by omega
    simp only [r_bind, r_pure, r_c, r_var, r_bin, r_u, r_test, r_frz, r_nil, r_cons, r_guard, r_tup, r_lst, r_nopart, r_part, r_sl, r_and, r_or, r_not, r_mite, r_andV, r_notV, r_pop, r_app, r_shr', r_call, rf_fun, r_snil, then_nx, then_rt, r_seq, r_drop, r_set, r_own', r_fix', r_to, r_ret, r_if, r_for, r_for0, r_sub, r_par3, r_par, r_frzT, r_frzF, r_it, r_enum, r_rng, r_comp, op_some, op_none, op_ite, op_map, pk_non, pk_bl, pk_int, pk_str, pk_tup, pk_lst, pk_tmp, pk_scr, pk_own, pkO_some, pk_ref, pkR_some, rd_val, rd_own, fz_non, fz_bl, fz_int, fz_str, fz_tup, fz_lst, fz_tmp, fz_ref, fz_scr, gl_own, gO_some, gl_ref, gR_some, sl_own, sl_ref, ab_bl, ai_int, it_tup, it_lst, it_tmp, it_scr, put_n, put_p, put_t, put_int, put_lst, put_tup, own_tmp, fix_own, shr_tmp, ret_nx, ret_rt, add_ii, add_ll, add_tt, sub_ii, mul_ii, mul_li, mul_ti, div_ii, mod_ii, pow_ii, ints_ii, eq_ii, ne_ii, is_non, is_int, is_tup, is_intB, not_non, not_tup, ix_l, ix_t, sl_l, sl_t, sl_s, rev_l, neg_i, len_l, len_t, int_i, abs_i, tup_l, tup_t, lst_l, lst_t, sum_l, toInts_int, zip_tt, rng_1, rng_2, rng_3, isi_int_int, isi_str_int, isi_bool_int, isi_tup_int, isi_tup_tup, isiC_int, isiC_tup, isiA_int, List.getElem?_cons_zero, List.getElem?_cons_succ, List.set_cons_zero, List.set_cons_succ, List.map_cons, List.map_nil, List.replicate_succ, List.replicate_zero, List.cons_append, List.nil_append, List.length_cons, List.length_nil, Nat.reduceAdd, Nat.reduceSub, Nat.reduceEqDiff, decide_eq_true_eq, Bool.not_eq_true', Bool.not_false, Bool.not_true, decide_eq_false_iff_not, true_and, and_true, true_or, or_true, reduceIte, Bool.false_eq_true, Int.reduceLT, Int.reduceLE, Nat.reduceLT, Nat.reduceLeDiff, Int.reduceEq, Int.reduceNe, e2, at_nat, iL_get, h2, h5, Option.map_some]
    rw [mul_log (e := e) (by rw [log_pow]; exact Nat.le_refl _) (log_bd hy.1 hy.2) he]
    simp only [r_bind, r_pure, r_c, r_var, r_bin, r_u, r_test, r_frz, r_nil, r_cons, r_guard, r_tup, r_lst, r_nopart, r_part, r_sl, r_and, r_or, r_not, r_mite, r_andV, r_notV, r_pop, r_app, r_shr', r_call, rf_fun, r_snil, then_nx, then_rt, r_seq, r_drop, r_set, r_own', r_fix', r_to, r_ret, r_if, r_for, r_for0, r_sub, r_par3, r_par, r_frzT, r_frzF, r_it, r_enum, r_rng, r_comp, op_some, op_none, op_ite, op_map, pk_non, pk_bl, pk_int, pk_str, pk_tup, pk_lst, pk_tmp, pk_scr, pk_own, pkO_some, pk_ref, pkR_some, rd_val, rd_own, fz_non, fz_bl, fz_int, fz_str, fz_tup, fz_lst, fz_tmp, fz_ref, fz_scr, gl_own, gO_some, gl_ref, gR_some, sl_own, sl_ref, ab_bl, ai_int, it_tup, it_lst, it_tmp, it_scr, put_n, put_p, put_t, put_int, put_lst, put_tup, own_tmp, fix_own, shr_tmp, ret_nx, ret_rt, add_ii, add_ll, add_tt, sub_ii, mul_ii, mul_li, mul_ti, div_ii, mod_ii, pow_ii, ints_ii, eq_ii, ne_ii, is_non, is_int, is_tup, is_intB, not_non, not_tup, ix_l, ix_t, sl_l, sl_t, sl_s, rev_l, neg_i, len_l, len_t, int_i, abs_i, tup_l, tup_t, lst_l, lst_t, sum_l, toInts_int, zip_tt, rng_1, rng_2, rng_3, isi_int_int, isi_str_int, isi_bool_int, isi_tup_int, isi_tup_tup, isiC_int, isiC_tup, isiA_int, List.getElem?_cons_zero, List.getElem?_cons_succ, List.set_cons_zero, List.set_cons_succ, List.map_cons, List.map_nil, List.replicate_succ, List.replicate_zero, List.cons_append, List.nil_append, List.length_cons, List.length_nil, Nat.reduceAdd, Nat.reduceSub, Nat.reduceEqDiff, decide_eq_true_eq, Bool.not_eq_true', Bool.not_false, Bool.not_true, decide_eq_false_iff_not, true_and, and_true, true_or, or_true, reduceIte, Bool.false_eq_true, Int.reduceLT, Int.reduceLE, Nat.reduceLT, Nat.reduceLeDiff, Int.reduceEq, Int.reduceNe]
    refine ⟨by rw [iL_len, lim_is]; omega, ?_⟩
    have e3 : iL acc ++ [Dv.int (x + (2 : Int) ^ e * y)] = iL (acc ++ [x + (2 : Int) ^ e * y]) := by rw [iL_app] <;> rfl
    rw [e3]
    have := num_comp h row e a c d hb he hl r (p + 2) (acc ++ [x + (2 : Int) ^ e * y]) P h6 (by rw [List.length_append, List.length_singleton]; omega) (by rw [List.append_assoc]; exact hp)
    exact this
theorem prE_odd (b : Int) : ∀ row : List Int, row.length % 2 = 1 → ∃ z, row[row.length - 1]? = some z ∧ prE b row ++ [z] = pr b row
  | [], h => by simp at h
  | [x], _ => ⟨x, rfl, rfl⟩
  | x :: y :: r, h => by
    obtain ⟨z, h1, h2⟩ := prE_odd b r (by rw [List.length_cons, List.length_cons] at h; omega)
    have hr : 1 ≤ r.length := by rw [List.length_cons, List.length_cons] at h; omega
    refine ⟨z, ?_, ?_⟩
    · have : (x :: y :: r).length - 1 = (r.length - 1) + 1 + 1 := by rw [List.length_cons, List.length_cons]; omega
      rw [this, List.getElem?_cons_succ, List.getElem?_cons_succ]
      exact h1
    · show (x + b * y) :: (prE b r ++ [z]) = (x + b * y) :: pr b r
      rw [h2]
theorem prE_even (b : Int) : ∀ row : List Int, row.length % 2 ≠ 1 → prE b row = pr b row
  | [], _ => rfl
  | [x], h => by simp at h
  | x :: y :: r, h => by
    show (x + b * y) :: prE b r = (x + b * y) :: pr b r
    rw [prE_even b r (by rw [List.length_cons, List.length_cons] at h; omega)]
theorem prE_len (b : Int) : ∀ row : List Int, (prE b row).length ≤ row.length
  | [] => Nat.le_refl _
  | [x] => Nat.zero_le _
  | x :: y :: r => by
    have := prE_len b r
    show (prE b r).length + 1 ≤ r.length + 1 + 1
    omega
theorem num_loop (h : List Cell) : ∀ (f : Nat) (row : List Int) (e : Nat) (a c d : Option Sl) (P : Fl → Mem → Prop), row.length ≤ f → 1 ≤ row.length → row.length < 900000 → e * (row.length - 1) < 400000 → 1 ≤ e → (∀ x ∈ row, 0 ≤ x ∧ x < (2 : Int) ^ e) →
    (∀ a c d b, P .nx ⟨[a, some (.val (.lst [.int (V ((2 : Int) ^ e) row)])), b, c, d], h⟩) →
    R (sLoop C_number_of1 L_number_of1) ⟨[a, some (.val (.lst (iL row))), some (.val (.int ((2 : Int) ^ e))), c, d], h⟩ P
  | f, row, e, a, c, d, P, hf, h1, hl, he, he1, hb, hp => by
    refine r_loopg fun lp hlp => ?_
    unfold C_number_of1 L_number_of1
    simp only [r_bind, r_pure, r_c, r_var, r_bin, r_u, r_test, r_frz, r_nil, r_cons, r_guard, r_tup, r_lst, r_nopart, r_part, r_sl, r_and, r_or, r_not, r_mite, r_andV, r_notV, r_pop, r_app, r_shr', r_call, rf_fun, r_snil, then_nx, then_rt, r_seq, r_drop, r_set, r_own', r_fix', r_to, r_ret, r_if, r_for, r_for0, r_sub, r_par3, r_par, r_frzT, r_frzF, r_it, r_enum, r_rng, r_comp, op_some, op_none, op_ite, op_map, pk_non, pk_bl, pk_int, pk_str, pk_tup, pk_lst, pk_tmp, pk_scr, pk_own, pkO_some, pk_ref, pkR_some, rd_val, rd_own, fz_non, fz_bl, fz_int, fz_str, fz_tup, fz_lst, fz_tmp, fz_ref, fz_scr, gl_own, gO_some, gl_ref, gR_some, sl_own, sl_ref, ab_bl, ai_int, it_tup, it_lst, it_tmp, it_scr, put_n, put_p, put_t, put_int, put_lst, put_tup, own_tmp, fix_own, shr_tmp, ret_nx, ret_rt, add_ii, add_ll, add_tt, sub_ii, mul_ii, mul_li, mul_ti, div_ii, mod_ii, pow_ii, ints_ii, eq_ii, ne_ii, is_non, is_int, is_tup, is_intB, not_non, not_tup, ix_l, ix_t, sl_l, sl_t, sl_s, rev_l, neg_i, len_l, len_t, int_i, abs_i, tup_l, tup_t, lst_l, lst_t, sum_l, toInts_int, zip_tt, rng_1, rng_2, rng_3, isi_int_int, isi_str_int, isi_bool_int, isi_tup_int, isi_tup_tup, isiC_int, isiC_tup, isiA_int, List.getElem?_cons_zero, List.getElem?_cons_succ, List.set_cons_zero, List.set_cons_succ, List.map_cons, List.map_nil, List.replicate_succ, List.replicate_zero, List.cons_append, List.nil_append, List.length_cons, List.length_nil, Nat.reduceAdd, Nat.reduceSub, Nat.reduceEqDiff, decide_eq_true_eq, Bool.not_eq_true', Bool.not_false, Bool.not_true, decide_eq_false_iff_not, true_and, and_true, true_or, or_true, reduceIte, Bool.false_eq_true, Int.reduceLT, Int.reduceLE, Nat.reduceLT, Nat.reduceLeDiff, Int.reduceEq, Int.reduceNe, iL_len]
    by_cases h2 : 1 < row.length
    · rw [if_pos (by omega)]
      have he2 : e < 400000 := Nat.lt_of_le_of_lt (Nat.le_mul_of_pos_right e (by omega)) he
      refine ⟨⟨by unfold B62; omega, by unfold B62; omega, by unfold B62; omega, by unfold B62; omega⟩, ?_⟩
      have e1 : (((row.length : Int) - 1 - 0 + 1) / 2).toNat = row.length / 2 := by omega
      rw [e1]
      refine num_comp h row e a c d hb (by omega) hl row 0 [] _ rfl (Nat.le_refl _) ?_
      have hpw : (2 : Int) ^ e * (2 : Int) ^ e = (2 : Int) ^ (e + e) := (Int.pow_add ..).symm
      have hml := mul_log (x := (2 : Int) ^ e) (y := (2 : Int) ^ e) (e := e) (by rw [log_pow]; exact Nat.le_refl _) (by rw [log_pow]; exact Nat.le_refl _) (by omega)
      have hlen := prE_len ((2 : Int) ^ e) row
      have hpl := pr_len ((2 : Int) ^ e) row
      have step : ∀ c d, R lp ⟨[a, some (.val (.lst (iL (pr ((2 : Int) ^ e) row)))), some (.val (.int ((2 : Int) ^ (e + e)))), c, d], h⟩ P := fun c d => by
        subst hlp
        match f, hf with
        | 0, hf => omega
        | f + 1, hf =>
          refine num_loop h f _ (e + e) a c d P (by rw [hpl]; omega) (by rw [hpl]; omega) (by rw [hpl]; omega) ?_ (by omega) (pr_bd row hb) fun a c d b => ?_
          · rw [hpl]
            have h5 : (row.length + 1) / 2 - 1 ≤ (row.length - 1) / 2 := by omega
            have h6 : (e + e) * ((row.length + 1) / 2 - 1) ≤ (e + e) * ((row.length - 1) / 2) := Nat.mul_le_mul_left _ h5
            have h7 : (e + e) * ((row.length - 1) / 2) = e * (2 * ((row.length - 1) / 2)) := by rw [← Nat.two_mul, Nat.mul_comm 2 e, Nat.mul_assoc]
            have h8 : e * (2 * ((row.length - 1) / 2)) ≤ e * (row.length - 1) := Nat.mul_le_mul_left _ (by omega)
            omega
          · rw [← hpw, pr_V]
            exact hp a c d b
      by_cases ho : row.length % 2 = 1
      · rw [if_pos (by omega)]
        obtain ⟨z, hz, hpz⟩ := prE_odd ((2 : Int) ^ e) row ho
        have e2 : ((row.length : Int) - 1) = ((row.length - 1 : Nat) : Int) := by omega
        simp only [r_bind, r_pure, r_c, r_var, r_bin, r_u, r_test, r_frz, r_nil, r_cons, r_guard, r_tup, r_lst, r_nopart, r_part, r_sl, r_and, r_or, r_not, r_mite, r_andV, r_notV, r_pop, r_app, r_shr', r_call, rf_fun, r_snil, then_nx, then_rt, r_seq, r_drop, r_set, r_own', r_fix', r_to, r_ret, r_if, r_for, r_for0, r_sub, r_par3, r_par, r_frzT, r_frzF, r_it, r_enum, r_rng, r_comp, op_some, op_none, op_ite, op_map, pk_non, pk_bl, pk_int, pk_str, pk_tup, pk_lst, pk_tmp, pk_scr, pk_own, pkO_some, pk_ref, pkR_some, rd_val, rd_own, fz_non, fz_bl, fz_int, fz_str, fz_tup, fz_lst, fz_tmp, fz_ref, fz_scr, gl_own, gO_some, gl_ref, gR_some, sl_own, sl_ref, ab_bl, ai_int, it_tup, it_lst, it_tmp, it_scr, put_n, put_p, put_t, put_int, put_lst, put_tup, own_tmp, fix_own, shr_tmp, ret_nx, ret_rt, add_ii, add_ll, add_tt, sub_ii, mul_ii, mul_li, mul_ti, div_ii, mod_ii, pow_ii, ints_ii, eq_ii, ne_ii, is_non, is_int, is_tup, is_intB, not_non, not_tup, ix_l, ix_t, sl_l, sl_t, sl_s, rev_l, neg_i, len_l, len_t, int_i, abs_i, tup_l, tup_t, lst_l, lst_t, sum_l, toInts_int, zip_tt, rng_1, rng_2, rng_3, isi_int_int, isi_str_int, isi_bool_int, isi_tup_int, isi_tup_tup, isiC_int, isiC_tup, isiA_int, List.getElem?_cons_zero, List.getElem?_cons_succ, List.set_cons_zero, List.set_cons_succ, List.map_cons, List.map_nil, List.replicate_succ, List.replicate_zero, List.cons_append, List.nil_append, List.length_cons, List.length_nil, Nat.reduceAdd, Nat.reduceSub, Nat.reduceEqDiff, decide_eq_true_eq, Bool.not_eq_true', Bool.not_false, Bool.not_true, decide_eq_false_iff_not, true_and, and_true, true_or, or_true, reduceIte, Bool.false_eq_true, Int.reduceLT, Int.reduceLE, Nat.reduceLT, Nat.reduceLeDiff, Int.reduceEq, Int.reduceNe, e2, at_nat, iL_get, hz, Option.map_some]
        refine ⟨by rw [iL_len, lim_is]; omega, ?_⟩
        rw [hml]
        refine ⟨trivial, ?_⟩
        have e3 : iL (prE ((2 : Int) ^ e) row) ++ [Dv.int z] = iL (pr ((2 : Int) ^ e) row) := by rw [← hpz, iL_app] <;> rfl
        rw [e3, hpw]
        exact step _ _
      · rw [if_neg (by omega), hml]
        refine ⟨trivial, ?_⟩
        have e3 : iL ([] ++ prE ((2 : Int) ^ e) row) = iL (pr ((2 : Int) ^ e) row) := by rw [← prE_even _ row ho] <;> rfl
        dsimp only
        rw [e3, hpw]
        exact step _ _
    · rw [if_neg (by omega)]
      match row, h1, h2, hp with
      | [x], _, _, hp =>
        have := hp a c d (some (.val (.int ((2 : Int) ^ e))))
        have e1 : V ((2 : Int) ^ e) [x] = x := by
          show x + (2 : Int) ^ e * 0 = x
          simp
        rw [e1] at this
        exact this
      | _ :: _ :: _, _, h2, _ => exact absurd (by simp) h2
theorem numof_ok {h : List Cell} {P : Dv → List Cell → Prop} {fs : List Int} (h1 : 1 ≤ fs.length) (hl : fs.length < 50000) (hb : ∀ x ∈ fs, 0 ≤ x ∧ x < 128) (hp : P (.int (V 128 fs)) h) : RF (M_number_of [.lst (iL fs)] h) P := by
  unfold M_number_of B_number_of
  simp only [r_bind, r_pure, r_c, r_var, r_bin, r_u, r_test, r_frz, r_nil, r_cons, r_guard, r_tup, r_lst, r_nopart, r_part, r_sl, r_and, r_or, r_not, r_mite, r_andV, r_notV, r_pop, r_app, r_shr', r_call, rf_fun, r_snil, then_nx, then_rt, r_seq, r_drop, r_set, r_own', r_fix', r_to, r_ret, r_if, r_for, r_for0, r_sub, r_par3, r_par, r_frzT, r_frzF, r_it, r_enum, r_rng, r_comp, op_some, op_none, op_ite, op_map, pk_non, pk_bl, pk_int, pk_str, pk_tup, pk_lst, pk_tmp, pk_scr, pk_own, pkO_some, pk_ref, pkR_some, rd_val, rd_own, fz_non, fz_bl, fz_int, fz_str, fz_tup, fz_lst, fz_tmp, fz_ref, fz_scr, gl_own, gO_some, gl_ref, gR_some, sl_own, sl_ref, ab_bl, ai_int, it_tup, it_lst, it_tmp, it_scr, put_n, put_p, put_t, put_int, put_lst, put_tup, own_tmp, fix_own, shr_tmp, ret_nx, ret_rt, add_ii, add_ll, add_tt, sub_ii, mul_ii, mul_li, mul_ti, div_ii, mod_ii, pow_ii, ints_ii, eq_ii, ne_ii, is_non, is_int, is_tup, is_intB, not_non, not_tup, ix_l, ix_t, sl_l, sl_t, sl_s, rev_l, neg_i, len_l, len_t, int_i, abs_i, tup_l, tup_t, lst_l, lst_t, sum_l, toInts_int, zip_tt, rng_1, rng_2, rng_3, isi_int_int, isi_str_int, isi_bool_int, isi_tup_int, isi_tup_tup, isiC_int, isiC_tup, isiA_int, List.getElem?_cons_zero, List.getElem?_cons_succ, List.set_cons_zero, List.set_cons_succ, List.map_cons, List.map_nil, List.replicate_succ, List.replicate_zero, List.cons_append, List.nil_append, List.length_cons, List.length_nil, Nat.reduceAdd, Nat.reduceSub, Nat.reduceEqDiff, decide_eq_true_eq, Bool.not_eq_true', Bool.not_false, Bool.not_true, decide_eq_false_iff_not, true_and, and_true, true_or, or_true, reduceIte, Bool.false_eq_true, Int.reduceLT, Int.reduceLE, Nat.reduceLT, Nat.reduceLeDiff, Int.reduceEq, Int.reduceNe]
  refine ⟨by rw [lim_is]; omega, ?_⟩
  refine num_loop h fs.length fs 7 _ none none _ (Nat.le_refl _) h1 (by omega) (by omega) (by omega) hb fun a c d b => ?_
  simp only [r_bind, r_pure, r_c, r_var, r_bin, r_u, r_test, r_frz, r_nil, r_cons, r_guard, r_tup, r_lst, r_nopart, r_part, r_sl, r_and, r_or, r_not, r_mite, r_andV, r_notV, r_pop, r_app, r_shr', r_call, rf_fun, r_snil, then_nx, then_rt, r_seq, r_drop, r_set, r_own', r_fix', r_to, r_ret, r_if, r_for, r_for0, r_sub, r_par3, r_par, r_frzT, r_frzF, r_it, r_enum, r_rng, r_comp, op_some, op_none, op_ite, op_map, pk_non, pk_bl, pk_int, pk_str, pk_tup, pk_lst, pk_tmp, pk_scr, pk_own, pkO_some, pk_ref, pkR_some, rd_val, rd_own, fz_non, fz_bl, fz_int, fz_str, fz_tup, fz_lst, fz_tmp, fz_ref, fz_scr, gl_own, gO_some, gl_ref, gR_some, sl_own, sl_ref, ab_bl, ai_int, it_tup, it_lst, it_tmp, it_scr, put_n, put_p, put_t, put_int, put_lst, put_tup, own_tmp, fix_own, shr_tmp, ret_nx, ret_rt, add_ii, add_ll, add_tt, sub_ii, mul_ii, mul_li, mul_ti, div_ii, mod_ii, pow_ii, ints_ii, eq_ii, ne_ii, is_non, is_int, is_tup, is_intB, not_non, not_tup, ix_l, ix_t, sl_l, sl_t, sl_s, rev_l, neg_i, len_l, len_t, int_i, abs_i, tup_l, tup_t, lst_l, lst_t, sum_l, toInts_int, zip_tt, rng_1, rng_2, rng_3, isi_int_int, isi_str_int, isi_bool_int, isi_tup_int, isi_tup_tup, isiC_int, isiC_tup, isiA_int, List.getElem?_cons_zero, List.getElem?_cons_succ, List.set_cons_zero, List.set_cons_succ, List.map_cons, List.map_nil, List.replicate_succ, List.replicate_zero, List.cons_append, List.nil_append, List.length_cons, List.length_nil, Nat.reduceAdd, Nat.reduceSub, Nat.reduceEqDiff, decide_eq_true_eq, Bool.not_eq_true', Bool.not_false, Bool.not_true, decide_eq_false_iff_not, true_and, and_true, true_or, or_true, reduceIte, Bool.false_eq_true, Int.reduceLT, Int.reduceLE, Nat.reduceLT, Nat.reduceLeDiff, Int.reduceEq, Int.reduceNe, at_0]
  exact hp
end K74

set_option Elab.async false
set_option linter.all false
set_option maxRecDepth 100000
set_option maxHeartbeats 4000000
namespace K74
open PySem PySem.Spec L2 Mir
theorem get_drop {os : List Int} {p i : Nat} : (os.drop p)[i]? = os[p + i]? := List.getElem?_drop
theorem iL_figs (rest : List Int) (k : Nat) : (iL (rest.take k)).map (fun d => match d with | .int x => Dv.int (x - 128) | d => d) = iL ((rest.take k).map (· - 128)) := by
  unfold iL
  rw [List.map_map, List.map_map]
  rfl
theorem numin_ok {h : List Cell} {P : Dv → List Cell → Prop} {os : List Int} {p : Nat} (ho : Oc os) (hl : os.length < 40000) (hpl : p ≤ os.length) (hp : match numL (os.drop p) with | none => P .non h | some (v, k) => P (.tup [.int v, .int ((p + k : Nat) : Int)]) h) : RF (M_number_in [.tup (iL os), .int p] h) P := by
  unfold M_number_in B_number_in
  simp only [r_bind, r_pure, r_c, r_var, r_bin, r_u, r_test, r_frz, r_nil, r_cons, r_guard, r_tup, r_lst, r_nopart, r_part, r_sl, r_and, r_or, r_not, r_mite, r_andV, r_notV, r_pop, r_app, r_shr', r_call, rf_fun, r_snil, then_nx, then_rt, r_seq, r_drop, r_set, r_own', r_fix', r_to, r_ret, r_if, r_for, r_for0, r_sub, r_par3, r_par, r_frzT, r_frzF, r_it, r_enum, r_rng, r_comp, op_some, op_none, op_ite, op_map, pk_non, pk_bl, pk_int, pk_str, pk_tup, pk_lst, pk_tmp, pk_scr, pk_own, pkO_some, pk_ref, pkR_some, rd_val, rd_own, fz_non, fz_bl, fz_int, fz_str, fz_tup, fz_lst, fz_tmp, fz_ref, fz_scr, gl_own, gO_some, gl_ref, gR_some, sl_own, sl_ref, ab_bl, ai_int, it_tup, it_lst, it_tmp, it_scr, put_n, put_p, put_t, put_int, put_lst, put_tup, own_tmp, fix_own, shr_tmp, ret_nx, ret_rt, add_ii, add_ll, add_tt, sub_ii, mul_ii, mul_li, mul_ti, div_ii, mod_ii, pow_ii, ints_ii, eq_ii, ne_ii, is_non, is_int, is_tup, is_intB, not_non, not_tup, ix_l, ix_t, sl_l, sl_t, sl_s, rev_l, neg_i, len_l, len_t, int_i, abs_i, tup_l, tup_t, lst_l, lst_t, sum_l, toInts_int, zip_tt, rng_1, rng_2, rng_3, isi_int_int, isi_str_int, isi_bool_int, isi_tup_int, isi_tup_tup, isiC_int, isiC_tup, isiA_int, List.getElem?_cons_zero, List.getElem?_cons_succ, List.set_cons_zero, List.set_cons_succ, List.map_cons, List.map_nil, List.replicate_succ, List.replicate_zero, List.cons_append, List.nil_append, List.length_cons, List.length_nil, Nat.reduceAdd, Nat.reduceSub, Nat.reduceEqDiff, decide_eq_true_eq, Bool.not_eq_true', Bool.not_false, Bool.not_true, decide_eq_false_iff_not, true_and, and_true, true_or, or_true, reduceIte, Bool.false_eq_true, Int.reduceLT, Int.reduceLE, Nat.reduceLT, Nat.reduceLeDiff, Int.reduceEq, Int.reduceNe]
  refine behind_ok (by omega) hpl ?_
  unfold numL at hp
  cases hr : rdN (os.drop p) with
  | none =>
    rw [hr] at hp
    simp only [r_bind, r_pure, r_c, r_var, r_bin, r_u, r_test, r_frz, r_nil, r_cons, r_guard, r_tup, r_lst, r_nopart, r_part, r_sl, r_and, r_or, r_not, r_mite, r_andV, r_notV, r_pop, r_app, r_shr', r_call, rf_fun, r_snil, then_nx, then_rt, r_seq, r_drop, r_set, r_own', r_fix', r_to, r_ret, r_if, r_for, r_for0, r_sub, r_par3, r_par, r_frzT, r_frzF, r_it, r_enum, r_rng, r_comp, op_some, op_none, op_ite, op_map, pk_non, pk_bl, pk_int, pk_str, pk_tup, pk_lst, pk_tmp, pk_scr, pk_own, pkO_some, pk_ref, pkR_some, rd_val, rd_own, fz_non, fz_bl, fz_int, fz_str, fz_tup, fz_lst, fz_tmp, fz_ref, fz_scr, gl_own, gO_some, gl_ref, gR_some, sl_own, sl_ref, ab_bl, ai_int, it_tup, it_lst, it_tmp, it_scr, put_n, put_p, put_t, put_int, put_lst, put_tup, own_tmp, fix_own, shr_tmp, ret_nx, ret_rt, add_ii, add_ll, add_tt, sub_ii, mul_ii, mul_li, mul_ti, div_ii, mod_ii, pow_ii, ints_ii, eq_ii, ne_ii, is_non, is_int, is_tup, is_intB, not_non, not_tup, ix_l, ix_t, sl_l, sl_t, sl_s, rev_l, neg_i, len_l, len_t, int_i, abs_i, tup_l, tup_t, lst_l, lst_t, sum_l, toInts_int, zip_tt, rng_1, rng_2, rng_3, isi_int_int, isi_str_int, isi_bool_int, isi_tup_int, isi_tup_tup, isiC_int, isiC_tup, isiA_int, List.getElem?_cons_zero, List.getElem?_cons_succ, List.set_cons_zero, List.set_cons_succ, List.map_cons, List.map_nil, List.replicate_succ, List.replicate_zero, List.cons_append, List.nil_append, List.length_cons, List.length_nil, Nat.reduceAdd, Nat.reduceSub, Nat.reduceEqDiff, decide_eq_true_eq, Bool.not_eq_true', Bool.not_false, Bool.not_true, decide_eq_false_iff_not, true_and, and_true, true_or, or_true, reduceIte, Bool.false_eq_true, Int.reduceLT, Int.reduceLE, Nat.reduceLT, Nat.reduceLeDiff, Int.reduceEq, Int.reduceNe]
    exact hp
  | some q =>
    obtain ⟨v, k⟩ := q
    rw [hr] at hp
    dsimp only at hp
    have hk := rdN_len hr
    rw [List.length_drop] at hk
    obtain ⟨z, hz, hz0, hz1, hV, hfb⟩ := rdN_figs (oc_drop ho) hr
    have hz' := hz
    rw [get_drop, show p + (k - 1) = p + k - 1 by omega] at hz'
    have e1 : (((p + k : Nat) : Int) - 1) = ((p + k - 1 : Nat) : Int) := by omega
    simp only [r_bind, r_pure, r_c, r_var, r_bin, r_u, r_test, r_frz, r_nil, r_cons, r_guard, r_tup, r_lst, r_nopart, r_part, r_sl, r_and, r_or, r_not, r_mite, r_andV, r_notV, r_pop, r_app, r_shr', r_call, rf_fun, r_snil, then_nx, then_rt, r_seq, r_drop, r_set, r_own', r_fix', r_to, r_ret, r_if, r_for, r_for0, r_sub, r_par3, r_par, r_frzT, r_frzF, r_it, r_enum, r_rng, r_comp, op_some, op_none, op_ite, op_map, pk_non, pk_bl, pk_int, pk_str, pk_tup, pk_lst, pk_tmp, pk_scr, pk_own, pkO_some, pk_ref, pkR_some, rd_val, rd_own, fz_non, fz_bl, fz_int, fz_str, fz_tup, fz_lst, fz_tmp, fz_ref, fz_scr, gl_own, gO_some, gl_ref, gR_some, sl_own, sl_ref, ab_bl, ai_int, it_tup, it_lst, it_tmp, it_scr, put_n, put_p, put_t, put_int, put_lst, put_tup, own_tmp, fix_own, shr_tmp, ret_nx, ret_rt, add_ii, add_ll, add_tt, sub_ii, mul_ii, mul_li, mul_ti, div_ii, mod_ii, pow_ii, ints_ii, eq_ii, ne_ii, is_non, is_int, is_tup, is_intB, not_non, not_tup, ix_l, ix_t, sl_l, sl_t, sl_s, rev_l, neg_i, len_l, len_t, int_i, abs_i, tup_l, tup_t, lst_l, lst_t, sum_l, toInts_int, zip_tt, rng_1, rng_2, rng_3, isi_int_int, isi_str_int, isi_bool_int, isi_tup_int, isi_tup_tup, isiC_int, isiC_tup, isiA_int, List.getElem?_cons_zero, List.getElem?_cons_succ, List.set_cons_zero, List.set_cons_succ, List.map_cons, List.map_nil, List.replicate_succ, List.replicate_zero, List.cons_append, List.nil_append, List.length_cons, List.length_nil, Nat.reduceAdd, Nat.reduceSub, Nat.reduceEqDiff, decide_eq_true_eq, Bool.not_eq_true', Bool.not_false, Bool.not_true, decide_eq_false_iff_not, true_and, and_true, true_or, or_true, reduceIte, Bool.false_eq_true, Int.reduceLT, Int.reduceLE, Nat.reduceLT, Nat.reduceLeDiff, Int.reduceEq, Int.reduceNe, e1, at_nat, iL_get, hz', Option.map_some, cut_nn, iL_drop, iL_take]
    generalize hB : OP (compL (putN 4) _ _ _ _ _ _ _) _ = B
    have hb : P (.tup [.int v, .int ((p + k : Nat) : Int)]) h → B := fun hp => by
      rw [← hB]
      refine comp_map (f := fun d => match d with | .int x => Dv.int (x - 128) | d => d) (fun d hd => ?_) (by rw [iL_len, List.length_nil, lim_is, List.length_take, List.length_drop]; omega) ?_
      · obtain ⟨x, _, rfl⟩ := List.mem_map.mp hd
        show OP (putN 4 (.int x) [some (Sl.val (.tup (iL os))), some (Sl.val (.int p)), some (Sl.val (.int ((p + k : Nat) : Int))), none, none]) _
        simp only [r_bind, r_pure, r_c, r_var, r_bin, r_u, r_test, r_frz, r_nil, r_cons, r_guard, r_tup, r_lst, r_nopart, r_part, r_sl, r_and, r_or, r_not, r_mite, r_andV, r_notV, r_pop, r_app, r_shr', r_call, rf_fun, r_snil, then_nx, then_rt, r_seq, r_drop, r_set, r_own', r_fix', r_to, r_ret, r_if, r_for, r_for0, r_sub, r_par3, r_par, r_frzT, r_frzF, r_it, r_enum, r_rng, r_comp, op_some, op_none, op_ite, op_map, pk_non, pk_bl, pk_int, pk_str, pk_tup, pk_lst, pk_tmp, pk_scr, pk_own, pkO_some, pk_ref, pkR_some, rd_val, rd_own, fz_non, fz_bl, fz_int, fz_str, fz_tup, fz_lst, fz_tmp, fz_ref, fz_scr, gl_own, gO_some, gl_ref, gR_some, sl_own, sl_ref, ab_bl, ai_int, it_tup, it_lst, it_tmp, it_scr, put_n, put_p, put_t, put_int, put_lst, put_tup, own_tmp, fix_own, shr_tmp, ret_nx, ret_rt, add_ii, add_ll, add_tt, sub_ii, mul_ii, mul_li, mul_ti, div_ii, mod_ii, pow_ii, ints_ii, eq_ii, ne_ii, is_non, is_int, is_tup, is_intB, not_non, not_tup, ix_l, ix_t, sl_l, sl_t, sl_s, rev_l, neg_i, len_l, len_t, int_i, abs_i, tup_l, tup_t, lst_l, lst_t, sum_l, toInts_int, zip_tt, rng_1, rng_2, rng_3, isi_int_int, isi_str_int, isi_bool_int, isi_tup_int, isi_tup_tup, isiC_int, isiC_tup, isiA_int, List.getElem?_cons_zero, List.getElem?_cons_succ, List.set_cons_zero, List.set_cons_succ, List.map_cons, List.map_nil, List.replicate_succ, List.replicate_zero, List.cons_append, List.nil_append, List.length_cons, List.length_nil, Nat.reduceAdd, Nat.reduceSub, Nat.reduceEqDiff, decide_eq_true_eq, Bool.not_eq_true', Bool.not_false, Bool.not_true, decide_eq_false_iff_not, true_and, and_true, true_or, or_true, reduceIte, Bool.false_eq_true, Int.reduceLT, Int.reduceLE, Nat.reduceLT, Nat.reduceLeDiff, Int.reduceEq, Int.reduceNe]
      · have ef : figs (os.drop p) k z = ((os.drop p).take (p + k - 1 - p)).map (· - 128) ++ [z] := by
          rw [show p + k - 1 - p = k - 1 by omega] <;> rfl
        rw [iL_figs]
        refine ⟨by rw [lim_is]; omega, ?_, ?_⟩
        · rw [List.nil_append, iL_len, List.length_map, List.length_take, List.length_drop, lim_is]
          omega
        · have e3 : [] ++ iL (((os.drop p).take (p + k - 1 - p)).map (· - 128)) ++ [Dv.int z] = iL (figs (os.drop p) k z) := by
            rw [ef, iL_app] <;> rfl
          dsimp only
          rw [e3]
          refine numof_ok (by unfold figs; rw [List.length_append, List.length_singleton]; omega) ?_ hfb ?_
          · unfold figs
            rw [List.length_append, List.length_singleton, List.length_map, List.length_take, List.length_drop]
            omega
          · simp only [r_bind, r_pure, r_c, r_var, r_bin, r_u, r_test, r_frz, r_nil, r_cons, r_guard, r_tup, r_lst, r_nopart, r_part, r_sl, r_and, r_or, r_not, r_mite, r_andV, r_notV, r_pop, r_app, r_shr', r_call, rf_fun, r_snil, then_nx, then_rt, r_seq, r_drop, r_set, r_own', r_fix', r_to, r_ret, r_if, r_for, r_for0, r_sub, r_par3, r_par, r_frzT, r_frzF, r_it, r_enum, r_rng, r_comp, op_some, op_none, op_ite, op_map, pk_non, pk_bl, pk_int, pk_str, pk_tup, pk_lst, pk_tmp, pk_scr, pk_own, pkO_some, pk_ref, pkR_some, rd_val, rd_own, fz_non, fz_bl, fz_int, fz_str, fz_tup, fz_lst, fz_tmp, fz_ref, fz_scr, gl_own, gO_some, gl_ref, gR_some, sl_own, sl_ref, ab_bl, ai_int, it_tup, it_lst, it_tmp, it_scr, put_n, put_p, put_t, put_int, put_lst, put_tup, own_tmp, fix_own, shr_tmp, ret_nx, ret_rt, add_ii, add_ll, add_tt, sub_ii, mul_ii, mul_li, mul_ti, div_ii, mod_ii, pow_ii, ints_ii, eq_ii, ne_ii, is_non, is_int, is_tup, is_intB, not_non, not_tup, ix_l, ix_t, sl_l, sl_t, sl_s, rev_l, neg_i, len_l, len_t, int_i, abs_i, tup_l, tup_t, lst_l, lst_t, sum_l, toInts_int, zip_tt, rng_1, rng_2, rng_3, isi_int_int, isi_str_int, isi_bool_int, isi_tup_int, isi_tup_tup, isiC_int, isiC_tup, isiA_int, List.getElem?_cons_zero, List.getElem?_cons_succ, List.set_cons_zero, List.set_cons_succ, List.map_cons, List.map_nil, List.replicate_succ, List.replicate_zero, List.cons_append, List.nil_append, List.length_cons, List.length_nil, Nat.reduceAdd, Nat.reduceSub, Nat.reduceEqDiff, decide_eq_true_eq, Bool.not_eq_true', Bool.not_false, Bool.not_true, decide_eq_false_iff_not, true_and, and_true, true_or, or_true, reduceIte, Bool.false_eq_true, Int.reduceLT, Int.reduceLE, Nat.reduceLT, Nat.reduceLeDiff, Int.reduceEq, Int.reduceNe, hV]
            exact ⟨by rw [lim_is]; omega, hp⟩
    by_cases h1 : 1 < k
    · rw [if_pos (by omega)]
      by_cases h2 : z = 0
      · rw [if_pos h2]
        rw [if_pos ⟨h1, by rw [hz, h2]⟩] at hp
        exact hp
      · rw [if_neg h2]
        rw [if_neg (fun hh => h2 (by have := hh.2; rw [hz] at this; exact Option.some.inj this))] at hp
        exact hb hp
    · rw [if_neg (by omega)]
      rw [if_neg (fun hh => h1 hh.1)] at hp
      exact hb hp
/-! ### frames -/
def frS (rest : List Int) : Option (List Int × Nat) := match numL rest with
  | none => none
  | some (v, k) => if v + 2 > (rest.length : Int) - k then none else
    if rest[k + v.toNat]? = some (Sm ((rest.drop k).take v.toNat) % 256) ∧ rest[k + v.toNat + 1]? = some (Sm ((rest.drop k).take v.toNat) / 256) then some ((rest.drop k).take v.toNat, k + v.toNat + 2) else none
theorem numL_facts {rest : List Int} {v : Int} {k : Nat} (ho : Oc rest) (h : numL rest = some (v, k)) : 0 ≤ v ∧ 1 ≤ k ∧ k ≤ rest.length := by
  unfold numL at h
  cases hr : rdN rest with
  | none => rw [hr] at h; cases h
  | some q =>
    rw [hr] at h
    obtain ⟨v', k'⟩ := q
    dsimp only at h
    split at h
    · cases h
    · cases h
      exact ⟨rdN_pos ho hr, (rdN_len hr).1, (rdN_len hr).2⟩
theorem two_at {os : List Int} {q : Nat} (h : q + 2 ≤ os.length) : ∃ x y, (os.drop q).take 2 = [x, y] ∧ os[q]? = some x ∧ os[q + 1]? = some y := by
  have h1 : os[q]? = some os[q] := List.getElem?_eq_getElem (by omega)
  have h2 : os[q + 1]? = some os[q + 1] := List.getElem?_eq_getElem (by omega)
  refine ⟨os[q], os[q + 1], ?_, h1, h2⟩
  rw [List.drop_eq_getElem_cons (by omega), List.drop_eq_getElem_cons (by omega)]
  rfl
theorem frat_ok {h : List Cell} {P : Dv → List Cell → Prop} {os : List Int} {p : Nat} (ho : Oc os) (hl : os.length < 40000) (hpl : p ≤ os.length) (hp : match frS (os.drop p) with | none => P .non h | some (b, k) => P (.tup [.tup (iL b), .int ((p + k : Nat) : Int)]) h) : RF (M_frame_at [.tup (iL os), .int p] h) P := by
  unfold M_frame_at B_frame_at
  simp only [r_bind, r_pure, r_c, r_var, r_bin, r_u, r_test, r_frz, r_nil, r_cons, r_guard, r_tup, r_lst, r_nopart, r_part, r_sl, r_and, r_or, r_not, r_mite, r_andV, r_notV, r_pop, r_app, r_shr', r_call, rf_fun, r_snil, then_nx, then_rt, r_seq, r_drop, r_set, r_own', r_fix', r_to, r_ret, r_if, r_for, r_for0, r_sub, r_par3, r_par, r_frzT, r_frzF, r_it, r_enum, r_rng, r_comp, op_some, op_none, op_ite, op_map, pk_non, pk_bl, pk_int, pk_str, pk_tup, pk_lst, pk_tmp, pk_scr, pk_own, pkO_some, pk_ref, pkR_some, rd_val, rd_own, fz_non, fz_bl, fz_int, fz_str, fz_tup, fz_lst, fz_tmp, fz_ref, fz_scr, gl_own, gO_some, gl_ref, gR_some, sl_own, sl_ref, ab_bl, ai_int, it_tup, it_lst, it_tmp, it_scr, put_n, put_p, put_t, put_int, put_lst, put_tup, own_tmp, fix_own, shr_tmp, ret_nx, ret_rt, add_ii, add_ll, add_tt, sub_ii, mul_ii, mul_li, mul_ti, div_ii, mod_ii, pow_ii, ints_ii, eq_ii, ne_ii, is_non, is_int, is_tup, is_intB, not_non, not_tup, ix_l, ix_t, sl_l, sl_t, sl_s, rev_l, neg_i, len_l, len_t, int_i, abs_i, tup_l, tup_t, lst_l, lst_t, sum_l, toInts_int, zip_tt, rng_1, rng_2, rng_3, isi_int_int, isi_str_int, isi_bool_int, isi_tup_int, isi_tup_tup, isiC_int, isiC_tup, isiA_int, List.getElem?_cons_zero, List.getElem?_cons_succ, List.set_cons_zero, List.set_cons_succ, List.map_cons, List.map_nil, List.replicate_succ, List.replicate_zero, List.cons_append, List.nil_append, List.length_cons, List.length_nil, Nat.reduceAdd, Nat.reduceSub, Nat.reduceEqDiff, decide_eq_true_eq, Bool.not_eq_true', Bool.not_false, Bool.not_true, decide_eq_false_iff_not, true_and, and_true, true_or, or_true, reduceIte, Bool.false_eq_true, Int.reduceLT, Int.reduceLE, Nat.reduceLT, Nat.reduceLeDiff, Int.reduceEq, Int.reduceNe]
  refine numin_ok ho hl hpl ?_
  unfold frS at hp
  cases hr : numL (os.drop p) with
  | none =>
    rw [hr] at hp
    simp only [r_bind, r_pure, r_c, r_var, r_bin, r_u, r_test, r_frz, r_nil, r_cons, r_guard, r_tup, r_lst, r_nopart, r_part, r_sl, r_and, r_or, r_not, r_mite, r_andV, r_notV, r_pop, r_app, r_shr', r_call, rf_fun, r_snil, then_nx, then_rt, r_seq, r_drop, r_set, r_own', r_fix', r_to, r_ret, r_if, r_for, r_for0, r_sub, r_par3, r_par, r_frzT, r_frzF, r_it, r_enum, r_rng, r_comp, op_some, op_none, op_ite, op_map, pk_non, pk_bl, pk_int, pk_str, pk_tup, pk_lst, pk_tmp, pk_scr, pk_own, pkO_some, pk_ref, pkR_some, rd_val, rd_own, fz_non, fz_bl, fz_int, fz_str, fz_tup, fz_lst, fz_tmp, fz_ref, fz_scr, gl_own, gO_some, gl_ref, gR_some, sl_own, sl_ref, ab_bl, ai_int, it_tup, it_lst, it_tmp, it_scr, put_n, put_p, put_t, put_int, put_lst, put_tup, own_tmp, fix_own, shr_tmp, ret_nx, ret_rt, add_ii, add_ll, add_tt, sub_ii, mul_ii, mul_li, mul_ti, div_ii, mod_ii, pow_ii, ints_ii, eq_ii, ne_ii, is_non, is_int, is_tup, is_intB, not_non, not_tup, ix_l, ix_t, sl_l, sl_t, sl_s, rev_l, neg_i, len_l, len_t, int_i, abs_i, tup_l, tup_t, lst_l, lst_t, sum_l, toInts_int, zip_tt, rng_1, rng_2, rng_3, isi_int_int, isi_str_int, isi_bool_int, isi_tup_int, isi_tup_tup, isiC_int, isiC_tup, isiA_int, List.getElem?_cons_zero, List.getElem?_cons_succ, List.set_cons_zero, List.set_cons_succ, List.map_cons, List.map_nil, List.replicate_succ, List.replicate_zero, List.cons_append, List.nil_append, List.length_cons, List.length_nil, Nat.reduceAdd, Nat.reduceSub, Nat.reduceEqDiff, decide_eq_true_eq, Bool.not_eq_true', Bool.not_false, Bool.not_true, decide_eq_false_iff_not, true_and, and_true, true_or, or_true, reduceIte, Bool.false_eq_true, Int.reduceLT, Int.reduceLE, Nat.reduceLT, Nat.reduceLeDiff, Int.reduceEq, Int.reduceNe]
    exact hp
  | some q =>
    obtain ⟨v, k⟩ := q
    rw [hr] at hp
    dsimp only at hp
    obtain ⟨hv, hk1, hk2⟩ := numL_facts (oc_drop ho) hr
    rw [List.length_drop] at hp hk2
    obtain ⟨n, rfl⟩ : ∃ n : Nat, v = n := ⟨v.toNat, by omega⟩
    rw [Int.toNat_natCast] at hp
    have e1 : (n : Int) + ((p + k : Nat) : Int) = ((p + k + n : Nat) : Int) := by omega
    have e2 : ((p + k + n : Nat) : Int) + 2 = ((p + k + n + 2 : Nat) : Int) := by omega
    simp only [r_bind, r_pure, r_c, r_var, r_bin, r_u, r_test, r_frz, r_nil, r_cons, r_guard, r_tup, r_lst, r_nopart, r_part, r_sl, r_and, r_or, r_not, r_mite, r_andV, r_notV, r_pop, r_app, r_shr', r_call, rf_fun, r_snil, then_nx, then_rt, r_seq, r_drop, r_set, r_own', r_fix', r_to, r_ret, r_if, r_for, r_for0, r_sub, r_par3, r_par, r_frzT, r_frzF, r_it, r_enum, r_rng, r_comp, op_some, op_none, op_ite, op_map, pk_non, pk_bl, pk_int, pk_str, pk_tup, pk_lst, pk_tmp, pk_scr, pk_own, pkO_some, pk_ref, pkR_some, rd_val, rd_own, fz_non, fz_bl, fz_int, fz_str, fz_tup, fz_lst, fz_tmp, fz_ref, fz_scr, gl_own, gO_some, gl_ref, gR_some, sl_own, sl_ref, ab_bl, ai_int, it_tup, it_lst, it_tmp, it_scr, put_n, put_p, put_t, put_int, put_lst, put_tup, own_tmp, fix_own, shr_tmp, ret_nx, ret_rt, add_ii, add_ll, add_tt, sub_ii, mul_ii, mul_li, mul_ti, div_ii, mod_ii, pow_ii, ints_ii, eq_ii, ne_ii, is_non, is_int, is_tup, is_intB, not_non, not_tup, ix_l, ix_t, sl_l, sl_t, sl_s, rev_l, neg_i, len_l, len_t, int_i, abs_i, tup_l, tup_t, lst_l, lst_t, sum_l, toInts_int, zip_tt, rng_1, rng_2, rng_3, isi_int_int, isi_str_int, isi_bool_int, isi_tup_int, isi_tup_tup, isiC_int, isiC_tup, isiA_int, List.getElem?_cons_zero, List.getElem?_cons_succ, List.set_cons_zero, List.set_cons_succ, List.map_cons, List.map_nil, List.replicate_succ, List.replicate_zero, List.cons_append, List.nil_append, List.length_cons, List.length_nil, Nat.reduceAdd, Nat.reduceSub, Nat.reduceEqDiff, decide_eq_true_eq, Bool.not_eq_true', Bool.not_false, Bool.not_true, decide_eq_false_iff_not, true_and, and_true, true_or, or_true, reduceIte, Bool.false_eq_true, Int.reduceLT, Int.reduceLE, Nat.reduceLT, Nat.reduceLeDiff, Int.reduceEq, Int.reduceNe, at_0, at_1, iL_len, e1, e2, cut_nn, iL_drop, iL_take]
    by_cases h1 : (n : Int) + 2 > ((os.length - p : Nat) : Int) - k
    · rw [if_pos (by omega)]
      rw [if_pos h1] at hp
      exact hp
    · rw [if_neg (by omega)]
      rw [if_neg h1] at hp
      obtain ⟨x, y, hxy, hx, hy⟩ := two_at (os := os) (q := p + k + n) (by omega)
      rw [show p + k + n + 2 - (p + k + n) = 2 by omega, hxy, show p + k + n - (p + k) = n by omega]
      rw [List.drop_drop, get_drop, get_drop, show p + (k + n) = p + k + n by omega, show p + (k + n + 1) = p + k + n + 1 by omega, hx, hy] at hp
      refine sump_ok (oc_take (oc_drop ho)) ?_
      have e4 : iL [x, y] = [.int x, .int y] := rfl
      rw [e4]
      simp only [r_bind, r_pure, r_c, r_var, r_bin, r_u, r_test, r_frz, r_nil, r_cons, r_guard, r_tup, r_lst, r_nopart, r_part, r_sl, r_and, r_or, r_not, r_mite, r_andV, r_notV, r_pop, r_app, r_shr', r_call, rf_fun, r_snil, then_nx, then_rt, r_seq, r_drop, r_set, r_own', r_fix', r_to, r_ret, r_if, r_for, r_for0, r_sub, r_par3, r_par, r_frzT, r_frzF, r_it, r_enum, r_rng, r_comp, op_some, op_none, op_ite, op_map, pk_non, pk_bl, pk_int, pk_str, pk_tup, pk_lst, pk_tmp, pk_scr, pk_own, pkO_some, pk_ref, pkR_some, rd_val, rd_own, fz_non, fz_bl, fz_int, fz_str, fz_tup, fz_lst, fz_tmp, fz_ref, fz_scr, gl_own, gO_some, gl_ref, gR_some, sl_own, sl_ref, ab_bl, ai_int, it_tup, it_lst, it_tmp, it_scr, put_n, put_p, put_t, put_int, put_lst, put_tup, own_tmp, fix_own, shr_tmp, ret_nx, ret_rt, add_ii, add_ll, add_tt, sub_ii, mul_ii, mul_li, mul_ti, div_ii, mod_ii, pow_ii, ints_ii, eq_ii, ne_ii, is_non, is_int, is_tup, is_intB, not_non, not_tup, ix_l, ix_t, sl_l, sl_t, sl_s, rev_l, neg_i, len_l, len_t, int_i, abs_i, tup_l, tup_t, lst_l, lst_t, sum_l, toInts_int, zip_tt, rng_1, rng_2, rng_3, isi_int_int, isi_str_int, isi_bool_int, isi_tup_int, isi_tup_tup, isiC_int, isiC_tup, isiA_int, List.getElem?_cons_zero, List.getElem?_cons_succ, List.set_cons_zero, List.set_cons_succ, List.map_cons, List.map_nil, List.replicate_succ, List.replicate_zero, List.cons_append, List.nil_append, List.length_cons, List.length_nil, Nat.reduceAdd, Nat.reduceSub, Nat.reduceEqDiff, decide_eq_true_eq, Bool.not_eq_true', Bool.not_false, Bool.not_true, decide_eq_false_iff_not, true_and, and_true, true_or, or_true, reduceIte, Bool.false_eq_true, Int.reduceLT, Int.reduceLE, Nat.reduceLT, Nat.reduceLeDiff, Int.reduceEq, Int.reduceNe, eqv_pair]
      by_cases h2 : x = Sm ((os.drop (p + k)).take n) % 256 ∧ y = Sm ((os.drop (p + k)).take n) / 256
      · rw [if_pos ⟨by rw [← h2.1], by rw [← h2.2]⟩] at hp
        simp only [← h2.1, ← h2.2]
        simp only [r_bind, r_pure, r_c, r_var, r_bin, r_u, r_test, r_frz, r_nil, r_cons, r_guard, r_tup, r_lst, r_nopart, r_part, r_sl, r_and, r_or, r_not, r_mite, r_andV, r_notV, r_pop, r_app, r_shr', r_call, rf_fun, r_snil, then_nx, then_rt, r_seq, r_drop, r_set, r_own', r_fix', r_to, r_ret, r_if, r_for, r_for0, r_sub, r_par3, r_par, r_frzT, r_frzF, r_it, r_enum, r_rng, r_comp, op_some, op_none, op_ite, op_map, pk_non, pk_bl, pk_int, pk_str, pk_tup, pk_lst, pk_tmp, pk_scr, pk_own, pkO_some, pk_ref, pkR_some, rd_val, rd_own, fz_non, fz_bl, fz_int, fz_str, fz_tup, fz_lst, fz_tmp, fz_ref, fz_scr, gl_own, gO_some, gl_ref, gR_some, sl_own, sl_ref, ab_bl, ai_int, it_tup, it_lst, it_tmp, it_scr, put_n, put_p, put_t, put_int, put_lst, put_tup, own_tmp, fix_own, shr_tmp, ret_nx, ret_rt, add_ii, add_ll, add_tt, sub_ii, mul_ii, mul_li, mul_ti, div_ii, mod_ii, pow_ii, ints_ii, eq_ii, ne_ii, is_non, is_int, is_tup, is_intB, not_non, not_tup, ix_l, ix_t, sl_l, sl_t, sl_s, rev_l, neg_i, len_l, len_t, int_i, abs_i, tup_l, tup_t, lst_l, lst_t, sum_l, toInts_int, zip_tt, rng_1, rng_2, rng_3, isi_int_int, isi_str_int, isi_bool_int, isi_tup_int, isi_tup_tup, isiC_int, isiC_tup, isiA_int, List.getElem?_cons_zero, List.getElem?_cons_succ, List.set_cons_zero, List.set_cons_succ, List.map_cons, List.map_nil, List.replicate_succ, List.replicate_zero, List.cons_append, List.nil_append, List.length_cons, List.length_nil, Nat.reduceAdd, Nat.reduceSub, Nat.reduceEqDiff, decide_eq_true_eq, Bool.not_eq_true', Bool.not_false, Bool.not_true, decide_eq_false_iff_not, true_and, and_true, true_or, or_true, reduceIte, Bool.false_eq_true, Int.reduceLT, Int.reduceLE, Nat.reduceLT, Nat.reduceLeDiff, Int.reduceEq, Int.reduceNe, decide_true, Bool.and_self]
        refine ⟨by rw [lim_is]; omega, ?_⟩
        rw [show p + k + n + 2 = p + (k + n + 2) by omega]
        exact hp
      · rw [if_neg (fun hh => h2 ⟨Option.some.inj hh.1, Option.some.inj hh.2⟩)] at hp
        have e5 : (decide (x = Sm ((os.drop (p + k)).take n) % 256) && decide (y = Sm ((os.drop (p + k)).take n) / 256)) = false := by
          rw [Bool.and_eq_false_iff, decide_eq_false_iff_not, decide_eq_false_iff_not]
          exact Decidable.not_and_iff_or_not.mp h2
        rw [e5]
        simp only [r_bind, r_pure, r_c, r_var, r_bin, r_u, r_test, r_frz, r_nil, r_cons, r_guard, r_tup, r_lst, r_nopart, r_part, r_sl, r_and, r_or, r_not, r_mite, r_andV, r_notV, r_pop, r_app, r_shr', r_call, rf_fun, r_snil, then_nx, then_rt, r_seq, r_drop, r_set, r_own', r_fix', r_to, r_ret, r_if, r_for, r_for0, r_sub, r_par3, r_par, r_frzT, r_frzF, r_it, r_enum, r_rng, r_comp, op_some, op_none, op_ite, op_map, pk_non, pk_bl, pk_int, pk_str, pk_tup, pk_lst, pk_tmp, pk_scr, pk_own, pkO_some, pk_ref, pkR_some, rd_val, rd_own, fz_non, fz_bl, fz_int, fz_str, fz_tup, fz_lst, fz_tmp, fz_ref, fz_scr, gl_own, gO_some, gl_ref, gR_some, sl_own, sl_ref, ab_bl, ai_int, it_tup, it_lst, it_tmp, it_scr, put_n, put_p, put_t, put_int, put_lst, put_tup, own_tmp, fix_own, shr_tmp, ret_nx, ret_rt, add_ii, add_ll, add_tt, sub_ii, mul_ii, mul_li, mul_ti, div_ii, mod_ii, pow_ii, ints_ii, eq_ii, ne_ii, is_non, is_int, is_tup, is_intB, not_non, not_tup, ix_l, ix_t, sl_l, sl_t, sl_s, rev_l, neg_i, len_l, len_t, int_i, abs_i, tup_l, tup_t, lst_l, lst_t, sum_l, toInts_int, zip_tt, rng_1, rng_2, rng_3, isi_int_int, isi_str_int, isi_bool_int, isi_tup_int, isi_tup_tup, isiC_int, isiC_tup, isiA_int, List.getElem?_cons_zero, List.getElem?_cons_succ, List.set_cons_zero, List.set_cons_succ, List.map_cons, List.map_nil, List.replicate_succ, List.replicate_zero, List.cons_append, List.nil_append, List.length_cons, List.length_nil, Nat.reduceAdd, Nat.reduceSub, Nat.reduceEqDiff, decide_eq_true_eq, Bool.not_eq_true', Bool.not_false, Bool.not_true, decide_eq_false_iff_not, true_and, and_true, true_or, or_true, reduceIte, Bool.false_eq_true, Int.reduceLT, Int.reduceLE, Nat.reduceLT, Nat.reduceLeDiff, Int.reduceEq, Int.reduceNe]
        exact hp
def frsS : Nat → List Int → List (List Int) × Nat
  | 0, _ => ([], 0)
  | f + 1, rest => match frS rest with
    | none => ([], 0)
    | some (b, k) => (b :: (frsS f (rest.drop k)).1, k + (frsS f (rest.drop k)).2)
theorem frS_facts {rest b : List Int} {k : Nat} (ho : Oc rest) (h : frS rest = some (b, k)) : 3 ≤ k ∧ k ≤ rest.length := by
  unfold frS at h
  cases hr : numL rest with
  | none => rw [hr] at h; cases h
  | some q =>
    obtain ⟨v, k'⟩ := q
    rw [hr] at h
    dsimp only at h
    obtain ⟨hv, hk1, hk2⟩ := numL_facts ho hr
    split at h
    · cases h
    · split at h
      · cases h
        omega
      · cases h
def told (p : Nat) : Option (List Int × Nat) → Dv
  | none => .non
  | some (b, k) => .tup [.tup (iL b), .int ((p + k : Nat) : Int)]
theorem frat_told {h : List Cell} {P : Dv → List Cell → Prop} {os : List Int} {p : Nat} (ho : Oc os) (hl : os.length < 40000) (hpl : p ≤ os.length) (hp : P (told p (frS (os.drop p))) h) : RF (M_frame_at [.tup (iL os), .int p] h) P := by
  refine frat_ok ho hl hpl ?_
  cases hf : frS (os.drop p) with
  | none => rw [hf] at hp; exact hp
  | some q => rw [hf] at hp; exact hp
theorem fz_told {p : Nat} {o : Option (List Int × Nat)} : frz (told p o) = some (told p o) := by
  cases o <;> rfl
theorem frs_loop (h : List Cell) (os : List Int) (ho : Oc os) (hl : os.length < 40000) : ∀ (f p : Nat) (bs : List Dv) (P : Fl → Mem → Prop), p ≤ os.length → (os.drop p).length < f → bs.length ≤ p →
    P .nx ⟨[some (.val (.tup (iL os))), some (.val .non), some (.own (bs ++ (frsS f (os.drop p)).1.map fun b => .tup (iL b))), some (.val (.int ((p + (frsS f (os.drop p)).2 : Nat) : Int)))], h⟩ →
    R (sLoop C_frames1 L_frames1) ⟨[some (.val (.tup (iL os))), some (.val (told p (frS (os.drop p)))), some (.own bs), some (.val (.int p))], h⟩ P
  | 0, p, bs, P, _, hf, _, _ => absurd hf (Nat.not_lt_zero _)
  | f + 1, p, bs, P, hpl, hf, hbl, hp => by
    refine r_loopg fun lp hlp => ?_
    unfold C_frames1 L_frames1
    unfold frsS at hp
    cases hr : frS (os.drop p) with
    | none =>
      rw [hr] at hp
      simp only [told, r_bind, r_pure, r_c, r_var, r_bin, r_u, r_test, r_frz, r_nil, r_cons, r_guard, r_tup, r_lst, r_nopart, r_part, r_sl, r_and, r_or, r_not, r_mite, r_andV, r_notV, r_pop, r_app, r_shr', r_call, rf_fun, r_snil, then_nx, then_rt, r_seq, r_drop, r_set, r_own', r_fix', r_to, r_ret, r_if, r_for, r_for0, r_sub, r_par3, r_par, r_frzT, r_frzF, r_it, r_enum, r_rng, r_comp, op_some, op_none, op_ite, op_map, pk_non, pk_bl, pk_int, pk_str, pk_tup, pk_lst, pk_tmp, pk_scr, pk_own, pkO_some, pk_ref, pkR_some, rd_val, rd_own, fz_non, fz_bl, fz_int, fz_str, fz_tup, fz_lst, fz_tmp, fz_ref, fz_scr, gl_own, gO_some, gl_ref, gR_some, sl_own, sl_ref, ab_bl, ai_int, it_tup, it_lst, it_tmp, it_scr, put_n, put_p, put_t, put_int, put_lst, put_tup, own_tmp, fix_own, shr_tmp, ret_nx, ret_rt, add_ii, add_ll, add_tt, sub_ii, mul_ii, mul_li, mul_ti, div_ii, mod_ii, pow_ii, ints_ii, eq_ii, ne_ii, is_non, is_int, is_tup, is_intB, not_non, not_tup, ix_l, ix_t, sl_l, sl_t, sl_s, rev_l, neg_i, len_l, len_t, int_i, abs_i, tup_l, tup_t, lst_l, lst_t, sum_l, toInts_int, zip_tt, rng_1, rng_2, rng_3, isi_int_int, isi_str_int, isi_bool_int, isi_tup_int, isi_tup_tup, isiC_int, isiC_tup, isiA_int, List.getElem?_cons_zero, List.getElem?_cons_succ, List.set_cons_zero, List.set_cons_succ, List.map_cons, List.map_nil, List.replicate_succ, List.replicate_zero, List.cons_append, List.nil_append, List.length_cons, List.length_nil, Nat.reduceAdd, Nat.reduceSub, Nat.reduceEqDiff, decide_eq_true_eq, Bool.not_eq_true', Bool.not_false, Bool.not_true, decide_eq_false_iff_not, true_and, and_true, true_or, or_true, reduceIte, Bool.false_eq_true, Int.reduceLT, Int.reduceLE, Nat.reduceLT, Nat.reduceLeDiff, Int.reduceEq, Int.reduceNe]
      simpa using hp
    | some q =>
      obtain ⟨b, k⟩ := q
      rw [hr] at hp
      have hk := frS_facts (oc_drop ho) hr
      rw [List.length_drop] at hk hf
      simp only [told, r_bind, r_pure, r_c, r_var, r_bin, r_u, r_test, r_frz, r_nil, r_cons, r_guard, r_tup, r_lst, r_nopart, r_part, r_sl, r_and, r_or, r_not, r_mite, r_andV, r_notV, r_pop, r_app, r_shr', r_call, rf_fun, r_snil, then_nx, then_rt, r_seq, r_drop, r_set, r_own', r_fix', r_to, r_ret, r_if, r_for, r_for0, r_sub, r_par3, r_par, r_frzT, r_frzF, r_it, r_enum, r_rng, r_comp, op_some, op_none, op_ite, op_map, pk_non, pk_bl, pk_int, pk_str, pk_tup, pk_lst, pk_tmp, pk_scr, pk_own, pkO_some, pk_ref, pkR_some, rd_val, rd_own, fz_non, fz_bl, fz_int, fz_str, fz_tup, fz_lst, fz_tmp, fz_ref, fz_scr, gl_own, gO_some, gl_ref, gR_some, sl_own, sl_ref, ab_bl, ai_int, it_tup, it_lst, it_tmp, it_scr, put_n, put_p, put_t, put_int, put_lst, put_tup, own_tmp, fix_own, shr_tmp, ret_nx, ret_rt, add_ii, add_ll, add_tt, sub_ii, mul_ii, mul_li, mul_ti, div_ii, mod_ii, pow_ii, ints_ii, eq_ii, ne_ii, is_non, is_int, is_tup, is_intB, not_non, not_tup, ix_l, ix_t, sl_l, sl_t, sl_s, rev_l, neg_i, len_l, len_t, int_i, abs_i, tup_l, tup_t, lst_l, lst_t, sum_l, toInts_int, zip_tt, rng_1, rng_2, rng_3, isi_int_int, isi_str_int, isi_bool_int, isi_tup_int, isi_tup_tup, isiC_int, isiC_tup, isiA_int, List.getElem?_cons_zero, List.getElem?_cons_succ, List.set_cons_zero, List.set_cons_succ, List.map_cons, List.map_nil, List.replicate_succ, List.replicate_zero, List.cons_append, List.nil_append, List.length_cons, List.length_nil, Nat.reduceAdd, Nat.reduceSub, Nat.reduceEqDiff, decide_eq_true_eq, Bool.not_eq_true', Bool.not_false, Bool.not_true, decide_eq_false_iff_not, true_and, and_true, true_or, or_true, reduceIte, Bool.false_eq_true, Int.reduceLT, Int.reduceLE, Nat.reduceLT, Nat.reduceLeDiff, Int.reduceEq, Int.reduceNe, at_0, at_1]
      refine ⟨by rw [lim_is]; omega, frat_told ho hl (by omega) ?_⟩
      simp only [r_bind, r_pure, r_c, r_var, r_bin, r_u, r_test, r_frz, r_nil, r_cons, r_guard, r_tup, r_lst, r_nopart, r_part, r_sl, r_and, r_or, r_not, r_mite, r_andV, r_notV, r_pop, r_app, r_shr', r_call, rf_fun, r_snil, then_nx, then_rt, r_seq, r_drop, r_set, r_own', r_fix', r_to, r_ret, r_if, r_for, r_for0, r_sub, r_par3, r_par, r_frzT, r_frzF, r_it, r_enum, r_rng, r_comp, op_some, op_none, op_ite, op_map, pk_non, pk_bl, pk_int, pk_str, pk_tup, pk_lst, pk_tmp, pk_scr, pk_own, pkO_some, pk_ref, pkR_some, rd_val, rd_own, fz_non, fz_bl, fz_int, fz_str, fz_tup, fz_lst, fz_tmp, fz_ref, fz_scr, gl_own, gO_some, gl_ref, gR_some, sl_own, sl_ref, ab_bl, ai_int, it_tup, it_lst, it_tmp, it_scr, put_n, put_p, put_t, put_int, put_lst, put_tup, own_tmp, fix_own, shr_tmp, ret_nx, ret_rt, add_ii, add_ll, add_tt, sub_ii, mul_ii, mul_li, mul_ti, div_ii, mod_ii, pow_ii, ints_ii, eq_ii, ne_ii, is_non, is_int, is_tup, is_intB, not_non, not_tup, ix_l, ix_t, sl_l, sl_t, sl_s, rev_l, neg_i, len_l, len_t, int_i, abs_i, tup_l, tup_t, lst_l, lst_t, sum_l, toInts_int, zip_tt, rng_1, rng_2, rng_3, isi_int_int, isi_str_int, isi_bool_int, isi_tup_int, isi_tup_tup, isiC_int, isiC_tup, isiA_int, List.getElem?_cons_zero, List.getElem?_cons_succ, List.set_cons_zero, List.set_cons_succ, List.map_cons, List.map_nil, List.replicate_succ, List.replicate_zero, List.cons_append, List.nil_append, List.length_cons, List.length_nil, Nat.reduceAdd, Nat.reduceSub, Nat.reduceEqDiff, decide_eq_true_eq, Bool.not_eq_true', Bool.not_false, Bool.not_true, decide_eq_false_iff_not, true_and, and_true, true_or, or_true, reduceIte, Bool.false_eq_true, Int.reduceLT, Int.reduceLE, Nat.reduceLT, Nat.reduceLeDiff, Int.reduceEq, Int.reduceNe, fz_told]
      subst hlp
      refine frs_loop h os ho hl f (p + k) _ P (by omega) (by rw [List.length_drop]; omega) (by rw [List.length_append, List.length_singleton]; omega) ?_
      dsimp only at hp
      rw [List.drop_drop, List.map_cons] at hp
      rw [List.append_assoc, show p + k + (frsS f (os.drop (p + k))).2 = p + (k + (frsS f (os.drop (p + k))).2) by omega]
      exact hp
def frsD (r : List (List Int) × Nat) : Dv := .tup [.tup (r.1.map fun b => .tup (iL b)), .int (r.2 : Int)]
theorem frs_len : ∀ (f : Nat) (rest : List Int), Oc rest → (frsS f rest).1.length ≤ rest.length
  | 0, _, _ => Nat.zero_le _
  | f + 1, rest, ho => by
    unfold frsS
    cases hr : frS rest with
    | none => exact Nat.zero_le _
    | some q =>
      obtain ⟨b, k⟩ := q
      have hk := frS_facts ho hr
      have := frs_len f (rest.drop k) (oc_drop ho)
      rw [List.length_drop] at this
      show (frsS f (rest.drop k)).1.length + 1 ≤ _
      omega
theorem frames_ok {h : List Cell} {P : Dv → List Cell → Prop} {os : List Int} (ho : Oc os) (hl : os.length < 40000) (hp : P (frsD (frsS (os.length + 1) os)) h) : RF (M_frames [.tup (iL os)] h) P := by
  unfold M_frames B_frames
  simp only [r_bind, r_pure, r_c, r_var, r_bin, r_u, r_test, r_frz, r_nil, r_cons, r_guard, r_tup, r_lst, r_nopart, r_part, r_sl, r_and, r_or, r_not, r_mite, r_andV, r_notV, r_pop, r_app, r_shr', r_call, rf_fun, r_snil, then_nx, then_rt, r_seq, r_drop, r_set, r_own', r_fix', r_to, r_ret, r_if, r_for, r_for0, r_sub, r_par3, r_par, r_frzT, r_frzF, r_it, r_enum, r_rng, r_comp, op_some, op_none, op_ite, op_map, pk_non, pk_bl, pk_int, pk_str, pk_tup, pk_lst, pk_tmp, pk_scr, pk_own, pkO_some, pk_ref, pkR_some, rd_val, rd_own, fz_non, fz_bl, fz_int, fz_str, fz_tup, fz_lst, fz_tmp, fz_ref, fz_scr, gl_own, gO_some, gl_ref, gR_some, sl_own, sl_ref, ab_bl, ai_int, it_tup, it_lst, it_tmp, it_scr, put_n, put_p, put_t, put_int, put_lst, put_tup, own_tmp, fix_own, shr_tmp, ret_nx, ret_rt, add_ii, add_ll, add_tt, sub_ii, mul_ii, mul_li, mul_ti, div_ii, mod_ii, pow_ii, ints_ii, eq_ii, ne_ii, is_non, is_int, is_tup, is_intB, not_non, not_tup, ix_l, ix_t, sl_l, sl_t, sl_s, rev_l, neg_i, len_l, len_t, int_i, abs_i, tup_l, tup_t, lst_l, lst_t, sum_l, toInts_int, zip_tt, rng_1, rng_2, rng_3, isi_int_int, isi_str_int, isi_bool_int, isi_tup_int, isi_tup_tup, isiC_int, isiC_tup, isiA_int, List.getElem?_cons_zero, List.getElem?_cons_succ, List.set_cons_zero, List.set_cons_succ, List.map_cons, List.map_nil, List.replicate_succ, List.replicate_zero, List.cons_append, List.nil_append, List.length_cons, List.length_nil, Nat.reduceAdd, Nat.reduceSub, Nat.reduceEqDiff, decide_eq_true_eq, Bool.not_eq_true', Bool.not_false, Bool.not_true, decide_eq_false_iff_not, true_and, and_true, true_or, or_true, reduceIte, Bool.false_eq_true, Int.reduceLT, Int.reduceLE, Nat.reduceLT, Nat.reduceLeDiff, Int.reduceEq, Int.reduceNe]
  refine ⟨Nat.zero_le _, frat_told (p := 0) ho hl (Nat.zero_le _) ?_⟩
  simp only [r_bind, r_pure, r_c, r_var, r_bin, r_u, r_test, r_frz, r_nil, r_cons, r_guard, r_tup, r_lst, r_nopart, r_part, r_sl, r_and, r_or, r_not, r_mite, r_andV, r_notV, r_pop, r_app, r_shr', r_call, rf_fun, r_snil, then_nx, then_rt, r_seq, r_drop, r_set, r_own', r_fix', r_to, r_ret, r_if, r_for, r_for0, r_sub, r_par3, r_par, r_frzT, r_frzF, r_it, r_enum, r_rng, r_comp, op_some, op_none, op_ite, op_map, pk_non, pk_bl, pk_int, pk_str, pk_tup, pk_lst, pk_tmp, pk_scr, pk_own, pkO_some, pk_ref, pkR_some, rd_val, rd_own, fz_non, fz_bl, fz_int, fz_str, fz_tup, fz_lst, fz_tmp, fz_ref, fz_scr, gl_own, gO_some, gl_ref, gR_some, sl_own, sl_ref, ab_bl, ai_int, it_tup, it_lst, it_tmp, it_scr, put_n, put_p, put_t, put_int, put_lst, put_tup, own_tmp, fix_own, shr_tmp, ret_nx, ret_rt, add_ii, add_ll, add_tt, sub_ii, mul_ii, mul_li, mul_ti, div_ii, mod_ii, pow_ii, ints_ii, eq_ii, ne_ii, is_non, is_int, is_tup, is_intB, not_non, not_tup, ix_l, ix_t, sl_l, sl_t, sl_s, rev_l, neg_i, len_l, len_t, int_i, abs_i, tup_l, tup_t, lst_l, lst_t, sum_l, toInts_int, zip_tt, rng_1, rng_2, rng_3, isi_int_int, isi_str_int, isi_bool_int, isi_tup_int, isi_tup_tup, isiC_int, isiC_tup, isiA_int, List.getElem?_cons_zero, List.getElem?_cons_succ, List.set_cons_zero, List.set_cons_succ, List.map_cons, List.map_nil, List.replicate_succ, List.replicate_zero, List.cons_append, List.nil_append, List.length_cons, List.length_nil, Nat.reduceAdd, Nat.reduceSub, Nat.reduceEqDiff, decide_eq_true_eq, Bool.not_eq_true', Bool.not_false, Bool.not_true, decide_eq_false_iff_not, true_and, and_true, true_or, or_true, reduceIte, Bool.false_eq_true, Int.reduceLT, Int.reduceLE, Nat.reduceLT, Nat.reduceLeDiff, Int.reduceEq, Int.reduceNe, fz_told]
  refine frs_loop h os ho hl (os.length + 1) 0 [] _ (Nat.zero_le _) (by rw [List.drop_zero]; omega) (Nat.le_refl _) ?_
  simp only [r_bind, r_pure, r_c, r_var, r_bin, r_u, r_test, r_frz, r_nil, r_cons, r_guard, r_tup, r_lst, r_nopart, r_part, r_sl, r_and, r_or, r_not, r_mite, r_andV, r_notV, r_pop, r_app, r_shr', r_call, rf_fun, r_snil, then_nx, then_rt, r_seq, r_drop, r_set, r_own', r_fix', r_to, r_ret, r_if, r_for, r_for0, r_sub, r_par3, r_par, r_frzT, r_frzF, r_it, r_enum, r_rng, r_comp, op_some, op_none, op_ite, op_map, pk_non, pk_bl, pk_int, pk_str, pk_tup, pk_lst, pk_tmp, pk_scr, pk_own, pkO_some, pk_ref, pkR_some, rd_val, rd_own, fz_non, fz_bl, fz_int, fz_str, fz_tup, fz_lst, fz_tmp, fz_ref, fz_scr, gl_own, gO_some, gl_ref, gR_some, sl_own, sl_ref, ab_bl, ai_int, it_tup, it_lst, it_tmp, it_scr, put_n, put_p, put_t, put_int, put_lst, put_tup, own_tmp, fix_own, shr_tmp, ret_nx, ret_rt, add_ii, add_ll, add_tt, sub_ii, mul_ii, mul_li, mul_ti, div_ii, mod_ii, pow_ii, ints_ii, eq_ii, ne_ii, is_non, is_int, is_tup, is_intB, not_non, not_tup, ix_l, ix_t, sl_l, sl_t, sl_s, rev_l, neg_i, len_l, len_t, int_i, abs_i, tup_l, tup_t, lst_l, lst_t, sum_l, toInts_int, zip_tt, rng_1, rng_2, rng_3, isi_int_int, isi_str_int, isi_bool_int, isi_tup_int, isi_tup_tup, isiC_int, isiC_tup, isiA_int, List.getElem?_cons_zero, List.getElem?_cons_succ, List.set_cons_zero, List.set_cons_succ, List.map_cons, List.map_nil, List.replicate_succ, List.replicate_zero, List.cons_append, List.nil_append, List.length_cons, List.length_nil, Nat.reduceAdd, Nat.reduceSub, Nat.reduceEqDiff, decide_eq_true_eq, Bool.not_eq_true', Bool.not_false, Bool.not_true, decide_eq_false_iff_not, true_and, and_true, true_or, or_true, reduceIte, Bool.false_eq_true, Int.reduceLT, Int.reduceLE, Nat.reduceLT, Nat.reduceLeDiff, Int.reduceEq, Int.reduceNe, List.drop_zero, Nat.zero_add]
  exact ⟨by rw [lim_is]; omega, hp⟩
end K74

set_option Elab.async false
set_option linter.all false
set_option maxRecDepth 100000
set_option maxHeartbeats 4000000
namespace K74
open PySem PySem.Spec L2 Mir
theorem lnum_loop (h : List Cell) (os : List Int) (ho : Oc os) (a : Option Sl) : ∀ (rest : List Int) (q : Nat) (N B : Int) (P : Fl → Mem → Prop), os.drop q = rest → q ≤ os.length →
    (match rdN rest with
      | none => ∀ N B : Int, P .nx ⟨[some (.val (.lst (iL os))), a, some (.val (.int N)), some (.val (.int B)), some (.val (.int os.length))], h⟩
      | some (v, k) => ∀ N' B' z : Int, rest[k - 1]? = some z → N' + B' * z = N + B * v → P .nx ⟨[some (.val (.lst (iL os))), a, some (.val (.int N')), some (.val (.int B')), some (.val (.int ((q + k - 1 : Nat) : Int)))], h⟩) →
    R (sLoop C_law_number_at1 L_law_number_at1) ⟨[some (.val (.lst (iL os))), a, some (.val (.int N)), some (.val (.int B)), some (.val (.int q))], h⟩ P
  | [], q, N, B, P, hd, hq, hp => by
    have hql : q = os.length := by
      have := congrArg List.length hd
      rw [List.length_drop, List.length_nil] at this
      omega
    subst hql
    refine r_loopg fun lp hlp => ?_
    unfold C_law_number_at1 L_law_number_at1
    simp only [r_bind, r_pure, r_c, r_var, r_bin, r_u, r_test, r_frz, r_nil, r_cons, r_guard, r_tup, r_lst, r_nopart, r_part, r_sl, r_and, r_or, r_not, r_mite, r_andV, r_notV, r_pop, r_app, r_shr', r_call, rf_fun, r_snil, then_nx, then_rt, r_seq, r_drop, r_set, r_own', r_fix', r_to, r_ret, r_if, r_for, r_for0, r_sub, r_par3, r_par, r_frzT, r_frzF, r_it, r_enum, r_rng, r_comp, op_some, op_none, op_ite, op_map, pk_non, pk_bl, pk_int, pk_str, pk_tup, pk_lst, pk_tmp, pk_scr, pk_own, pkO_some, pk_ref, pkR_some, rd_val, rd_own, fz_non, fz_bl, fz_int, fz_str, fz_tup, fz_lst, fz_tmp, fz_ref, fz_scr, gl_own, gO_some, gl_ref, gR_some, sl_own, sl_ref, ab_bl, ai_int, it_tup, it_lst, it_tmp, it_scr, put_n, put_p, put_t, put_int, put_lst, put_tup, own_tmp, fix_own, shr_tmp, ret_nx, ret_rt, add_ii, add_ll, add_tt, sub_ii, mul_ii, mul_li, mul_ti, div_ii, mod_ii, pow_ii, ints_ii, eq_ii, ne_ii, is_non, is_int, is_tup, is_intB, not_non, not_tup, ix_l, ix_t, sl_l, sl_t, sl_s, rev_l, neg_i, len_l, len_t, int_i, abs_i, tup_l, tup_t, lst_l, lst_t, sum_l, toInts_int, zip_tt, rng_1, rng_2, rng_3, isi_int_int, isi_str_int, isi_bool_int, isi_tup_int, isi_tup_tup, isiC_int, isiC_tup, isiA_int, List.getElem?_cons_zero, List.getElem?_cons_succ, List.set_cons_zero, List.set_cons_succ, List.map_cons, List.map_nil, List.replicate_succ, List.replicate_zero, List.cons_append, List.nil_append, List.length_cons, List.length_nil, Nat.reduceAdd, Nat.reduceSub, Nat.reduceEqDiff, decide_eq_true_eq, Bool.not_eq_true', Bool.not_false, Bool.not_true, decide_eq_false_iff_not, true_and, and_true, true_or, or_true, reduceIte, Bool.false_eq_true, Int.reduceLT, Int.reduceLE, Nat.reduceLT, Nat.reduceLeDiff, Int.reduceEq, Int.reduceNe, iL_len]
    rw [if_neg (by omega)]
    exact hp N B
  | x :: r, q, N, B, P, hd, hq, hp => by
    obtain ⟨h1, h2, h3⟩ := drop_hd hd
    have hx := ho x (List.mem_of_getElem? h2)
    refine r_loopg fun lp hlp => ?_
    unfold C_law_number_at1 L_law_number_at1
    simp only [r_bind, r_pure, r_c, r_var, r_bin, r_u, r_test, r_frz, r_nil, r_cons, r_guard, r_tup, r_lst, r_nopart, r_part, r_sl, r_and, r_or, r_not, r_mite, r_andV, r_notV, r_pop, r_app, r_shr', r_call, rf_fun, r_snil, then_nx, then_rt, r_seq, r_drop, r_set, r_own', r_fix', r_to, r_ret, r_if, r_for, r_for0, r_sub, r_par3, r_par, r_frzT, r_frzF, r_it, r_enum, r_rng, r_comp, op_some, op_none, op_ite, op_map, pk_non, pk_bl, pk_int, pk_str, pk_tup, pk_lst, pk_tmp, pk_scr, pk_own, pkO_some, pk_ref, pkR_some, rd_val, rd_own, fz_non, fz_bl, fz_int, fz_str, fz_tup, fz_lst, fz_tmp, fz_ref, fz_scr, gl_own, gO_some, gl_ref, gR_some, sl_own, sl_ref, ab_bl, ai_int, it_tup, it_lst, it_tmp, it_scr, put_n, put_p, put_t, put_int, put_lst, put_tup, own_tmp, fix_own, shr_tmp, ret_nx, ret_rt, add_ii, add_ll, add_tt, sub_ii, mul_ii, mul_li, mul_ti, div_ii, mod_ii, pow_ii, ints_ii, eq_ii, ne_ii, is_non, is_int, is_tup, is_intB, not_non, not_tup, ix_l, ix_t, sl_l, sl_t, sl_s, rev_l, neg_i, len_l, len_t, int_i, abs_i, tup_l, tup_t, lst_l, lst_t, sum_l, toInts_int, zip_tt, rng_1, rng_2, rng_3, isi_int_int, isi_str_int, isi_bool_int, isi_tup_int, isi_tup_tup, isiC_int, isiC_tup, isiA_int, List.getElem?_cons_zero, List.getElem?_cons_succ, List.set_cons_zero, List.set_cons_succ, List.map_cons, List.map_nil, List.replicate_succ, List.replicate_zero, List.cons_append, List.nil_append, List.length_cons, List.length_nil, Nat.reduceAdd, Nat.reduceSub, Nat.reduceEqDiff, decide_eq_true_eq, Bool.not_eq_true', Bool.not_false, Bool.not_true, decide_eq_false_iff_not, true_and, and_true, true_or, or_true, reduceIte, Bool.false_eq_true, Int.reduceLT, Int.reduceLE, Nat.reduceLT, Nat.reduceLeDiff, Int.reduceEq, Int.reduceNe, iL_len]
    rw [if_pos (by omega)]
    simp only [r_bind, r_pure, r_c, r_var, r_bin, r_u, r_test, r_frz, r_nil, r_cons, r_guard, r_tup, r_lst, r_nopart, r_part, r_sl, r_and, r_or, r_not, r_mite, r_andV, r_notV, r_pop, r_app, r_shr', r_call, rf_fun, r_snil, then_nx, then_rt, r_seq, r_drop, r_set, r_own', r_fix', r_to, r_ret, r_if, r_for, r_for0, r_sub, r_par3, r_par, r_frzT, r_frzF, r_it, r_enum, r_rng, r_comp, op_some, op_none, op_ite, op_map, pk_non, pk_bl, pk_int, pk_str, pk_tup, pk_lst, pk_tmp, pk_scr, pk_own, pkO_some, pk_ref, pkR_some, rd_val, rd_own, fz_non, fz_bl, fz_int, fz_str, fz_tup, fz_lst, fz_tmp, fz_ref, fz_scr, gl_own, gO_some, gl_ref, gR_some, sl_own, sl_ref, ab_bl, ai_int, it_tup, it_lst, it_tmp, it_scr, put_n, put_p, put_t, put_int, put_lst, put_tup, own_tmp, fix_own, shr_tmp, ret_nx, ret_rt, add_ii, add_ll, add_tt, sub_ii, mul_ii, mul_li, mul_ti, div_ii, mod_ii, pow_ii, ints_ii, eq_ii, ne_ii, is_non, is_int, is_tup, is_intB, not_non, not_tup, ix_l, ix_t, sl_l, sl_t, sl_s, rev_l, neg_i, len_l, len_t, int_i, abs_i, tup_l, tup_t, lst_l, lst_t, sum_l, toInts_int, zip_tt, rng_1, rng_2, rng_3, isi_int_int, isi_str_int, isi_bool_int, isi_tup_int, isi_tup_tup, isiC_int, isiC_tup, isiA_int, List.getElem?_cons_zero, List.getElem?_cons_succ, List.set_cons_zero, List.set_cons_succ, List.map_cons, List.map_nil, List.replicate_succ, List.replicate_zero, List.cons_append, List.nil_append, List.length_cons, List.length_nil, Nat.reduceAdd, Nat.reduceSub, Nat.reduceEqDiff, decide_eq_true_eq, Bool.not_eq_true', Bool.not_false, Bool.not_true, decide_eq_false_iff_not, true_and, and_true, true_or, or_true, reduceIte, Bool.false_eq_true, Int.reduceLT, Int.reduceLE, Nat.reduceLT, Nat.reduceLeDiff, Int.reduceEq, Int.reduceNe, at_nat, iL_get, h2, Option.map_some]
    unfold rdN at hp
    by_cases hx2 : x < 128
    · rw [if_neg (by omega)]
      rw [if_pos hx2] at hp
      have := hp N B x rfl rfl
      exact this
    · rw [if_pos (by omega)]
      rw [if_neg hx2] at hp
      rw [mul_r (by omega), mul_r (by omega)]
      simp only [r_bind, r_pure, r_c, r_var, r_bin, r_u, r_test, r_frz, r_nil, r_cons, r_guard, r_tup, r_lst, r_nopart, r_part, r_sl, r_and, r_or, r_not, r_mite, r_andV, r_notV, r_pop, r_app, r_shr', r_call, rf_fun, r_snil, then_nx, then_rt, r_seq, r_drop, r_set, r_own', r_fix', r_to, r_ret, r_if, r_for, r_for0, r_sub, r_par3, r_par, r_frzT, r_frzF, r_it, r_enum, r_rng, r_comp, op_some, op_none, op_ite, op_map, pk_non, pk_bl, pk_int, pk_str, pk_tup, pk_lst, pk_tmp, pk_scr, pk_own, pkO_some, pk_ref, pkR_some, rd_val, rd_own, fz_non, fz_bl, fz_int, fz_str, fz_tup, fz_lst, fz_tmp, fz_ref, fz_scr, gl_own, gO_some, gl_ref, gR_some, sl_own, sl_ref, ab_bl, ai_int, it_tup, it_lst, it_tmp, it_scr, put_n, put_p, put_t, put_int, put_lst, put_tup, own_tmp, fix_own, shr_tmp, ret_nx, ret_rt, add_ii, add_ll, add_tt, sub_ii, mul_ii, mul_li, mul_ti, div_ii, mod_ii, pow_ii, ints_ii, eq_ii, ne_ii, is_non, is_int, is_tup, is_intB, not_non, not_tup, ix_l, ix_t, sl_l, sl_t, sl_s, rev_l, neg_i, len_l, len_t, int_i, abs_i, tup_l, tup_t, lst_l, lst_t, sum_l, toInts_int, zip_tt, rng_1, rng_2, rng_3, isi_int_int, isi_str_int, isi_bool_int, isi_tup_int, isi_tup_tup, isiC_int, isiC_tup, isiA_int, List.getElem?_cons_zero, List.getElem?_cons_succ, List.set_cons_zero, List.set_cons_succ, List.map_cons, List.map_nil, List.replicate_succ, List.replicate_zero, List.cons_append, List.nil_append, List.length_cons, List.length_nil, Nat.reduceAdd, Nat.reduceSub, Nat.reduceEqDiff, decide_eq_true_eq, Bool.not_eq_true', Bool.not_false, Bool.not_true, decide_eq_false_iff_not, true_and, and_true, true_or, or_true, reduceIte, Bool.false_eq_true, Int.reduceLT, Int.reduceLE, Nat.reduceLT, Nat.reduceLeDiff, Int.reduceEq, Int.reduceNe]
      subst hlp
      have e2 : ((q : Int) + 1) = ((q + 1 : Nat) : Int) := by omega
      rw [e2]
      refine lnum_loop h os ho a r (q + 1) _ _ P h3 (by omega) ?_
      cases hr : rdN r with
      | none => rw [hr] at hp; exact hp
      | some w =>
        obtain ⟨v, k⟩ := w
        rw [hr] at hp
        have hk := (rdN_len hr).1
        intro N' B' z hz hN
        have := hp N' B' z (by
          show (x :: r)[k + 1 - 1]? = some z
          rw [show k + 1 - 1 = (k - 1) + 1 by omega, List.getElem?_cons_succ]
          exact hz) (by
          show N' + B' * z = N + B * (x - 128 + 128 * v)
          rw [hN, Int.mul_add, Int.mul_assoc]
          omega)
        have e3 : q + (k + 1) - 1 = q + 1 + k - 1 := by omega
        rw [← e3]
        exact this
theorem lnum_ok {h : List Cell} {P : Dv → List Cell → Prop} {os : List Int} {p : Nat} (ho : Oc os) (hl : os.length < 40000) (hpl : p ≤ os.length) (hp : match numL (os.drop p) with | none => P .non h | some (v, k) => P (.tup [.int v, .int ((p + k : Nat) : Int)]) h) : RF (M_law_number_at [.lst (iL os), .int p] h) P := by
  unfold M_law_number_at B_law_number_at
  simp only [r_bind, r_pure, r_c, r_var, r_bin, r_u, r_test, r_frz, r_nil, r_cons, r_guard, r_tup, r_lst, r_nopart, r_part, r_sl, r_and, r_or, r_not, r_mite, r_andV, r_notV, r_pop, r_app, r_shr', r_call, rf_fun, r_snil, then_nx, then_rt, r_seq, r_drop, r_set, r_own', r_fix', r_to, r_ret, r_if, r_for, r_for0, r_sub, r_par3, r_par, r_frzT, r_frzF, r_it, r_enum, r_rng, r_comp, op_some, op_none, op_ite, op_map, pk_non, pk_bl, pk_int, pk_str, pk_tup, pk_lst, pk_tmp, pk_scr, pk_own, pkO_some, pk_ref, pkR_some, rd_val, rd_own, fz_non, fz_bl, fz_int, fz_str, fz_tup, fz_lst, fz_tmp, fz_ref, fz_scr, gl_own, gO_some, gl_ref, gR_some, sl_own, sl_ref, ab_bl, ai_int, it_tup, it_lst, it_tmp, it_scr, put_n, put_p, put_t, put_int, put_lst, put_tup, own_tmp, fix_own, shr_tmp, ret_nx, ret_rt, add_ii, add_ll, add_tt, sub_ii, mul_ii, mul_li, mul_ti, div_ii, mod_ii, pow_ii, ints_ii, eq_ii, ne_ii, is_non, is_int, is_tup, is_intB, not_non, not_tup, ix_l, ix_t, sl_l, sl_t, sl_s, rev_l, neg_i, len_l, len_t, int_i, abs_i, tup_l, tup_t, lst_l, lst_t, sum_l, toInts_int, zip_tt, rng_1, rng_2, rng_3, isi_int_int, isi_str_int, isi_bool_int, isi_tup_int, isi_tup_tup, isiC_int, isiC_tup, isiA_int, List.getElem?_cons_zero, List.getElem?_cons_succ, List.set_cons_zero, List.set_cons_succ, List.map_cons, List.map_nil, List.replicate_succ, List.replicate_zero, List.cons_append, List.nil_append, List.length_cons, List.length_nil, Nat.reduceAdd, Nat.reduceSub, Nat.reduceEqDiff, decide_eq_true_eq, Bool.not_eq_true', Bool.not_false, Bool.not_true, decide_eq_false_iff_not, true_and, and_true, true_or, or_true, reduceIte, Bool.false_eq_true, Int.reduceLT, Int.reduceLE, Nat.reduceLT, Nat.reduceLeDiff, Int.reduceEq, Int.reduceNe]
  rw [if_neg (by omega)]
  refine lnum_loop h os ho _ (os.drop p) p 0 1 _ rfl hpl ?_
  unfold numL at hp
  cases hr : rdN (os.drop p) with
  | none =>
    rw [hr] at hp
    intro N B
    simp only [r_bind, r_pure, r_c, r_var, r_bin, r_u, r_test, r_frz, r_nil, r_cons, r_guard, r_tup, r_lst, r_nopart, r_part, r_sl, r_and, r_or, r_not, r_mite, r_andV, r_notV, r_pop, r_app, r_shr', r_call, rf_fun, r_snil, then_nx, then_rt, r_seq, r_drop, r_set, r_own', r_fix', r_to, r_ret, r_if, r_for, r_for0, r_sub, r_par3, r_par, r_frzT, r_frzF, r_it, r_enum, r_rng, r_comp, op_some, op_none, op_ite, op_map, pk_non, pk_bl, pk_int, pk_str, pk_tup, pk_lst, pk_tmp, pk_scr, pk_own, pkO_some, pk_ref, pkR_some, rd_val, rd_own, fz_non, fz_bl, fz_int, fz_str, fz_tup, fz_lst, fz_tmp, fz_ref, fz_scr, gl_own, gO_some, gl_ref, gR_some, sl_own, sl_ref, ab_bl, ai_int, it_tup, it_lst, it_tmp, it_scr, put_n, put_p, put_t, put_int, put_lst, put_tup, own_tmp, fix_own, shr_tmp, ret_nx, ret_rt, add_ii, add_ll, add_tt, sub_ii, mul_ii, mul_li, mul_ti, div_ii, mod_ii, pow_ii, ints_ii, eq_ii, ne_ii, is_non, is_int, is_tup, is_intB, not_non, not_tup, ix_l, ix_t, sl_l, sl_t, sl_s, rev_l, neg_i, len_l, len_t, int_i, abs_i, tup_l, tup_t, lst_l, lst_t, sum_l, toInts_int, zip_tt, rng_1, rng_2, rng_3, isi_int_int, isi_str_int, isi_bool_int, isi_tup_int, isi_tup_tup, isiC_int, isiC_tup, isiA_int, List.getElem?_cons_zero, List.getElem?_cons_succ, List.set_cons_zero, List.set_cons_succ, List.map_cons, List.map_nil, List.replicate_succ, List.replicate_zero, List.cons_append, List.nil_append, List.length_cons, List.length_nil, Nat.reduceAdd, Nat.reduceSub, Nat.reduceEqDiff, decide_eq_true_eq, Bool.not_eq_true', Bool.not_false, Bool.not_true, decide_eq_false_iff_not, true_and, and_true, true_or, or_true, reduceIte, Bool.false_eq_true, Int.reduceLT, Int.reduceLE, Nat.reduceLT, Nat.reduceLeDiff, Int.reduceEq, Int.reduceNe, iL_len]
    rw [if_pos (by omega)]
    exact hp
  | some w =>
    obtain ⟨v, k⟩ := w
    rw [hr] at hp
    dsimp only at hp ⊢
    have hk := rdN_len hr
    rw [List.length_drop] at hk
    intro N B z hz hN
    have hz' := hz
    rw [get_drop, show p + (k - 1) = p + k - 1 by omega] at hz'
    have hzo := ho z (List.mem_of_getElem? hz')
    simp only [r_bind, r_pure, r_c, r_var, r_bin, r_u, r_test, r_frz, r_nil, r_cons, r_guard, r_tup, r_lst, r_nopart, r_part, r_sl, r_and, r_or, r_not, r_mite, r_andV, r_notV, r_pop, r_app, r_shr', r_call, rf_fun, r_snil, then_nx, then_rt, r_seq, r_drop, r_set, r_own', r_fix', r_to, r_ret, r_if, r_for, r_for0, r_sub, r_par3, r_par, r_frzT, r_frzF, r_it, r_enum, r_rng, r_comp, op_some, op_none, op_ite, op_map, pk_non, pk_bl, pk_int, pk_str, pk_tup, pk_lst, pk_tmp, pk_scr, pk_own, pkO_some, pk_ref, pkR_some, rd_val, rd_own, fz_non, fz_bl, fz_int, fz_str, fz_tup, fz_lst, fz_tmp, fz_ref, fz_scr, gl_own, gO_some, gl_ref, gR_some, sl_own, sl_ref, ab_bl, ai_int, it_tup, it_lst, it_tmp, it_scr, put_n, put_p, put_t, put_int, put_lst, put_tup, own_tmp, fix_own, shr_tmp, ret_nx, ret_rt, add_ii, add_ll, add_tt, sub_ii, mul_ii, mul_li, mul_ti, div_ii, mod_ii, pow_ii, ints_ii, eq_ii, ne_ii, is_non, is_int, is_tup, is_intB, not_non, not_tup, ix_l, ix_t, sl_l, sl_t, sl_s, rev_l, neg_i, len_l, len_t, int_i, abs_i, tup_l, tup_t, lst_l, lst_t, sum_l, toInts_int, zip_tt, rng_1, rng_2, rng_3, isi_int_int, isi_str_int, isi_bool_int, isi_tup_int, isi_tup_tup, isiC_int, isiC_tup, isiA_int, List.getElem?_cons_zero, List.getElem?_cons_succ, List.set_cons_zero, List.set_cons_succ, List.map_cons, List.map_nil, List.replicate_succ, List.replicate_zero, List.cons_append, List.nil_append, List.length_cons, List.length_nil, Nat.reduceAdd, Nat.reduceSub, Nat.reduceEqDiff, decide_eq_true_eq, Bool.not_eq_true', Bool.not_false, Bool.not_true, decide_eq_false_iff_not, true_and, and_true, true_or, or_true, reduceIte, Bool.false_eq_true, Int.reduceLT, Int.reduceLE, Nat.reduceLT, Nat.reduceLeDiff, Int.reduceEq, Int.reduceNe, iL_len]
    rw [if_neg (by omega)]
    simp only [r_bind, r_pure, r_c, r_var, r_bin, r_u, r_test, r_frz, r_nil, r_cons, r_guard, r_tup, r_lst, r_nopart, r_part, r_sl, r_and, r_or, r_not, r_mite, r_andV, r_notV, r_pop, r_app, r_shr', r_call, rf_fun, r_snil, then_nx, then_rt, r_seq, r_drop, r_set, r_own', r_fix', r_to, r_ret, r_if, r_for, r_for0, r_sub, r_par3, r_par, r_frzT, r_frzF, r_it, r_enum, r_rng, r_comp, op_some, op_none, op_ite, op_map, pk_non, pk_bl, pk_int, pk_str, pk_tup, pk_lst, pk_tmp, pk_scr, pk_own, pkO_some, pk_ref, pkR_some, rd_val, rd_own, fz_non, fz_bl, fz_int, fz_str, fz_tup, fz_lst, fz_tmp, fz_ref, fz_scr, gl_own, gO_some, gl_ref, gR_some, sl_own, sl_ref, ab_bl, ai_int, it_tup, it_lst, it_tmp, it_scr, put_n, put_p, put_t, put_int, put_lst, put_tup, own_tmp, fix_own, shr_tmp, ret_nx, ret_rt, add_ii, add_ll, add_tt, sub_ii, mul_ii, mul_li, mul_ti, div_ii, mod_ii, pow_ii, ints_ii, eq_ii, ne_ii, is_non, is_int, is_tup, is_intB, not_non, not_tup, ix_l, ix_t, sl_l, sl_t, sl_s, rev_l, neg_i, len_l, len_t, int_i, abs_i, tup_l, tup_t, lst_l, lst_t, sum_l, toInts_int, zip_tt, rng_1, rng_2, rng_3, isi_int_int, isi_str_int, isi_bool_int, isi_tup_int, isi_tup_tup, isiC_int, isiC_tup, isiA_int, List.getElem?_cons_zero, List.getElem?_cons_succ, List.set_cons_zero, List.set_cons_succ, List.map_cons, List.map_nil, List.replicate_succ, List.replicate_zero, List.cons_append, List.nil_append, List.length_cons, List.length_nil, Nat.reduceAdd, Nat.reduceSub, Nat.reduceEqDiff, decide_eq_true_eq, Bool.not_eq_true', Bool.not_false, Bool.not_true, decide_eq_false_iff_not, true_and, and_true, true_or, or_true, reduceIte, Bool.false_eq_true, Int.reduceLT, Int.reduceLE, Nat.reduceLT, Nat.reduceLeDiff, Int.reduceEq, Int.reduceNe, at_nat, iL_get, hz', Option.map_some]
    rw [mul_r (by omega)]
    simp only [r_bind, r_pure, r_c, r_var, r_bin, r_u, r_test, r_frz, r_nil, r_cons, r_guard, r_tup, r_lst, r_nopart, r_part, r_sl, r_and, r_or, r_not, r_mite, r_andV, r_notV, r_pop, r_app, r_shr', r_call, rf_fun, r_snil, then_nx, then_rt, r_seq, r_drop, r_set, r_own', r_fix', r_to, r_ret, r_if, r_for, r_for0, r_sub, r_par3, r_par, r_frzT, r_frzF, r_it, r_enum, r_rng, r_comp, op_some, op_none, op_ite, op_map, pk_non, pk_bl, pk_int, pk_str, pk_tup, pk_lst, pk_tmp, pk_scr, pk_own, pkO_some, pk_ref, pkR_some, rd_val, rd_own, fz_non, fz_bl, fz_int, fz_str, fz_tup, fz_lst, fz_tmp, fz_ref, fz_scr, gl_own, gO_some, gl_ref, gR_some, sl_own, sl_ref, ab_bl, ai_int, it_tup, it_lst, it_tmp, it_scr, put_n, put_p, put_t, put_int, put_lst, put_tup, own_tmp, fix_own, shr_tmp, ret_nx, ret_rt, add_ii, add_ll, add_tt, sub_ii, mul_ii, mul_li, mul_ti, div_ii, mod_ii, pow_ii, ints_ii, eq_ii, ne_ii, is_non, is_int, is_tup, is_intB, not_non, not_tup, ix_l, ix_t, sl_l, sl_t, sl_s, rev_l, neg_i, len_l, len_t, int_i, abs_i, tup_l, tup_t, lst_l, lst_t, sum_l, toInts_int, zip_tt, rng_1, rng_2, rng_3, isi_int_int, isi_str_int, isi_bool_int, isi_tup_int, isi_tup_tup, isiC_int, isiC_tup, isiA_int, List.getElem?_cons_zero, List.getElem?_cons_succ, List.set_cons_zero, List.set_cons_succ, List.map_cons, List.map_nil, List.replicate_succ, List.replicate_zero, List.cons_append, List.nil_append, List.length_cons, List.length_nil, Nat.reduceAdd, Nat.reduceSub, Nat.reduceEqDiff, decide_eq_true_eq, Bool.not_eq_true', Bool.not_false, Bool.not_true, decide_eq_false_iff_not, true_and, and_true, true_or, or_true, reduceIte, Bool.false_eq_true, Int.reduceLT, Int.reduceLE, Nat.reduceLT, Nat.reduceLeDiff, Int.reduceEq, Int.reduceNe]
    have hv : N + B * z = v := by rw [hN]; omega
    have e4 : ((p + k - 1 : Nat) : Int) + 1 = ((p + k : Nat) : Int) := by omega
    rw [hv, e4]
    by_cases h1 : 1 < k
    · rw [if_pos (by omega)]
      by_cases h2 : z = 0
      · rw [if_pos h2]
        rw [if_pos ⟨h1, by rw [hz, h2]⟩] at hp
        exact hp
      · rw [if_neg h2]
        rw [if_neg (fun hh => h2 (by have := hh.2; rw [hz] at this; exact Option.some.inj this))] at hp
        exact ⟨by rw [lim_is]; omega, hp⟩
    · rw [if_neg (by omega)]
      rw [if_neg (fun hh => h1 hh.1)] at hp
      exact ⟨by rw [lim_is]; omega, hp⟩
theorem lfr_loop (h : List Cell) (os : List Int) (ho : Oc os) (hl : os.length < 40000) : ∀ (f p t : Nat) (bs : List Dv) (e1 e4 e5 e6 e7 : Option Sl) (P : Fl → Mem → Prop), p ≤ os.length → (os.drop p).length < f → bs.length ≤ p →
    (∀ s : Mem, s.hp = h → P (.rt (.tup [.lst (bs ++ (frsS f (os.drop p)).1.map fun b => .lst (iL b)), .int ((p + (frsS f (os.drop p)).2 : Nat) : Int)])) s) →
    R (forS (putN 1) F_law_frames_in1 (rngD t 1 f)) ⟨[some (.val (.lst (iL os))), e1, some (.val (.lst bs)), some (.val (.int p)), e4, e5, e6, e7], h⟩ P
  | 0, p, t, bs, _, _, _, _, _, P, _, hf, _, _ => absurd hf (Nat.not_lt_zero _)
  | f + 1, p, t, bs, e1, e4, e5, e6, e7, P, hpl, hf, hbl, hp => by
    show R (forS _ _ (.int t :: rngD ((t : Int) + 1) 1 f)) _ P
    rw [r_for1]
    generalize hF : forS (putN 1) F_law_frames_in1 (rngD ((t : Int) + 1) 1 f) = rst
    unfold F_law_frames_in1
    simp only [r_bind, r_pure, r_c, r_var, r_bin, r_u, r_test, r_frz, r_nil, r_cons, r_guard, r_tup, r_lst, r_nopart, r_part, r_sl, r_and, r_or, r_not, r_mite, r_andV, r_notV, r_pop, r_app, r_shr', r_call, rf_fun, r_snil, then_nx, then_rt, r_seq, r_drop, r_set, r_own', r_fix', r_to, r_ret, r_if, r_for, r_for0, r_sub, r_par3, r_par, r_frzT, r_frzF, r_it, r_enum, r_rng, r_comp, op_some, op_none, op_ite, op_map, pk_non, pk_bl, pk_int, pk_str, pk_tup, pk_lst, pk_tmp, pk_scr, pk_own, pkO_some, pk_ref, pkR_some, rd_val, rd_own, fz_non, fz_bl, fz_int, fz_str, fz_tup, fz_lst, fz_tmp, fz_ref, fz_scr, gl_own, gO_some, gl_ref, gR_some, sl_own, sl_ref, ab_bl, ai_int, it_tup, it_lst, it_tmp, it_scr, put_n, put_p, put_t, put_int, put_lst, put_tup, own_tmp, fix_own, shr_tmp, ret_nx, ret_rt, add_ii, add_ll, add_tt, sub_ii, mul_ii, mul_li, mul_ti, div_ii, mod_ii, pow_ii, ints_ii, eq_ii, ne_ii, is_non, is_int, is_tup, is_intB, not_non, not_tup, ix_l, ix_t, sl_l, sl_t, sl_s, rev_l, neg_i, len_l, len_t, int_i, abs_i, tup_l, tup_t, lst_l, lst_t, sum_l, toInts_int, zip_tt, rng_1, rng_2, rng_3, isi_int_int, isi_str_int, isi_bool_int, isi_tup_int, isi_tup_tup, isiC_int, isiC_tup, isiA_int, List.getElem?_cons_zero, List.getElem?_cons_succ, List.set_cons_zero, List.set_cons_succ, List.map_cons, List.map_nil, List.replicate_succ, List.replicate_zero, List.cons_append, List.nil_append, List.length_cons, List.length_nil, Nat.reduceAdd, Nat.reduceSub, Nat.reduceEqDiff, decide_eq_true_eq, Bool.not_eq_true', Bool.not_false, Bool.not_true, decide_eq_false_iff_not, true_and, and_true, true_or, or_true, reduceIte, Bool.false_eq_true, Int.reduceLT, Int.reduceLE, Nat.reduceLT, Nat.reduceLeDiff, Int.reduceEq, Int.reduceNe]
    refine lnum_ok ho hl hpl ?_
    unfold frsS frS at hp
    cases hr : numL (os.drop p) with
    | none =>
      rw [hr] at hp
      simp only [r_bind, r_pure, r_c, r_var, r_bin, r_u, r_test, r_frz, r_nil, r_cons, r_guard, r_tup, r_lst, r_nopart, r_part, r_sl, r_and, r_or, r_not, r_mite, r_andV, r_notV, r_pop, r_app, r_shr', r_call, rf_fun, r_snil, then_nx, then_rt, r_seq, r_drop, r_set, r_own', r_fix', r_to, r_ret, r_if, r_for, r_for0, r_sub, r_par3, r_par, r_frzT, r_frzF, r_it, r_enum, r_rng, r_comp, op_some, op_none, op_ite, op_map, pk_non, pk_bl, pk_int, pk_str, pk_tup, pk_lst, pk_tmp, pk_scr, pk_own, pkO_some, pk_ref, pkR_some, rd_val, rd_own, fz_non, fz_bl, fz_int, fz_str, fz_tup, fz_lst, fz_tmp, fz_ref, fz_scr, gl_own, gO_some, gl_ref, gR_some, sl_own, sl_ref, ab_bl, ai_int, it_tup, it_lst, it_tmp, it_scr, put_n, put_p, put_t, put_int, put_lst, put_tup, own_tmp, fix_own, shr_tmp, ret_nx, ret_rt, add_ii, add_ll, add_tt, sub_ii, mul_ii, mul_li, mul_ti, div_ii, mod_ii, pow_ii, ints_ii, eq_ii, ne_ii, is_non, is_int, is_tup, is_intB, not_non, not_tup, ix_l, ix_t, sl_l, sl_t, sl_s, rev_l, neg_i, len_l, len_t, int_i, abs_i, tup_l, tup_t, lst_l, lst_t, sum_l, toInts_int, zip_tt, rng_1, rng_2, rng_3, isi_int_int, isi_str_int, isi_bool_int, isi_tup_int, isi_tup_tup, isiC_int, isiC_tup, isiA_int, List.getElem?_cons_zero, List.getElem?_cons_succ, List.set_cons_zero, List.set_cons_succ, List.map_cons, List.map_nil, List.replicate_succ, List.replicate_zero, List.cons_append, List.nil_append, List.length_cons, List.length_nil, Nat.reduceAdd, Nat.reduceSub, Nat.reduceEqDiff, decide_eq_true_eq, Bool.not_eq_true', Bool.not_false, Bool.not_true, decide_eq_false_iff_not, true_and, and_true, true_or, or_true, reduceIte, Bool.false_eq_true, Int.reduceLT, Int.reduceLE, Nat.reduceLT, Nat.reduceLeDiff, Int.reduceEq, Int.reduceNe]
      refine ⟨by rw [lim_is]; omega, ?_⟩
      have hq : ∀ e : Mir.Env, P (.rt (.tup [.lst bs, .int p])) ⟨e, h⟩ := fun e => by simpa using hp ⟨e, h⟩ rfl
      exact hq _
    | some w =>
      obtain ⟨v, k⟩ := w
      rw [hr] at hp
      dsimp only at hp
      obtain ⟨hv, hk1, hk2⟩ := numL_facts (oc_drop ho) hr
      rw [List.length_drop] at hp hk2 hf
      obtain ⟨n, rfl⟩ : ∃ n : Nat, v = n := ⟨v.toNat, by omega⟩
      rw [Int.toNat_natCast] at hp
      have e1 : ((p + k : Nat) : Int) + (n : Int) = ((p + k + n : Nat) : Int) := by omega
      have e2 : ((p + k + n : Nat) : Int) + 1 = ((p + k + n + 1 : Nat) : Int) := by omega
      have e3 : ((p + k + n : Nat) : Int) + 2 = ((p + k + n + 2 : Nat) : Int) := by omega
      simp only [r_bind, r_pure, r_c, r_var, r_bin, r_u, r_test, r_frz, r_nil, r_cons, r_guard, r_tup, r_lst, r_nopart, r_part, r_sl, r_and, r_or, r_not, r_mite, r_andV, r_notV, r_pop, r_app, r_shr', r_call, rf_fun, r_snil, then_nx, then_rt, r_seq, r_drop, r_set, r_own', r_fix', r_to, r_ret, r_if, r_for, r_for0, r_sub, r_par3, r_par, r_frzT, r_frzF, r_it, r_enum, r_rng, r_comp, op_some, op_none, op_ite, op_map, pk_non, pk_bl, pk_int, pk_str, pk_tup, pk_lst, pk_tmp, pk_scr, pk_own, pkO_some, pk_ref, pkR_some, rd_val, rd_own, fz_non, fz_bl, fz_int, fz_str, fz_tup, fz_lst, fz_tmp, fz_ref, fz_scr, gl_own, gO_some, gl_ref, gR_some, sl_own, sl_ref, ab_bl, ai_int, it_tup, it_lst, it_tmp, it_scr, put_n, put_p, put_t, put_int, put_lst, put_tup, own_tmp, fix_own, shr_tmp, ret_nx, ret_rt, add_ii, add_ll, add_tt, sub_ii, mul_ii, mul_li, mul_ti, div_ii, mod_ii, pow_ii, ints_ii, eq_ii, ne_ii, is_non, is_int, is_tup, is_intB, not_non, not_tup, ix_l, ix_t, sl_l, sl_t, sl_s, rev_l, neg_i, len_l, len_t, int_i, abs_i, tup_l, tup_t, lst_l, lst_t, sum_l, toInts_int, zip_tt, rng_1, rng_2, rng_3, isi_int_int, isi_str_int, isi_bool_int, isi_tup_int, isi_tup_tup, isiC_int, isiC_tup, isiA_int, List.getElem?_cons_zero, List.getElem?_cons_succ, List.set_cons_zero, List.set_cons_succ, List.map_cons, List.map_nil, List.replicate_succ, List.replicate_zero, List.cons_append, List.nil_append, List.length_cons, List.length_nil, Nat.reduceAdd, Nat.reduceSub, Nat.reduceEqDiff, decide_eq_true_eq, Bool.not_eq_true', Bool.not_false, Bool.not_true, decide_eq_false_iff_not, true_and, and_true, true_or, or_true, reduceIte, Bool.false_eq_true, Int.reduceLT, Int.reduceLE, Nat.reduceLT, Nat.reduceLeDiff, Int.reduceEq, Int.reduceNe, at_0, at_1, iL_len, e1, e2, e3, cut_nn, iL_drop, iL_take]
      by_cases h1 : (n : Int) + 2 > ((os.length - p : Nat) : Int) - k
      · rw [if_pos (by omega)]
        rw [if_pos h1] at hp
        refine ⟨by rw [lim_is]; omega, ?_⟩
        have hq : ∀ e : Mir.Env, P (.rt (.tup [.lst bs, .int p])) ⟨e, h⟩ := fun e => by simpa using hp ⟨e, h⟩ rfl
        exact hq _
      · rw [if_neg (by omega)]
        rw [if_neg h1] at hp
        obtain ⟨x, y, hxy, hx, hy⟩ := two_at (os := os) (q := p + k + n) (by omega)
        rw [show p + k + n - (p + k) = n by omega]
        rw [List.drop_drop, get_drop, get_drop, show p + (k + n) = p + k + n by omega, show p + (k + n + 1) = p + k + n + 1 by omega, hx, hy] at hp
        refine lsum_ok (oc_take (oc_drop ho)) (by rw [List.length_take, List.length_drop]; omega) ?_
        simp only [r_bind, r_pure, r_c, r_var, r_bin, r_u, r_test, r_frz, r_nil, r_cons, r_guard, r_tup, r_lst, r_nopart, r_part, r_sl, r_and, r_or, r_not, r_mite, r_andV, r_notV, r_pop, r_app, r_shr', r_call, rf_fun, r_snil, then_nx, then_rt, r_seq, r_drop, r_set, r_own', r_fix', r_to, r_ret, r_if, r_for, r_for0, r_sub, r_par3, r_par, r_frzT, r_frzF, r_it, r_enum, r_rng, r_comp, op_some, op_none, op_ite, op_map, pk_non, pk_bl, pk_int, pk_str, pk_tup, pk_lst, pk_tmp, pk_scr, pk_own, pkO_some, pk_ref, pkR_some, rd_val, rd_own, fz_non, fz_bl, fz_int, fz_str, fz_tup, fz_lst, fz_tmp, fz_ref, fz_scr, gl_own, gO_some, gl_ref, gR_some, sl_own, sl_ref, ab_bl, ai_int, it_tup, it_lst, it_tmp, it_scr, put_n, put_p, put_t, put_int, put_lst, put_tup, own_tmp, fix_own, shr_tmp, ret_nx, ret_rt, add_ii, add_ll, add_tt, sub_ii, mul_ii, mul_li, mul_ti, div_ii, mod_ii, pow_ii, ints_ii, eq_ii, ne_ii, is_non, is_int, is_tup, is_intB, not_non, not_tup, ix_l, ix_t, sl_l, sl_t, sl_s, rev_l, neg_i, len_l, len_t, int_i, abs_i, tup_l, tup_t, lst_l, lst_t, sum_l, toInts_int, zip_tt, rng_1, rng_2, rng_3, isi_int_int, isi_str_int, isi_bool_int, isi_tup_int, isi_tup_tup, isiC_int, isiC_tup, isiA_int, List.getElem?_cons_zero, List.getElem?_cons_succ, List.set_cons_zero, List.set_cons_succ, List.map_cons, List.map_nil, List.replicate_succ, List.replicate_zero, List.cons_append, List.nil_append, List.length_cons, List.length_nil, Nat.reduceAdd, Nat.reduceSub, Nat.reduceEqDiff, decide_eq_true_eq, Bool.not_eq_true', Bool.not_false, Bool.not_true, decide_eq_false_iff_not, true_and, and_true, true_or, or_true, reduceIte, Bool.false_eq_true, Int.reduceLT, Int.reduceLE, Nat.reduceLT, Nat.reduceLeDiff, Int.reduceEq, Int.reduceNe, at_nat, iL_get, hx, hy, Option.map_some]
        by_cases h2 : x = Sm ((os.drop (p + k)).take n) % 256
        · rw [if_neg (fun z => z h2)]
          by_cases h3 : y = Sm ((os.drop (p + k)).take n) / 256
          · rw [if_neg (fun z => z h3)]
            rw [if_pos ⟨by rw [← h2], by rw [← h3]⟩] at hp
            dsimp only at hp
            refine ⟨by rw [lim_is]; omega, by rw [lim_is]; omega, ?_⟩
            subst hF
            have e5 : ((t : Int) + 1) = ((t + 1 : Nat) : Int) := by omega
            rw [e5]
            refine lfr_loop h os ho hl f (p + k + n + 2) (t + 1) _ _ _ _ _ _ P (by omega) (by rw [List.length_drop]; omega) (by rw [List.length_append, List.length_singleton]; omega) fun s hs => ?_
            have := hp s hs
            rw [List.drop_drop, List.map_cons, show p + (k + n + 2) = p + k + n + 2 by omega] at this
            rw [List.append_assoc, show p + k + n + 2 + (frsS f (os.drop (p + k + n + 2))).2 = p + (k + n + 2 + (frsS f (os.drop (p + k + n + 2))).2) by omega]
            exact this
          · rw [if_pos h3]
            rw [if_neg (fun hh => h3 (Option.some.inj hh.2))] at hp
            refine ⟨by rw [lim_is]; omega, ?_⟩
            have hq : ∀ e : Mir.Env, P (.rt (.tup [.lst bs, .int p])) ⟨e, h⟩ := fun e => by simpa using hp ⟨e, h⟩ rfl
            exact hq _
        · rw [if_pos h2]
          rw [if_neg (fun hh => h2 (Option.some.inj hh.1))] at hp
          refine ⟨by rw [lim_is]; omega, ?_⟩
          have hq : ∀ e : Mir.Env, P (.rt (.tup [.lst bs, .int p])) ⟨e, h⟩ := fun e => by simpa using hp ⟨e, h⟩ rfl
          exact hq _
theorem lfr_ok {h : List Cell} {P : Dv → List Cell → Prop} {os : List Int} (ho : Oc os) (hl : os.length < 39000) (hp : P (.tup [.lst ((frsS (os.length + 1) os).1.map fun b => .lst (iL b)), .int ((frsS (os.length + 1) os).2 : Int)]) h) : RF (M_law_frames_in [.lst (iL os)] h) P := by
  unfold M_law_frames_in B_law_frames_in
  simp only [r_bind, r_pure, r_c, r_var, r_bin, r_u, r_test, r_frz, r_nil, r_cons, r_guard, r_tup, r_lst, r_nopart, r_part, r_sl, r_and, r_or, r_not, r_mite, r_andV, r_notV, r_pop, r_app, r_shr', r_call, rf_fun, r_snil, then_nx, then_rt, r_seq, r_drop, r_set, r_own', r_fix', r_to, r_ret, r_if, r_for, r_for0, r_sub, r_par3, r_par, r_frzT, r_frzF, r_it, r_enum, r_rng, r_comp, op_some, op_none, op_ite, op_map, pk_non, pk_bl, pk_int, pk_str, pk_tup, pk_lst, pk_tmp, pk_scr, pk_own, pkO_some, pk_ref, pkR_some, rd_val, rd_own, fz_non, fz_bl, fz_int, fz_str, fz_tup, fz_lst, fz_tmp, fz_ref, fz_scr, gl_own, gO_some, gl_ref, gR_some, sl_own, sl_ref, ab_bl, ai_int, it_tup, it_lst, it_tmp, it_scr, put_n, put_p, put_t, put_int, put_lst, put_tup, own_tmp, fix_own, shr_tmp, ret_nx, ret_rt, add_ii, add_ll, add_tt, sub_ii, mul_ii, mul_li, mul_ti, div_ii, mod_ii, pow_ii, ints_ii, eq_ii, ne_ii, is_non, is_int, is_tup, is_intB, not_non, not_tup, ix_l, ix_t, sl_l, sl_t, sl_s, rev_l, neg_i, len_l, len_t, int_i, abs_i, tup_l, tup_t, lst_l, lst_t, sum_l, toInts_int, zip_tt, rng_1, rng_2, rng_3, isi_int_int, isi_str_int, isi_bool_int, isi_tup_int, isi_tup_tup, isiC_int, isiC_tup, isiA_int, List.getElem?_cons_zero, List.getElem?_cons_succ, List.set_cons_zero, List.set_cons_succ, List.map_cons, List.map_nil, List.replicate_succ, List.replicate_zero, List.cons_append, List.nil_append, List.length_cons, List.length_nil, Nat.reduceAdd, Nat.reduceSub, Nat.reduceEqDiff, decide_eq_true_eq, Bool.not_eq_true', Bool.not_false, Bool.not_true, decide_eq_false_iff_not, true_and, and_true, true_or, or_true, reduceIte, Bool.false_eq_true, Int.reduceLT, Int.reduceLE, Nat.reduceLT, Nat.reduceLeDiff, Int.reduceEq, Int.reduceNe, iL_len]
  refine ⟨Nat.zero_le _, by unfold B62; omega, ?_⟩
  have e : ((os.length : Int) + 1).toNat = os.length + 1 := by omega
  rw [e]
  refine lfr_loop h os ho (by omega) (os.length + 1) 0 0 [] none none none none none _ (Nat.zero_le _) (by rw [List.drop_zero]; omega) (Nat.le_refl _) fun s hs => ?_
  simp only [r_bind, r_pure, r_c, r_var, r_bin, r_u, r_test, r_frz, r_nil, r_cons, r_guard, r_tup, r_lst, r_nopart, r_part, r_sl, r_and, r_or, r_not, r_mite, r_andV, r_notV, r_pop, r_app, r_shr', r_call, rf_fun, r_snil, then_nx, then_rt, r_seq, r_drop, r_set, r_own', r_fix', r_to, r_ret, r_if, r_for, r_for0, r_sub, r_par3, r_par, r_frzT, r_frzF, r_it, r_enum, r_rng, r_comp, op_some, op_none, op_ite, op_map, pk_non, pk_bl, pk_int, pk_str, pk_tup, pk_lst, pk_tmp, pk_scr, pk_own, pkO_some, pk_ref, pkR_some, rd_val, rd_own, fz_non, fz_bl, fz_int, fz_str, fz_tup, fz_lst, fz_tmp, fz_ref, fz_scr, gl_own, gO_some, gl_ref, gR_some, sl_own, sl_ref, ab_bl, ai_int, it_tup, it_lst, it_tmp, it_scr, put_n, put_p, put_t, put_int, put_lst, put_tup, own_tmp, fix_own, shr_tmp, ret_nx, ret_rt, add_ii, add_ll, add_tt, sub_ii, mul_ii, mul_li, mul_ti, div_ii, mod_ii, pow_ii, ints_ii, eq_ii, ne_ii, is_non, is_int, is_tup, is_intB, not_non, not_tup, ix_l, ix_t, sl_l, sl_t, sl_s, rev_l, neg_i, len_l, len_t, int_i, abs_i, tup_l, tup_t, lst_l, lst_t, sum_l, toInts_int, zip_tt, rng_1, rng_2, rng_3, isi_int_int, isi_str_int, isi_bool_int, isi_tup_int, isi_tup_tup, isiC_int, isiC_tup, isiA_int, List.getElem?_cons_zero, List.getElem?_cons_succ, List.set_cons_zero, List.set_cons_succ, List.map_cons, List.map_nil, List.replicate_succ, List.replicate_zero, List.cons_append, List.nil_append, List.length_cons, List.length_nil, Nat.reduceAdd, Nat.reduceSub, Nat.reduceEqDiff, decide_eq_true_eq, Bool.not_eq_true', Bool.not_false, Bool.not_true, decide_eq_false_iff_not, true_and, and_true, true_or, or_true, reduceIte, Bool.false_eq_true, Int.reduceLT, Int.reduceLE, Nat.reduceLT, Nat.reduceLeDiff, Int.reduceEq, Int.reduceNe, List.drop_zero, Nat.zero_add, hs]
  exact hp
theorem due_ok {h : List Cell} {P : Dv → List Cell → Prop} {os : List Int} (ho : Oc os) (hl : os.length < 39000) (hp : P (frsD (frsS (os.length + 1) os)) h) : RF (M_law_due [.lst (iL os)] h) P := by
  unfold M_law_due B_law_due
  simp only [r_bind, r_pure, r_c, r_var, r_bin, r_u, r_test, r_frz, r_nil, r_cons, r_guard, r_tup, r_lst, r_nopart, r_part, r_sl, r_and, r_or, r_not, r_mite, r_andV, r_notV, r_pop, r_app, r_shr', r_call, rf_fun, r_snil, then_nx, then_rt, r_seq, r_drop, r_set, r_own', r_fix', r_to, r_ret, r_if, r_for, r_for0, r_sub, r_par3, r_par, r_frzT, r_frzF, r_it, r_enum, r_rng, r_comp, op_some, op_none, op_ite, op_map, pk_non, pk_bl, pk_int, pk_str, pk_tup, pk_lst, pk_tmp, pk_scr, pk_own, pkO_some, pk_ref, pkR_some, rd_val, rd_own, fz_non, fz_bl, fz_int, fz_str, fz_tup, fz_lst, fz_tmp, fz_ref, fz_scr, gl_own, gO_some, gl_ref, gR_some, sl_own, sl_ref, ab_bl, ai_int, it_tup, it_lst, it_tmp, it_scr, put_n, put_p, put_t, put_int, put_lst, put_tup, own_tmp, fix_own, shr_tmp, ret_nx, ret_rt, add_ii, add_ll, add_tt, sub_ii, mul_ii, mul_li, mul_ti, div_ii, mod_ii, pow_ii, ints_ii, eq_ii, ne_ii, is_non, is_int, is_tup, is_intB, not_non, not_tup, ix_l, ix_t, sl_l, sl_t, sl_s, rev_l, neg_i, len_l, len_t, int_i, abs_i, tup_l, tup_t, lst_l, lst_t, sum_l, toInts_int, zip_tt, rng_1, rng_2, rng_3, isi_int_int, isi_str_int, isi_bool_int, isi_tup_int, isi_tup_tup, isiC_int, isiC_tup, isiA_int, List.getElem?_cons_zero, List.getElem?_cons_succ, List.set_cons_zero, List.set_cons_succ, List.map_cons, List.map_nil, List.replicate_succ, List.replicate_zero, List.cons_append, List.nil_append, List.length_cons, List.length_nil, Nat.reduceAdd, Nat.reduceSub, Nat.reduceEqDiff, decide_eq_true_eq, Bool.not_eq_true', Bool.not_false, Bool.not_true, decide_eq_false_iff_not, true_and, and_true, true_or, or_true, reduceIte, Bool.false_eq_true, Int.reduceLT, Int.reduceLE, Nat.reduceLT, Nat.reduceLeDiff, Int.reduceEq, Int.reduceNe]
  refine lfr_ok ho hl ?_
  simp only [r_bind, r_pure, r_c, r_var, r_bin, r_u, r_test, r_frz, r_nil, r_cons, r_guard, r_tup, r_lst, r_nopart, r_part, r_sl, r_and, r_or, r_not, r_mite, r_andV, r_notV, r_pop, r_app, r_shr', r_call, rf_fun, r_snil, then_nx, then_rt, r_seq, r_drop, r_set, r_own', r_fix', r_to, r_ret, r_if, r_for, r_for0, r_sub, r_par3, r_par, r_frzT, r_frzF, r_it, r_enum, r_rng, r_comp, op_some, op_none, op_ite, op_map, pk_non, pk_bl, pk_int, pk_str, pk_tup, pk_lst, pk_tmp, pk_scr, pk_own, pkO_some, pk_ref, pkR_some, rd_val, rd_own, fz_non, fz_bl, fz_int, fz_str, fz_tup, fz_lst, fz_tmp, fz_ref, fz_scr, gl_own, gO_some, gl_ref, gR_some, sl_own, sl_ref, ab_bl, ai_int, it_tup, it_lst, it_tmp, it_scr, put_n, put_p, put_t, put_int, put_lst, put_tup, own_tmp, fix_own, shr_tmp, ret_nx, ret_rt, add_ii, add_ll, add_tt, sub_ii, mul_ii, mul_li, mul_ti, div_ii, mod_ii, pow_ii, ints_ii, eq_ii, ne_ii, is_non, is_int, is_tup, is_intB, not_non, not_tup, ix_l, ix_t, sl_l, sl_t, sl_s, rev_l, neg_i, len_l, len_t, int_i, abs_i, tup_l, tup_t, lst_l, lst_t, sum_l, toInts_int, zip_tt, rng_1, rng_2, rng_3, isi_int_int, isi_str_int, isi_bool_int, isi_tup_int, isi_tup_tup, isiC_int, isiC_tup, isiA_int, List.getElem?_cons_zero, List.getElem?_cons_succ, List.set_cons_zero, List.set_cons_succ, List.map_cons, List.map_nil, List.replicate_succ, List.replicate_zero, List.cons_append, List.nil_append, List.length_cons, List.length_nil, Nat.reduceAdd, Nat.reduceSub, Nat.reduceEqDiff, decide_eq_true_eq, Bool.not_eq_true', Bool.not_false, Bool.not_true, decide_eq_false_iff_not, true_and, and_true, true_or, or_true, reduceIte, Bool.false_eq_true, Int.reduceLT, Int.reduceLE, Nat.reduceLT, Nat.reduceLeDiff, Int.reduceEq, Int.reduceNe]
  have hfl := frs_len (os.length + 1) os ho
  refine comp_map (f := fun d => match d with | .lst xs => Dv.tup xs | d => d) (fun d hd => ?_) (by rw [List.length_map, List.length_nil, lim_is]; omega) ?_
  · obtain ⟨x, _, rfl⟩ := List.mem_map.mp hd
    show OP (putN 3 (.lst (iL x)) [some (Sl.val (.lst (iL os))), some (Sl.val (.lst _)), some (Sl.val (.int _)), none]) _
    simp only [r_bind, r_pure, r_c, r_var, r_bin, r_u, r_test, r_frz, r_nil, r_cons, r_guard, r_tup, r_lst, r_nopart, r_part, r_sl, r_and, r_or, r_not, r_mite, r_andV, r_notV, r_pop, r_app, r_shr', r_call, rf_fun, r_snil, then_nx, then_rt, r_seq, r_drop, r_set, r_own', r_fix', r_to, r_ret, r_if, r_for, r_for0, r_sub, r_par3, r_par, r_frzT, r_frzF, r_it, r_enum, r_rng, r_comp, op_some, op_none, op_ite, op_map, pk_non, pk_bl, pk_int, pk_str, pk_tup, pk_lst, pk_tmp, pk_scr, pk_own, pkO_some, pk_ref, pkR_some, rd_val, rd_own, fz_non, fz_bl, fz_int, fz_str, fz_tup, fz_lst, fz_tmp, fz_ref, fz_scr, gl_own, gO_some, gl_ref, gR_some, sl_own, sl_ref, ab_bl, ai_int, it_tup, it_lst, it_tmp, it_scr, put_n, put_p, put_t, put_int, put_lst, put_tup, own_tmp, fix_own, shr_tmp, ret_nx, ret_rt, add_ii, add_ll, add_tt, sub_ii, mul_ii, mul_li, mul_ti, div_ii, mod_ii, pow_ii, ints_ii, eq_ii, ne_ii, is_non, is_int, is_tup, is_intB, not_non, not_tup, ix_l, ix_t, sl_l, sl_t, sl_s, rev_l, neg_i, len_l, len_t, int_i, abs_i, tup_l, tup_t, lst_l, lst_t, sum_l, toInts_int, zip_tt, rng_1, rng_2, rng_3, isi_int_int, isi_str_int, isi_bool_int, isi_tup_int, isi_tup_tup, isiC_int, isiC_tup, isiA_int, List.getElem?_cons_zero, List.getElem?_cons_succ, List.set_cons_zero, List.set_cons_succ, List.map_cons, List.map_nil, List.replicate_succ, List.replicate_zero, List.cons_append, List.nil_append, List.length_cons, List.length_nil, Nat.reduceAdd, Nat.reduceSub, Nat.reduceEqDiff, decide_eq_true_eq, Bool.not_eq_true', Bool.not_false, Bool.not_true, decide_eq_false_iff_not, true_and, and_true, true_or, or_true, reduceIte, Bool.false_eq_true, Int.reduceLT, Int.reduceLE, Nat.reduceLT, Nat.reduceLeDiff, Int.reduceEq, Int.reduceNe]
  · refine ⟨by rw [lim_is]; omega, ?_⟩
    unfold frsD at hp
    rw [List.nil_append, List.map_map]
    exact hp
end K74

set_option Elab.async false
set_option linter.all false
set_option maxRecDepth 100000
set_option maxHeartbeats 4000000
namespace K74
open PySem PySem.Spec L2 Mir
theorem enc_small {n : Nat} (h : n < 128) : encN n = [(n : Int)] := by unfold encN; rw [dif_pos h]
theorem enc_big {n : Nat} (h : ¬ n < 128) : encN n = (128 + ((n % 128 : Nat) : Int)) :: encN (n / 128) := by conv => lhs; unfold encN
                                                                                                             rw [dif_neg h]
theorem enc_oc : ∀ (k n : Nat), n ≤ k → Oc (encN n)
  | k, n, hk => by
    by_cases hn : n < 128
    · rw [enc_small hn]
      intro x hx
      rw [List.mem_singleton.mp hx]
      omega
    · rw [enc_big hn]
      match k, hk with
      | 0, hk => omega
      | k + 1, hk =>
        intro x hx
        rcases List.mem_cons.mp hx with rfl | hx
        · omega
        · exact enc_oc k (n / 128) (by omega) x hx
theorem enc_rd : ∀ (k n : Nat) (r : List Int), n ≤ k → rdN (encN n ++ r) = some ((n : Int), (encN n).length)
  | k, n, r, hk => by
    by_cases hn : n < 128
    · rw [enc_small hn]
      show (if (n : Int) < 128 then some ((n : Int), 1) else _) = _
      rw [if_pos (by omega)]
      rfl
    · rw [enc_big hn]
      match k, hk with
      | 0, hk => omega
      | k + 1, hk =>
        show (if (128 + ((n % 128 : Nat) : Int)) < 128 then _ else (rdN (encN (n / 128) ++ r)).map _) = _
        rw [if_neg (by omega), enc_rd k (n / 128) r (by omega)]
        show some (_, _) = some (_, _)
        congr 2
        omega
theorem enc_last : ∀ (k n : Nat), n ≤ k → 1 ≤ (encN n).length ∧ (1 < (encN n).length → (encN n)[(encN n).length - 1]? ≠ some 0) ∧ (0 < n → (encN n)[(encN n).length - 1]? ≠ some 0)
  | k, n, hk => by
    by_cases hn : n < 128
    · rw [enc_small hn]
      refine ⟨Nat.le_refl _, fun h => absurd h (by simp), fun h0 e => ?_⟩
      have : (n : Int) = 0 := by simpa using e
      omega
    · rw [enc_big hn]
      match k, hk with
      | 0, hk => omega
      | k + 1, hk =>
        obtain ⟨h1, h2, h3⟩ := enc_last k (n / 128) (by omega)
        have h4 := h3 (by omega)
        have e : ((128 + ((n % 128 : Nat) : Int)) :: encN (n / 128)).length - 1 = ((encN (n / 128)).length - 1) + 1 := by rw [List.length_cons]; omega
        rw [e, List.getElem?_cons_succ]
        exact ⟨by rw [List.length_cons]; omega, fun _ => h4, fun _ => h4⟩
theorem enc_num (n : Nat) (r : List Int) : numL (encN n ++ r) = some ((n : Int), (encN n).length) := by
  unfold numL
  rw [enc_rd n n r (Nat.le_refl _)]
  dsimp only
  obtain ⟨h1, h2, _⟩ := enc_last n n (Nat.le_refl _)
  rw [if_neg]
  rintro ⟨h3, h4⟩
  rw [List.getElem?_append_left (by omega)] at h4
  exact h2 h3 h4
theorem enc_cut : ∀ (k n j : Nat), n ≤ k → j < (encN n).length → rdN ((encN n).take j) = none
  | k, n, j, hk, hj => by
    by_cases hn : n < 128
    · rw [enc_small hn] at hj ⊢
      have : j = 0 := by simpa using hj
      subst this
      rfl
    · rw [enc_big hn] at hj ⊢
      match k, hk, j, hj with
      | 0, hk, _, _ => omega
      | k + 1, hk, 0, _ => rfl
      | k + 1, hk, j + 1, hj =>
        show (if (128 + ((n % 128 : Nat) : Int)) < 128 then _ else (rdN ((encN (n / 128)).take j)).map _) = none
        rw [if_neg (by omega), enc_cut k (n / 128) j (by omega) (by rw [List.length_cons] at hj; omega)]
        rfl
theorem sm_bd (xs : List Int) : 0 ≤ Sm xs ∧ Sm xs < 65521 := by
  unfold Sm
  omega
theorem frm_oc {b : List Int} (ho : Oc b) : Oc (frm b) := by
  intro x hx
  unfold frm at hx
  have hs := sm_bd b
  rcases List.mem_append.mp hx with hx | hx
  · rcases List.mem_append.mp hx with hx | hx
    · exact enc_oc _ b.length (Nat.le_refl _) x hx
    · exact ho x hx
  · rcases List.mem_cons.mp hx with rfl | hx
    · omega
    · rw [List.mem_singleton.mp hx]
      omega
theorem frm_len (b : List Int) : (frm b).length = (encN b.length).length + b.length + 2 := by
  unfold frm
  rw [List.length_append, List.length_append]
  rfl
theorem frS_frm (b rest : List Int) : frS (frm b ++ rest) = some (b, (frm b).length) := by
  have e0 : frm b ++ rest = encN b.length ++ (b ++ ([Sm b % 256, Sm b / 256] ++ rest)) := by
    unfold frm
    simp only [List.append_assoc]
  have hlen : (frm b ++ rest).length = (encN b.length).length + b.length + 2 + rest.length := by rw [List.length_append, frm_len]
  unfold frS
  rw [e0, enc_num]
  dsimp only
  rw [← e0, hlen, if_neg (by omega), Int.toNat_natCast, e0]
  have e1 : (encN b.length ++ (b ++ ([Sm b % 256, Sm b / 256] ++ rest))).drop (encN b.length).length = b ++ ([Sm b % 256, Sm b / 256] ++ rest) := List.drop_left
  have e2 : (b ++ ([Sm b % 256, Sm b / 256] ++ rest)).take b.length = b := List.take_left
  rw [e1, e2]
  have g : ∀ i, (encN b.length ++ (b ++ ([Sm b % 256, Sm b / 256] ++ rest)))[(encN b.length).length + b.length + i]? = ([Sm b % 256, Sm b / 256] ++ rest)[i]? := fun i => by
    rw [List.getElem?_append_right (by omega), List.getElem?_append_right (by omega)]
    congr 1
    omega
  rw [if_pos ⟨g 0, g 1⟩, frm_len]
theorem frS_cut (b : List Int) (j : Nat) (hj : j < (frm b).length) : frS ((frm b).take j) = none := by
  rw [frm_len] at hj
  have e0 : frm b = encN b.length ++ (b ++ [Sm b % 256, Sm b / 256]) := by
    unfold frm
    rw [List.append_assoc]
  unfold frS numL
  rw [e0]
  by_cases h : j < (encN b.length).length
  · rw [List.take_append_of_le_length (by omega), enc_cut _ _ _ (Nat.le_refl _) h]
  · have e1 : (encN b.length ++ (b ++ [Sm b % 256, Sm b / 256])).take j = encN b.length ++ (b ++ [Sm b % 256, Sm b / 256]).take (j - (encN b.length).length) := by
      rw [List.take_append, List.take_of_length_le (by omega)]
    have e2 := enc_num b.length ((b ++ [Sm b % 256, Sm b / 256]).take (j - (encN b.length).length))
    rw [e1]
    unfold numL at e2
    rw [e2]
    dsimp only
    rw [if_pos]
    rw [List.length_append, List.length_take, List.length_append]
    show (b.length : Int) + 2 > _
    have : ([Sm b % 256, Sm b / 256] : List Int).length = 2 := rfl
    omega
def flat (bs : List (List Int)) : List Int := (bs.map frm).flatten
theorem flat_cons (b : List Int) (bs : List (List Int)) : flat (b :: bs) = frm b ++ flat bs := rfl
theorem frs_flat : ∀ (bs : List (List Int)) (tail : List Int) (f : Nat), frS tail = none → (flat bs ++ tail).length < f → frsS f (flat bs ++ tail) = (bs, (flat bs).length)
  | _, _, 0, _, h => absurd h (Nat.not_lt_zero _)
  | [], tail, f + 1, ht, _ => by
    show frsS (f + 1) tail = ([], 0)
    unfold frsS
    rw [ht]
  | b :: bs, tail, f + 1, ht, hf => by
    rw [flat_cons, List.append_assoc] at hf ⊢
    unfold frsS
    rw [frS_frm]
    dsimp only
    have hl : 1 ≤ (frm b).length := by rw [frm_len]; omega
    rw [List.drop_left, frs_flat bs tail f ht (by rw [List.length_append] at hf; omega), List.length_append]
theorem frs_two (b : List Int) (tail : List Int) (f : Nat) (ht : frS tail = none) (hf : (frm b ++ tail).length < f) : frsS f (frm b ++ tail) = ([b], (frm b).length) := by
  have := frs_flat [b] tail f ht (by rw [flat_cons]; simpa [flat] using hf)
  rw [flat_cons] at this
  simpa [flat] using this
theorem frS_nil : frS [] = none := rfl
theorem frS_00 : frS [0, 0] = none := by decide
theorem flat_take (bs : List (List Int)) (tail : List Int) (ht : frS tail = none) : frsS ((flat bs ++ tail).length + 1) (flat bs ++ tail) = (bs, (flat bs).length) := frs_flat bs tail _ ht (Nat.lt_succ_self _)
theorem flat_app (as bs : List (List Int)) : flat (as ++ bs) = flat as ++ flat bs := by
  unfold flat
  rw [List.map_append, List.flatten_append]
theorem flat_oc : ∀ {bs : List (List Int)}, (∀ b ∈ bs, Oc b) → Oc (flat bs)
  | [], _ => fun x hx => by cases hx
  | b :: bs, h => fun x hx => by
    rw [flat_cons] at hx
    rcases List.mem_append.mp hx with hx | hx
    · exact frm_oc (h b List.mem_cons_self) x hx
    · exact flat_oc (fun b hb => h b (List.mem_cons_of_mem _ hb)) x hx
theorem flat_len : ∀ {bs : List (List Int)}, (∀ b ∈ bs, b.length ≤ 300) → (flat bs).length ≤ 304 * bs.length
  | [], _ => Nat.zero_le _
  | b :: bs, h => by
    rw [flat_cons, List.length_append, frm_len]
    have h1 := flat_len (fun b hb => h b (List.mem_cons_of_mem _ hb))
    have h2 := h b List.mem_cons_self
    have h3 : (encN b.length).length ≤ 2 := by
      by_cases hn : b.length < 128
      · rw [enc_small hn]; simp
      · rw [enc_big hn, enc_small (by omega)]; simp
    rw [List.length_cons]
    omega
theorem W_rep (x : Int) : ∀ (m k : Nat), 2 * W k (List.replicate m x) = x * (((m * (2 * k + m + 1) : Nat)) : Int)
  | 0, k => by simp [W]
  | m + 1, k => by
    rw [List.replicate_succ]
    show 2 * (((k : Int) + 1) * x + W (k + 1) (List.replicate m x)) = _
    rw [Int.mul_add, W_rep x m (k + 1), show ((k : Int) + 1) * x = x * ((k + 1 : Nat) : Int) by rw [Int.mul_comm] <;> rfl, ← Int.mul_assoc, Int.mul_comm 2 x, Int.mul_assoc, ← Int.mul_add]
    congr 1
    have : 2 * (k + 1) + m * (2 * (k + 1) + m + 1) = (m + 1) * (2 * k + (m + 1) + 1) := by
      simp only [Nat.mul_add, Nat.add_mul, Nat.mul_one, Nat.one_mul]
      have e1 : m * (2 * k) = 2 * (m * k) := by rw [Nat.mul_left_comm]
      omega
    exact_mod_cast this
theorem Sm_rep (x : Int) (m : Nat) (T : Int) (hT : 2 * T = ((m * (m + 1) : Nat) : Int)) : Sm (List.replicate m x) = x * T % 65521 := by
  unfold Sm
  have := W_rep x m 0
  rw [show m * (2 * 0 + m + 1) = m * (m + 1) by simp, ← hT, ← Int.mul_assoc, Int.mul_comm x 2, Int.mul_assoc] at this
  have : W 0 (List.replicate m x) = x * T := by omega
  rw [this]
end K74

set_option Elab.async false
set_option linter.all false
set_option maxRecDepth 100000
set_option maxHeartbeats 4000000
namespace K74
open PySem PySem.Spec L2 Mir
/-- the deal's cells -/
def Dl (h : List Cell) : Prop := ∃ (cs : List Int) (mix : Int), h = [.lst (iL cs), .lst [.ref 0, .int mix]] ∧ cs.length ≤ 63
theorem any_loop (a b c : Option Sl) (mix : Int) : ∀ (n : Nat) (cs : List Int) (P : Fl → Mem → Prop), cs.length ≤ n → (∀ cs' : List Int, cs'.length ≤ cs.length → P .nx ⟨[some (.val (.ref 1)), b, c], [.lst (iL cs'), .lst [.ref 0, .int mix]]⟩) →
    R (sLoop C_law_any1 L_law_any1) ⟨[some (.val (.ref 1)), b, c], [.lst (iL cs), .lst [.ref 0, .int mix]]⟩ P
  | n, cs, P, hn, hp => by
    refine r_loopg fun lp hlp => ?_
    unfold C_law_any1 L_law_any1
    simp only [r_bind, r_pure, r_c, r_var, r_bin, r_u, r_test, r_frz, r_nil, r_cons, r_guard, r_tup, r_lst, r_nopart, r_part, r_sl, r_and, r_or, r_not, r_mite, r_andV, r_notV, r_pop, r_app, r_shr', r_call, rf_fun, r_snil, then_nx, then_rt, r_seq, r_drop, r_set, r_own', r_fix', r_to, r_ret, r_if, r_for, r_for0, r_sub, r_par3, r_par, r_frzT, r_frzF, r_it, r_enum, r_rng, r_comp, op_some, op_none, op_ite, op_map, pk_non, pk_bl, pk_int, pk_str, pk_tup, pk_lst, pk_tmp, pk_scr, pk_own, pkO_some, pk_ref, pkR_some, rd_val, rd_own, fz_non, fz_bl, fz_int, fz_str, fz_tup, fz_lst, fz_tmp, fz_ref, fz_scr, gl_own, gO_some, gl_ref, gR_some, sl_own, sl_ref, ab_bl, ai_int, it_tup, it_lst, it_tmp, it_scr, put_n, put_p, put_t, put_int, put_lst, put_tup, own_tmp, fix_own, shr_tmp, ret_nx, ret_rt, add_ii, add_ll, add_tt, sub_ii, mul_ii, mul_li, mul_ti, div_ii, mod_ii, pow_ii, ints_ii, eq_ii, ne_ii, is_non, is_int, is_tup, is_intB, not_non, not_tup, ix_l, ix_t, sl_l, sl_t, sl_s, rev_l, neg_i, len_l, len_t, int_i, abs_i, tup_l, tup_t, lst_l, lst_t, sum_l, toInts_int, zip_tt, rng_1, rng_2, rng_3, isi_int_int, isi_str_int, isi_bool_int, isi_tup_int, isi_tup_tup, isiC_int, isiC_tup, isiA_int, List.getElem?_cons_zero, List.getElem?_cons_succ, List.set_cons_zero, List.set_cons_succ, List.map_cons, List.map_nil, List.replicate_succ, List.replicate_zero, List.cons_append, List.nil_append, List.length_cons, List.length_nil, Nat.reduceAdd, Nat.reduceSub, Nat.reduceEqDiff, decide_eq_true_eq, Bool.not_eq_true', Bool.not_false, Bool.not_true, decide_eq_false_iff_not, true_and, and_true, true_or, or_true, reduceIte, Bool.false_eq_true, Int.reduceLT, Int.reduceLE, Nat.reduceLT, Nat.reduceLeDiff, Int.reduceEq, Int.reduceNe, at_0, iL_len]
    rcases List.eq_nil_or_concat cs with rfl | ⟨ini, z, rfl⟩
    · rw [if_neg (by simp)]
      exact hp [] (Nat.le_refl _)
    · have e : iL (ini.concat z) = iL ini ++ [.int z] := by rw [List.concat_eq_append, iL_app] <;> rfl
      rw [if_pos (by simp)]
      rw [e, show (-(1 : Int)) = -1 from rfl, at_last]
      simp only [r_bind, r_pure, r_c, r_var, r_bin, r_u, r_test, r_frz, r_nil, r_cons, r_guard, r_tup, r_lst, r_nopart, r_part, r_sl, r_and, r_or, r_not, r_mite, r_andV, r_notV, r_pop, r_app, r_shr', r_call, rf_fun, r_snil, then_nx, then_rt, r_seq, r_drop, r_set, r_own', r_fix', r_to, r_ret, r_if, r_for, r_for0, r_sub, r_par3, r_par, r_frzT, r_frzF, r_it, r_enum, r_rng, r_comp, op_some, op_none, op_ite, op_map, pk_non, pk_bl, pk_int, pk_str, pk_tup, pk_lst, pk_tmp, pk_scr, pk_own, pkO_some, pk_ref, pkR_some, rd_val, rd_own, fz_non, fz_bl, fz_int, fz_str, fz_tup, fz_lst, fz_tmp, fz_ref, fz_scr, gl_own, gO_some, gl_ref, gR_some, sl_own, sl_ref, ab_bl, ai_int, it_tup, it_lst, it_tmp, it_scr, put_n, put_p, put_t, put_int, put_lst, put_tup, own_tmp, fix_own, shr_tmp, ret_nx, ret_rt, add_ii, add_ll, add_tt, sub_ii, mul_ii, mul_li, mul_ti, div_ii, mod_ii, pow_ii, ints_ii, eq_ii, ne_ii, is_non, is_int, is_tup, is_intB, not_non, not_tup, ix_l, ix_t, sl_l, sl_t, sl_s, rev_l, neg_i, len_l, len_t, int_i, abs_i, tup_l, tup_t, lst_l, lst_t, sum_l, toInts_int, zip_tt, rng_1, rng_2, rng_3, isi_int_int, isi_str_int, isi_bool_int, isi_tup_int, isi_tup_tup, isiC_int, isiC_tup, isiA_int, List.getElem?_cons_zero, List.getElem?_cons_succ, List.set_cons_zero, List.set_cons_succ, List.map_cons, List.map_nil, List.replicate_succ, List.replicate_zero, List.cons_append, List.nil_append, List.length_cons, List.length_nil, Nat.reduceAdd, Nat.reduceSub, Nat.reduceEqDiff, decide_eq_true_eq, Bool.not_eq_true', Bool.not_false, Bool.not_true, decide_eq_false_iff_not, true_and, and_true, true_or, or_true, reduceIte, Bool.false_eq_true, Int.reduceLT, Int.reduceLE, Nat.reduceLT, Nat.reduceLeDiff, Int.reduceEq, Int.reduceNe]
      have hl : (ini.concat z).length = ini.length + 1 := by simp
      by_cases hz : z = 0
      · rw [if_pos hz]
        have e2 : (iL ini ++ [Dv.int z])[(ini.concat z).length - 1]? = some (.int z) := by
          rw [hl, Nat.add_sub_cancel, ← iL_len ini]
          simp
        have e3 : (iL ini ++ [Dv.int z]).dropLast = iL ini := List.dropLast_concat
        rw [e2, e3]
        simp only [r_bind, r_pure, r_c, r_var, r_bin, r_u, r_test, r_frz, r_nil, r_cons, r_guard, r_tup, r_lst, r_nopart, r_part, r_sl, r_and, r_or, r_not, r_mite, r_andV, r_notV, r_pop, r_app, r_shr', r_call, rf_fun, r_snil, then_nx, then_rt, r_seq, r_drop, r_set, r_own', r_fix', r_to, r_ret, r_if, r_for, r_for0, r_sub, r_par3, r_par, r_frzT, r_frzF, r_it, r_enum, r_rng, r_comp, op_some, op_none, op_ite, op_map, pk_non, pk_bl, pk_int, pk_str, pk_tup, pk_lst, pk_tmp, pk_scr, pk_own, pkO_some, pk_ref, pkR_some, rd_val, rd_own, fz_non, fz_bl, fz_int, fz_str, fz_tup, fz_lst, fz_tmp, fz_ref, fz_scr, gl_own, gO_some, gl_ref, gR_some, sl_own, sl_ref, ab_bl, ai_int, it_tup, it_lst, it_tmp, it_scr, put_n, put_p, put_t, put_int, put_lst, put_tup, own_tmp, fix_own, shr_tmp, ret_nx, ret_rt, add_ii, add_ll, add_tt, sub_ii, mul_ii, mul_li, mul_ti, div_ii, mod_ii, pow_ii, ints_ii, eq_ii, ne_ii, is_non, is_int, is_tup, is_intB, not_non, not_tup, ix_l, ix_t, sl_l, sl_t, sl_s, rev_l, neg_i, len_l, len_t, int_i, abs_i, tup_l, tup_t, lst_l, lst_t, sum_l, toInts_int, zip_tt, rng_1, rng_2, rng_3, isi_int_int, isi_str_int, isi_bool_int, isi_tup_int, isi_tup_tup, isiC_int, isiC_tup, isiA_int, List.getElem?_cons_zero, List.getElem?_cons_succ, List.set_cons_zero, List.set_cons_succ, List.map_cons, List.map_nil, List.replicate_succ, List.replicate_zero, List.cons_append, List.nil_append, List.length_cons, List.length_nil, Nat.reduceAdd, Nat.reduceSub, Nat.reduceEqDiff, decide_eq_true_eq, Bool.not_eq_true', Bool.not_false, Bool.not_true, decide_eq_false_iff_not, true_and, and_true, true_or, or_true, reduceIte, Bool.false_eq_true, Int.reduceLT, Int.reduceLE, Nat.reduceLT, Nat.reduceLeDiff, Int.reduceEq, Int.reduceNe]
        subst hlp
        match n, hn with
        | 0, hn => rw [hl] at hn; omega
        | n + 1, hn => exact any_loop a b c mix n ini P (by rw [hl] at hn; omega) fun cs' h => hp cs' (by rw [hl]; omega)
      · rw [if_neg hz, ← e]
        exact hp _ (Nat.le_refl _)
theorem any_ok {h : List Cell} {P : Dv → List Cell → Prop} {b : Int} (hd : Dl h) (h0 : 0 < b) (h1 : b < 1000000) (hp : ∀ (k : Int) (h' : List Cell), 0 ≤ k → k < b → Dl h' → P (.int k) h') : RF (M_law_any [.ref 1, .int b] h) P := by
  obtain ⟨cs, mix, rfl, hl⟩ := hd
  unfold M_law_any B_law_any
  simp only [r_bind, r_pure, r_c, r_var, r_bin, r_u, r_test, r_frz, r_nil, r_cons, r_guard, r_tup, r_lst, r_nopart, r_part, r_sl, r_and, r_or, r_not, r_mite, r_andV, r_notV, r_pop, r_app, r_shr', r_call, rf_fun, r_snil, then_nx, then_rt, r_seq, r_drop, r_set, r_own', r_fix', r_to, r_ret, r_if, r_for, r_for0, r_sub, r_par3, r_par, r_frzT, r_frzF, r_it, r_enum, r_rng, r_comp, op_some, op_none, op_ite, op_map, pk_non, pk_bl, pk_int, pk_str, pk_tup, pk_lst, pk_tmp, pk_scr, pk_own, pkO_some, pk_ref, pkR_some, rd_val, rd_own, fz_non, fz_bl, fz_int, fz_str, fz_tup, fz_lst, fz_tmp, fz_ref, fz_scr, gl_own, gO_some, gl_ref, gR_some, sl_own, sl_ref, ab_bl, ai_int, it_tup, it_lst, it_tmp, it_scr, put_n, put_p, put_t, put_int, put_lst, put_tup, own_tmp, fix_own, shr_tmp, ret_nx, ret_rt, add_ii, add_ll, add_tt, sub_ii, mul_ii, mul_li, mul_ti, div_ii, mod_ii, pow_ii, ints_ii, eq_ii, ne_ii, is_non, is_int, is_tup, is_intB, not_non, not_tup, ix_l, ix_t, sl_l, sl_t, sl_s, rev_l, neg_i, len_l, len_t, int_i, abs_i, tup_l, tup_t, lst_l, lst_t, sum_l, toInts_int, zip_tt, rng_1, rng_2, rng_3, isi_int_int, isi_str_int, isi_bool_int, isi_tup_int, isi_tup_tup, isiC_int, isiC_tup, isiA_int, List.getElem?_cons_zero, List.getElem?_cons_succ, List.set_cons_zero, List.set_cons_succ, List.map_cons, List.map_nil, List.replicate_succ, List.replicate_zero, List.cons_append, List.nil_append, List.length_cons, List.length_nil, Nat.reduceAdd, Nat.reduceSub, Nat.reduceEqDiff, decide_eq_true_eq, Bool.not_eq_true', Bool.not_false, Bool.not_true, decide_eq_false_iff_not, true_and, and_true, true_or, or_true, reduceIte, Bool.false_eq_true, Int.reduceLT, Int.reduceLE, Nat.reduceLT, Nat.reduceLeDiff, Int.reduceEq, Int.reduceNe]
  refine any_loop none _ _ mix cs.length cs _ (Nat.le_refl _) fun cs' hc => ?_
  simp only [r_bind, r_pure, r_c, r_var, r_bin, r_u, r_test, r_frz, r_nil, r_cons, r_guard, r_tup, r_lst, r_nopart, r_part, r_sl, r_and, r_or, r_not, r_mite, r_andV, r_notV, r_pop, r_app, r_shr', r_call, rf_fun, r_snil, then_nx, then_rt, r_seq, r_drop, r_set, r_own', r_fix', r_to, r_ret, r_if, r_for, r_for0, r_sub, r_par3, r_par, r_frzT, r_frzF, r_it, r_enum, r_rng, r_comp, op_some, op_none, op_ite, op_map, pk_non, pk_bl, pk_int, pk_str, pk_tup, pk_lst, pk_tmp, pk_scr, pk_own, pkO_some, pk_ref, pkR_some, rd_val, rd_own, fz_non, fz_bl, fz_int, fz_str, fz_tup, fz_lst, fz_tmp, fz_ref, fz_scr, gl_own, gO_some, gl_ref, gR_some, sl_own, sl_ref, ab_bl, ai_int, it_tup, it_lst, it_tmp, it_scr, put_n, put_p, put_t, put_int, put_lst, put_tup, own_tmp, fix_own, shr_tmp, ret_nx, ret_rt, add_ii, add_ll, add_tt, sub_ii, mul_ii, mul_li, mul_ti, div_ii, mod_ii, pow_ii, ints_ii, eq_ii, ne_ii, is_non, is_int, is_tup, is_intB, not_non, not_tup, ix_l, ix_t, sl_l, sl_t, sl_s, rev_l, neg_i, len_l, len_t, int_i, abs_i, tup_l, tup_t, lst_l, lst_t, sum_l, toInts_int, zip_tt, rng_1, rng_2, rng_3, isi_int_int, isi_str_int, isi_bool_int, isi_tup_int, isi_tup_tup, isiC_int, isiC_tup, isiA_int, List.getElem?_cons_zero, List.getElem?_cons_succ, List.set_cons_zero, List.set_cons_succ, List.map_cons, List.map_nil, List.replicate_succ, List.replicate_zero, List.cons_append, List.nil_append, List.length_cons, List.length_nil, Nat.reduceAdd, Nat.reduceSub, Nat.reduceEqDiff, decide_eq_true_eq, Bool.not_eq_true', Bool.not_false, Bool.not_true, decide_eq_false_iff_not, true_and, and_true, true_or, or_true, reduceIte, Bool.false_eq_true, Int.reduceLT, Int.reduceLE, Nat.reduceLT, Nat.reduceLeDiff, Int.reduceEq, Int.reduceNe, at_0, at_1, iL_len]
  rcases List.eq_nil_or_concat cs' with rfl | ⟨ini, z, rfl⟩
  · rw [if_neg (by simp)]
    rw [mul_r (by decide)]
    have em : ∀ m : Int, setAt ⟨[some (Sl.val (.ref 1)), some (Sl.val (.int b)), none], [Cell.lst (iL []), .lst [.ref 0, .int mix]]⟩ (.ref 1) 1 (.int m) = some ⟨[some (Sl.val (.ref 1)), some (Sl.val (.int b)), none], [Cell.lst (iL []), .lst [.ref 0, .int m]]⟩ := fun m => rfl
    rw [em]
    simp only [r_bind, r_pure, r_c, r_var, r_bin, r_u, r_test, r_frz, r_nil, r_cons, r_guard, r_tup, r_lst, r_nopart, r_part, r_sl, r_and, r_or, r_not, r_mite, r_andV, r_notV, r_pop, r_app, r_shr', r_call, rf_fun, r_snil, then_nx, then_rt, r_seq, r_drop, r_set, r_own', r_fix', r_to, r_ret, r_if, r_for, r_for0, r_sub, r_par3, r_par, r_frzT, r_frzF, r_it, r_enum, r_rng, r_comp, op_some, op_none, op_ite, op_map, pk_non, pk_bl, pk_int, pk_str, pk_tup, pk_lst, pk_tmp, pk_scr, pk_own, pkO_some, pk_ref, pkR_some, rd_val, rd_own, fz_non, fz_bl, fz_int, fz_str, fz_tup, fz_lst, fz_tmp, fz_ref, fz_scr, gl_own, gO_some, gl_ref, gR_some, sl_own, sl_ref, ab_bl, ai_int, it_tup, it_lst, it_tmp, it_scr, put_n, put_p, put_t, put_int, put_lst, put_tup, own_tmp, fix_own, shr_tmp, ret_nx, ret_rt, add_ii, add_ll, add_tt, sub_ii, mul_ii, mul_li, mul_ti, div_ii, mod_ii, pow_ii, ints_ii, eq_ii, ne_ii, is_non, is_int, is_tup, is_intB, not_non, not_tup, ix_l, ix_t, sl_l, sl_t, sl_s, rev_l, neg_i, len_l, len_t, int_i, abs_i, tup_l, tup_t, lst_l, lst_t, sum_l, toInts_int, zip_tt, rng_1, rng_2, rng_3, isi_int_int, isi_str_int, isi_bool_int, isi_tup_int, isi_tup_tup, isiC_int, isiC_tup, isiA_int, List.getElem?_cons_zero, List.getElem?_cons_succ, List.set_cons_zero, List.set_cons_succ, List.map_cons, List.map_nil, List.replicate_succ, List.replicate_zero, List.cons_append, List.nil_append, List.length_cons, List.length_nil, Nat.reduceAdd, Nat.reduceSub, Nat.reduceEqDiff, decide_eq_true_eq, Bool.not_eq_true', Bool.not_false, Bool.not_true, decide_eq_false_iff_not, true_and, and_true, true_or, or_true, reduceIte, Bool.false_eq_true, Int.reduceLT, Int.reduceLE, Nat.reduceLT, Nat.reduceLeDiff, Int.reduceEq, Int.reduceNe, at_0, at_1]
    refine ⟨h0, ?_⟩
    exact hp _ _ (Int.emod_nonneg _ (by omega)) (Int.emod_lt_of_pos _ h0) ⟨[], _, rfl, by simp⟩
  · have e : iL (ini.concat z) = iL ini ++ [.int z] := by rw [List.concat_eq_append, iL_app] <;> rfl
    have hl' : (ini.concat z).length = ini.length + 1 := by simp
    have e2 : (iL ini ++ [Dv.int z])[(ini.concat z).length - 1]? = some (.int z) := by
      rw [hl', Nat.add_sub_cancel, ← iL_len ini]
      simp
    have e3 : (iL ini ++ [Dv.int z]).dropLast = iL ini := List.dropLast_concat
    rw [if_pos (by simp), e, e2, e3]
    simp only [r_bind, r_pure, r_c, r_var, r_bin, r_u, r_test, r_frz, r_nil, r_cons, r_guard, r_tup, r_lst, r_nopart, r_part, r_sl, r_and, r_or, r_not, r_mite, r_andV, r_notV, r_pop, r_app, r_shr', r_call, rf_fun, r_snil, then_nx, then_rt, r_seq, r_drop, r_set, r_own', r_fix', r_to, r_ret, r_if, r_for, r_for0, r_sub, r_par3, r_par, r_frzT, r_frzF, r_it, r_enum, r_rng, r_comp, op_some, op_none, op_ite, op_map, pk_non, pk_bl, pk_int, pk_str, pk_tup, pk_lst, pk_tmp, pk_scr, pk_own, pkO_some, pk_ref, pkR_some, rd_val, rd_own, fz_non, fz_bl, fz_int, fz_str, fz_tup, fz_lst, fz_tmp, fz_ref, fz_scr, gl_own, gO_some, gl_ref, gR_some, sl_own, sl_ref, ab_bl, ai_int, it_tup, it_lst, it_tmp, it_scr, put_n, put_p, put_t, put_int, put_lst, put_tup, own_tmp, fix_own, shr_tmp, ret_nx, ret_rt, add_ii, add_ll, add_tt, sub_ii, mul_ii, mul_li, mul_ti, div_ii, mod_ii, pow_ii, ints_ii, eq_ii, ne_ii, is_non, is_int, is_tup, is_intB, not_non, not_tup, ix_l, ix_t, sl_l, sl_t, sl_s, rev_l, neg_i, len_l, len_t, int_i, abs_i, tup_l, tup_t, lst_l, lst_t, sum_l, toInts_int, zip_tt, rng_1, rng_2, rng_3, isi_int_int, isi_str_int, isi_bool_int, isi_tup_int, isi_tup_tup, isiC_int, isiC_tup, isiA_int, List.getElem?_cons_zero, List.getElem?_cons_succ, List.set_cons_zero, List.set_cons_succ, List.map_cons, List.map_nil, List.replicate_succ, List.replicate_zero, List.cons_append, List.nil_append, List.length_cons, List.length_nil, Nat.reduceAdd, Nat.reduceSub, Nat.reduceEqDiff, decide_eq_true_eq, Bool.not_eq_true', Bool.not_false, Bool.not_true, decide_eq_false_iff_not, true_and, and_true, true_or, or_true, reduceIte, Bool.false_eq_true, Int.reduceLT, Int.reduceLE, Nat.reduceLT, Nat.reduceLeDiff, Int.reduceEq, Int.reduceNe, at_0, at_1]
    refine ⟨⟨h0, by omega⟩, by rw [iL_len, lim_is]; omega, h0, ?_⟩
    have e4 : iL ini ++ [Dv.int (z / b)] = iL (ini ++ [z / b]) := by rw [iL_app] <;> rfl
    rw [e4]
    exact hp _ _ (Int.emod_nonneg _ (by omega)) (Int.emod_lt_of_pos _ h0) ⟨_, _, rfl, by rw [List.length_append, List.length_singleton]; omega⟩
theorem of_ok {h : List Cell} {P : Dv → List Cell → Prop} {xs : List Dv} (hd : Dl h) (h0 : 0 < xs.length) (h1 : xs.length < 1000000) (hp : ∀ (d : Dv) (h' : List Cell), d ∈ xs → Dl h' → OP (frz d) fun x => P x h') : RF (M_law_of [.ref 1, .lst xs] h) P := by
  unfold M_law_of B_law_of
  simp only [r_bind, r_pure, r_c, r_var, r_bin, r_u, r_test, r_frz, r_nil, r_cons, r_guard, r_tup, r_lst, r_nopart, r_part, r_sl, r_and, r_or, r_not, r_mite, r_andV, r_notV, r_pop, r_app, r_shr', r_call, rf_fun, r_snil, then_nx, then_rt, r_seq, r_drop, r_set, r_own', r_fix', r_to, r_ret, r_if, r_for, r_for0, r_sub, r_par3, r_par, r_frzT, r_frzF, r_it, r_enum, r_rng, r_comp, op_some, op_none, op_ite, op_map, pk_non, pk_bl, pk_int, pk_str, pk_tup, pk_lst, pk_tmp, pk_scr, pk_own, pkO_some, pk_ref, pkR_some, rd_val, rd_own, fz_non, fz_bl, fz_int, fz_str, fz_tup, fz_lst, fz_tmp, fz_ref, fz_scr, gl_own, gO_some, gl_ref, gR_some, sl_own, sl_ref, ab_bl, ai_int, it_tup, it_lst, it_tmp, it_scr, put_n, put_p, put_t, put_int, put_lst, put_tup, own_tmp, fix_own, shr_tmp, ret_nx, ret_rt, add_ii, add_ll, add_tt, sub_ii, mul_ii, mul_li, mul_ti, div_ii, mod_ii, pow_ii, ints_ii, eq_ii, ne_ii, is_non, is_int, is_tup, is_intB, not_non, not_tup, ix_l, ix_t, sl_l, sl_t, sl_s, rev_l, neg_i, len_l, len_t, int_i, abs_i, tup_l, tup_t, lst_l, lst_t, sum_l, toInts_int, zip_tt, rng_1, rng_2, rng_3, isi_int_int, isi_str_int, isi_bool_int, isi_tup_int, isi_tup_tup, isiC_int, isiC_tup, isiA_int, List.getElem?_cons_zero, List.getElem?_cons_succ, List.set_cons_zero, List.set_cons_succ, List.map_cons, List.map_nil, List.replicate_succ, List.replicate_zero, List.cons_append, List.nil_append, List.length_cons, List.length_nil, Nat.reduceAdd, Nat.reduceSub, Nat.reduceEqDiff, decide_eq_true_eq, Bool.not_eq_true', Bool.not_false, Bool.not_true, decide_eq_false_iff_not, true_and, and_true, true_or, or_true, reduceIte, Bool.false_eq_true, Int.reduceLT, Int.reduceLE, Nat.reduceLT, Nat.reduceLeDiff, Int.reduceEq, Int.reduceNe]
  refine any_ok hd (by omega) (by omega) fun k h' hk0 hk1 hd' => ?_
  obtain ⟨n, rfl⟩ : ∃ n : Nat, k = n := ⟨k.toNat, by omega⟩
  simp only [r_bind, r_pure, r_c, r_var, r_bin, r_u, r_test, r_frz, r_nil, r_cons, r_guard, r_tup, r_lst, r_nopart, r_part, r_sl, r_and, r_or, r_not, r_mite, r_andV, r_notV, r_pop, r_app, r_shr', r_call, rf_fun, r_snil, then_nx, then_rt, r_seq, r_drop, r_set, r_own', r_fix', r_to, r_ret, r_if, r_for, r_for0, r_sub, r_par3, r_par, r_frzT, r_frzF, r_it, r_enum, r_rng, r_comp, op_some, op_none, op_ite, op_map, pk_non, pk_bl, pk_int, pk_str, pk_tup, pk_lst, pk_tmp, pk_scr, pk_own, pkO_some, pk_ref, pkR_some, rd_val, rd_own, fz_non, fz_bl, fz_int, fz_str, fz_tup, fz_lst, fz_tmp, fz_ref, fz_scr, gl_own, gO_some, gl_ref, gR_some, sl_own, sl_ref, ab_bl, ai_int, it_tup, it_lst, it_tmp, it_scr, put_n, put_p, put_t, put_int, put_lst, put_tup, own_tmp, fix_own, shr_tmp, ret_nx, ret_rt, add_ii, add_ll, add_tt, sub_ii, mul_ii, mul_li, mul_ti, div_ii, mod_ii, pow_ii, ints_ii, eq_ii, ne_ii, is_non, is_int, is_tup, is_intB, not_non, not_tup, ix_l, ix_t, sl_l, sl_t, sl_s, rev_l, neg_i, len_l, len_t, int_i, abs_i, tup_l, tup_t, lst_l, lst_t, sum_l, toInts_int, zip_tt, rng_1, rng_2, rng_3, isi_int_int, isi_str_int, isi_bool_int, isi_tup_int, isi_tup_tup, isiC_int, isiC_tup, isiA_int, List.getElem?_cons_zero, List.getElem?_cons_succ, List.set_cons_zero, List.set_cons_succ, List.map_cons, List.map_nil, List.replicate_succ, List.replicate_zero, List.cons_append, List.nil_append, List.length_cons, List.length_nil, Nat.reduceAdd, Nat.reduceSub, Nat.reduceEqDiff, decide_eq_true_eq, Bool.not_eq_true', Bool.not_false, Bool.not_true, decide_eq_false_iff_not, true_and, and_true, true_or, or_true, reduceIte, Bool.false_eq_true, Int.reduceLT, Int.reduceLE, Nat.reduceLT, Nat.reduceLeDiff, Int.reduceEq, Int.reduceNe, at_nat]
  have hn : xs[n]? = some xs[n] := List.getElem?_eq_getElem (by omega)
  rw [hn]
  simp only [r_bind, r_pure, r_c, r_var, r_bin, r_u, r_test, r_frz, r_nil, r_cons, r_guard, r_tup, r_lst, r_nopart, r_part, r_sl, r_and, r_or, r_not, r_mite, r_andV, r_notV, r_pop, r_app, r_shr', r_call, rf_fun, r_snil, then_nx, then_rt, r_seq, r_drop, r_set, r_own', r_fix', r_to, r_ret, r_if, r_for, r_for0, r_sub, r_par3, r_par, r_frzT, r_frzF, r_it, r_enum, r_rng, r_comp, op_some, op_none, op_ite, op_map, pk_non, pk_bl, pk_int, pk_str, pk_tup, pk_lst, pk_tmp, pk_scr, pk_own, pkO_some, pk_ref, pkR_some, rd_val, rd_own, fz_non, fz_bl, fz_int, fz_str, fz_tup, fz_lst, fz_tmp, fz_ref, fz_scr, gl_own, gO_some, gl_ref, gR_some, sl_own, sl_ref, ab_bl, ai_int, it_tup, it_lst, it_tmp, it_scr, put_n, put_p, put_t, put_int, put_lst, put_tup, own_tmp, fix_own, shr_tmp, ret_nx, ret_rt, add_ii, add_ll, add_tt, sub_ii, mul_ii, mul_li, mul_ti, div_ii, mod_ii, pow_ii, ints_ii, eq_ii, ne_ii, is_non, is_int, is_tup, is_intB, not_non, not_tup, ix_l, ix_t, sl_l, sl_t, sl_s, rev_l, neg_i, len_l, len_t, int_i, abs_i, tup_l, tup_t, lst_l, lst_t, sum_l, toInts_int, zip_tt, rng_1, rng_2, rng_3, isi_int_int, isi_str_int, isi_bool_int, isi_tup_int, isi_tup_tup, isiC_int, isiC_tup, isiA_int, List.getElem?_cons_zero, List.getElem?_cons_succ, List.set_cons_zero, List.set_cons_succ, List.map_cons, List.map_nil, List.replicate_succ, List.replicate_zero, List.cons_append, List.nil_append, List.length_cons, List.length_nil, Nat.reduceAdd, Nat.reduceSub, Nat.reduceEqDiff, decide_eq_true_eq, Bool.not_eq_true', Bool.not_false, Bool.not_true, decide_eq_false_iff_not, true_and, and_true, true_or, or_true, reduceIte, Bool.false_eq_true, Int.reduceLT, Int.reduceLE, Nat.reduceLT, Nat.reduceLeDiff, Int.reduceEq, Int.reduceNe]
  exact hp _ h' (List.getElem_mem ..) hd'
theorem ofI_ok {h : List Cell} {P : Dv → List Cell → Prop} {xs : List Int} (hd : Dl h) (h0 : 0 < xs.length) (h1 : xs.length < 1000000) (hp : ∀ (x : Int) (h' : List Cell), x ∈ xs → Dl h' → P (.int x) h') : RF (M_law_of [.ref 1, .lst (iL xs)] h) P :=
  of_ok hd (by rw [iL_len]; exact h0) (by rw [iL_len]; exact h1) fun d h' hd hd' => by
    obtain ⟨x, hx, rfl⟩ := List.mem_map.mp hd
    exact hp x h' hx hd'
theorem oct_ok {h : List Cell} {P : Dv → List Cell → Prop} (hd : Dl h) (hp : ∀ (x : Int) (h' : List Cell), 0 ≤ x → x < 256 → Dl h' → P (.int x) h') : RF (M_law_octet [.ref 1] h) P := by
  unfold M_law_octet B_law_octet
  simp only [r_bind, r_pure, r_c, r_var, r_bin, r_u, r_test, r_frz, r_nil, r_cons, r_guard, r_tup, r_lst, r_nopart, r_part, r_sl, r_and, r_or, r_not, r_mite, r_andV, r_notV, r_pop, r_app, r_shr', r_call, rf_fun, r_snil, then_nx, then_rt, r_seq, r_drop, r_set, r_own', r_fix', r_to, r_ret, r_if, r_for, r_for0, r_sub, r_par3, r_par, r_frzT, r_frzF, r_it, r_enum, r_rng, r_comp, op_some, op_none, op_ite, op_map, pk_non, pk_bl, pk_int, pk_str, pk_tup, pk_lst, pk_tmp, pk_scr, pk_own, pkO_some, pk_ref, pkR_some, rd_val, rd_own, fz_non, fz_bl, fz_int, fz_str, fz_tup, fz_lst, fz_tmp, fz_ref, fz_scr, gl_own, gO_some, gl_ref, gR_some, sl_own, sl_ref, ab_bl, ai_int, it_tup, it_lst, it_tmp, it_scr, put_n, put_p, put_t, put_int, put_lst, put_tup, own_tmp, fix_own, shr_tmp, ret_nx, ret_rt, add_ii, add_ll, add_tt, sub_ii, mul_ii, mul_li, mul_ti, div_ii, mod_ii, pow_ii, ints_ii, eq_ii, ne_ii, is_non, is_int, is_tup, is_intB, not_non, not_tup, ix_l, ix_t, sl_l, sl_t, sl_s, rev_l, neg_i, len_l, len_t, int_i, abs_i, tup_l, tup_t, lst_l, lst_t, sum_l, toInts_int, zip_tt, rng_1, rng_2, rng_3, isi_int_int, isi_str_int, isi_bool_int, isi_tup_int, isi_tup_tup, isiC_int, isiC_tup, isiA_int, List.getElem?_cons_zero, List.getElem?_cons_succ, List.set_cons_zero, List.set_cons_succ, List.map_cons, List.map_nil, List.replicate_succ, List.replicate_zero, List.cons_append, List.nil_append, List.length_cons, List.length_nil, Nat.reduceAdd, Nat.reduceSub, Nat.reduceEqDiff, decide_eq_true_eq, Bool.not_eq_true', Bool.not_false, Bool.not_true, decide_eq_false_iff_not, true_and, and_true, true_or, or_true, reduceIte, Bool.false_eq_true, Int.reduceLT, Int.reduceLE, Nat.reduceLT, Nat.reduceLeDiff, Int.reduceEq, Int.reduceNe]
  refine any_ok hd (by decide) (by decide) fun k1 h1 hk1 hk1' hd1 => ?_
  simp only [r_bind, r_pure, r_c, r_var, r_bin, r_u, r_test, r_frz, r_nil, r_cons, r_guard, r_tup, r_lst, r_nopart, r_part, r_sl, r_and, r_or, r_not, r_mite, r_andV, r_notV, r_pop, r_app, r_shr', r_call, rf_fun, r_snil, then_nx, then_rt, r_seq, r_drop, r_set, r_own', r_fix', r_to, r_ret, r_if, r_for, r_for0, r_sub, r_par3, r_par, r_frzT, r_frzF, r_it, r_enum, r_rng, r_comp, op_some, op_none, op_ite, op_map, pk_non, pk_bl, pk_int, pk_str, pk_tup, pk_lst, pk_tmp, pk_scr, pk_own, pkO_some, pk_ref, pkR_some, rd_val, rd_own, fz_non, fz_bl, fz_int, fz_str, fz_tup, fz_lst, fz_tmp, fz_ref, fz_scr, gl_own, gO_some, gl_ref, gR_some, sl_own, sl_ref, ab_bl, ai_int, it_tup, it_lst, it_tmp, it_scr, put_n, put_p, put_t, put_int, put_lst, put_tup, own_tmp, fix_own, shr_tmp, ret_nx, ret_rt, add_ii, add_ll, add_tt, sub_ii, mul_ii, mul_li, mul_ti, div_ii, mod_ii, pow_ii, ints_ii, eq_ii, ne_ii, is_non, is_int, is_tup, is_intB, not_non, not_tup, ix_l, ix_t, sl_l, sl_t, sl_s, rev_l, neg_i, len_l, len_t, int_i, abs_i, tup_l, tup_t, lst_l, lst_t, sum_l, toInts_int, zip_tt, rng_1, rng_2, rng_3, isi_int_int, isi_str_int, isi_bool_int, isi_tup_int, isi_tup_tup, isiC_int, isiC_tup, isiA_int, List.getElem?_cons_zero, List.getElem?_cons_succ, List.set_cons_zero, List.set_cons_succ, List.map_cons, List.map_nil, List.replicate_succ, List.replicate_zero, List.cons_append, List.nil_append, List.length_cons, List.length_nil, Nat.reduceAdd, Nat.reduceSub, Nat.reduceEqDiff, decide_eq_true_eq, Bool.not_eq_true', Bool.not_false, Bool.not_true, decide_eq_false_iff_not, true_and, and_true, true_or, or_true, reduceIte, Bool.false_eq_true, Int.reduceLT, Int.reduceLE, Nat.reduceLT, Nat.reduceLeDiff, Int.reduceEq, Int.reduceNe]
  refine any_ok hd1 (by decide) (by decide) fun k2 h2 hk2 hk2' hd2 => ?_
  simp only [r_bind, r_pure, r_c, r_var, r_bin, r_u, r_test, r_frz, r_nil, r_cons, r_guard, r_tup, r_lst, r_nopart, r_part, r_sl, r_and, r_or, r_not, r_mite, r_andV, r_notV, r_pop, r_app, r_shr', r_call, rf_fun, r_snil, then_nx, then_rt, r_seq, r_drop, r_set, r_own', r_fix', r_to, r_ret, r_if, r_for, r_for0, r_sub, r_par3, r_par, r_frzT, r_frzF, r_it, r_enum, r_rng, r_comp, op_some, op_none, op_ite, op_map, pk_non, pk_bl, pk_int, pk_str, pk_tup, pk_lst, pk_tmp, pk_scr, pk_own, pkO_some, pk_ref, pkR_some, rd_val, rd_own, fz_non, fz_bl, fz_int, fz_str, fz_tup, fz_lst, fz_tmp, fz_ref, fz_scr, gl_own, gO_some, gl_ref, gR_some, sl_own, sl_ref, ab_bl, ai_int, it_tup, it_lst, it_tmp, it_scr, put_n, put_p, put_t, put_int, put_lst, put_tup, own_tmp, fix_own, shr_tmp, ret_nx, ret_rt, add_ii, add_ll, add_tt, sub_ii, mul_ii, mul_li, mul_ti, div_ii, mod_ii, pow_ii, ints_ii, eq_ii, ne_ii, is_non, is_int, is_tup, is_intB, not_non, not_tup, ix_l, ix_t, sl_l, sl_t, sl_s, rev_l, neg_i, len_l, len_t, int_i, abs_i, tup_l, tup_t, lst_l, lst_t, sum_l, toInts_int, zip_tt, rng_1, rng_2, rng_3, isi_int_int, isi_str_int, isi_bool_int, isi_tup_int, isi_tup_tup, isiC_int, isiC_tup, isiA_int, List.getElem?_cons_zero, List.getElem?_cons_succ, List.set_cons_zero, List.set_cons_succ, List.map_cons, List.map_nil, List.replicate_succ, List.replicate_zero, List.cons_append, List.nil_append, List.length_cons, List.length_nil, Nat.reduceAdd, Nat.reduceSub, Nat.reduceEqDiff, decide_eq_true_eq, Bool.not_eq_true', Bool.not_false, Bool.not_true, decide_eq_false_iff_not, true_and, and_true, true_or, or_true, reduceIte, Bool.false_eq_true, Int.reduceLT, Int.reduceLE, Nat.reduceLT, Nat.reduceLeDiff, Int.reduceEq, Int.reduceNe]
  refine any_ok hd2 (by decide) (by decide) fun k3 h3 hk3 hk3' hd3 => ?_
  simp only [r_bind, r_pure, r_c, r_var, r_bin, r_u, r_test, r_frz, r_nil, r_cons, r_guard, r_tup, r_lst, r_nopart, r_part, r_sl, r_and, r_or, r_not, r_mite, r_andV, r_notV, r_pop, r_app, r_shr', r_call, rf_fun, r_snil, then_nx, then_rt, r_seq, r_drop, r_set, r_own', r_fix', r_to, r_ret, r_if, r_for, r_for0, r_sub, r_par3, r_par, r_frzT, r_frzF, r_it, r_enum, r_rng, r_comp, op_some, op_none, op_ite, op_map, pk_non, pk_bl, pk_int, pk_str, pk_tup, pk_lst, pk_tmp, pk_scr, pk_own, pkO_some, pk_ref, pkR_some, rd_val, rd_own, fz_non, fz_bl, fz_int, fz_str, fz_tup, fz_lst, fz_tmp, fz_ref, fz_scr, gl_own, gO_some, gl_ref, gR_some, sl_own, sl_ref, ab_bl, ai_int, it_tup, it_lst, it_tmp, it_scr, put_n, put_p, put_t, put_int, put_lst, put_tup, own_tmp, fix_own, shr_tmp, ret_nx, ret_rt, add_ii, add_ll, add_tt, sub_ii, mul_ii, mul_li, mul_ti, div_ii, mod_ii, pow_ii, ints_ii, eq_ii, ne_ii, is_non, is_int, is_tup, is_intB, not_non, not_tup, ix_l, ix_t, sl_l, sl_t, sl_s, rev_l, neg_i, len_l, len_t, int_i, abs_i, tup_l, tup_t, lst_l, lst_t, sum_l, toInts_int, zip_tt, rng_1, rng_2, rng_3, isi_int_int, isi_str_int, isi_bool_int, isi_tup_int, isi_tup_tup, isiC_int, isiC_tup, isiA_int, List.getElem?_cons_zero, List.getElem?_cons_succ, List.set_cons_zero, List.set_cons_succ, List.map_cons, List.map_nil, List.replicate_succ, List.replicate_zero, List.cons_append, List.nil_append, List.length_cons, List.length_nil, Nat.reduceAdd, Nat.reduceSub, Nat.reduceEqDiff, decide_eq_true_eq, Bool.not_eq_true', Bool.not_false, Bool.not_true, decide_eq_false_iff_not, true_and, and_true, true_or, or_true, reduceIte, Bool.false_eq_true, Int.reduceLT, Int.reduceLE, Nat.reduceLT, Nat.reduceLeDiff, Int.reduceEq, Int.reduceNe]
  refine ⟨by rw [lim_is]; omega, ?_⟩
  refine ofI_ok (xs := [0, 1, 127, 128, 255, k1, k2, k3]) hd3 (by simp) (by simp) fun x h' hx hd' => ?_
  simp only [r_bind, r_pure, r_c, r_var, r_bin, r_u, r_test, r_frz, r_nil, r_cons, r_guard, r_tup, r_lst, r_nopart, r_part, r_sl, r_and, r_or, r_not, r_mite, r_andV, r_notV, r_pop, r_app, r_shr', r_call, rf_fun, r_snil, then_nx, then_rt, r_seq, r_drop, r_set, r_own', r_fix', r_to, r_ret, r_if, r_for, r_for0, r_sub, r_par3, r_par, r_frzT, r_frzF, r_it, r_enum, r_rng, r_comp, op_some, op_none, op_ite, op_map, pk_non, pk_bl, pk_int, pk_str, pk_tup, pk_lst, pk_tmp, pk_scr, pk_own, pkO_some, pk_ref, pkR_some, rd_val, rd_own, fz_non, fz_bl, fz_int, fz_str, fz_tup, fz_lst, fz_tmp, fz_ref, fz_scr, gl_own, gO_some, gl_ref, gR_some, sl_own, sl_ref, ab_bl, ai_int, it_tup, it_lst, it_tmp, it_scr, put_n, put_p, put_t, put_int, put_lst, put_tup, own_tmp, fix_own, shr_tmp, ret_nx, ret_rt, add_ii, add_ll, add_tt, sub_ii, mul_ii, mul_li, mul_ti, div_ii, mod_ii, pow_ii, ints_ii, eq_ii, ne_ii, is_non, is_int, is_tup, is_intB, not_non, not_tup, ix_l, ix_t, sl_l, sl_t, sl_s, rev_l, neg_i, len_l, len_t, int_i, abs_i, tup_l, tup_t, lst_l, lst_t, sum_l, toInts_int, zip_tt, rng_1, rng_2, rng_3, isi_int_int, isi_str_int, isi_bool_int, isi_tup_int, isi_tup_tup, isiC_int, isiC_tup, isiA_int, List.getElem?_cons_zero, List.getElem?_cons_succ, List.set_cons_zero, List.set_cons_succ, List.map_cons, List.map_nil, List.replicate_succ, List.replicate_zero, List.cons_append, List.nil_append, List.length_cons, List.length_nil, Nat.reduceAdd, Nat.reduceSub, Nat.reduceEqDiff, decide_eq_true_eq, Bool.not_eq_true', Bool.not_false, Bool.not_true, decide_eq_false_iff_not, true_and, and_true, true_or, or_true, reduceIte, Bool.false_eq_true, Int.reduceLT, Int.reduceLE, Nat.reduceLT, Nat.reduceLeDiff, Int.reduceEq, Int.reduceNe]
  refine hp x h' ?_ ?_ hd'
  · simp only [List.mem_cons, List.not_mem_nil, or_false] at hx
    omega
  · simp only [List.mem_cons, List.not_mem_nil, or_false] at hx
    omega
theorem oc_app {xs ys : List Int} (h1 : Oc xs) (h2 : Oc ys) : Oc (xs ++ ys) := fun x hx => by
  rcases List.mem_append.mp hx with hx | hx
  · exact h1 x hx
  · exact h2 x hx
theorem oc_one {x : Int} (h0 : 0 ≤ x) (h1 : x < 256) : Oc [x] := fun y hy => by rw [List.mem_singleton.mp hy]; exact ⟨h0, h1⟩
theorem bent_ok {h : List Cell} {P : Dv → List Cell → Prop} {os : List Int} (hd : Dl h) (ho : Oc os) (hl : os.length < 30000) (hp : ∀ (xs : List Int) (h' : List Cell), Oc xs → xs.length ≤ os.length + 1 → Dl h' → P (.lst (iL xs)) h') : RF (M_law_bent [.ref 1, .lst (iL os)] h) P := by
  unfold M_law_bent B_law_bent
  simp only [r_bind, r_pure, r_c, r_var, r_bin, r_u, r_test, r_frz, r_nil, r_cons, r_guard, r_tup, r_lst, r_nopart, r_part, r_sl, r_and, r_or, r_not, r_mite, r_andV, r_notV, r_pop, r_app, r_shr', r_call, rf_fun, r_snil, then_nx, then_rt, r_seq, r_drop, r_set, r_own', r_fix', r_to, r_ret, r_if, r_for, r_for0, r_sub, r_par3, r_par, r_frzT, r_frzF, r_it, r_enum, r_rng, r_comp, op_some, op_none, op_ite, op_map, pk_non, pk_bl, pk_int, pk_str, pk_tup, pk_lst, pk_tmp, pk_scr, pk_own, pkO_some, pk_ref, pkR_some, rd_val, rd_own, fz_non, fz_bl, fz_int, fz_str, fz_tup, fz_lst, fz_tmp, fz_ref, fz_scr, gl_own, gO_some, gl_ref, gR_some, sl_own, sl_ref, ab_bl, ai_int, it_tup, it_lst, it_tmp, it_scr, put_n, put_p, put_t, put_int, put_lst, put_tup, own_tmp, fix_own, shr_tmp, ret_nx, ret_rt, add_ii, add_ll, add_tt, sub_ii, mul_ii, mul_li, mul_ti, div_ii, mod_ii, pow_ii, ints_ii, eq_ii, ne_ii, is_non, is_int, is_tup, is_intB, not_non, not_tup, ix_l, ix_t, sl_l, sl_t, sl_s, rev_l, neg_i, len_l, len_t, int_i, abs_i, tup_l, tup_t, lst_l, lst_t, sum_l, toInts_int, zip_tt, rng_1, rng_2, rng_3, isi_int_int, isi_str_int, isi_bool_int, isi_tup_int, isi_tup_tup, isiC_int, isiC_tup, isiA_int, List.getElem?_cons_zero, List.getElem?_cons_succ, List.set_cons_zero, List.set_cons_succ, List.map_cons, List.map_nil, List.replicate_succ, List.replicate_zero, List.cons_append, List.nil_append, List.length_cons, List.length_nil, Nat.reduceAdd, Nat.reduceSub, Nat.reduceEqDiff, decide_eq_true_eq, Bool.not_eq_true', Bool.not_false, Bool.not_true, decide_eq_false_iff_not, true_and, and_true, true_or, or_true, reduceIte, Bool.false_eq_true, Int.reduceLT, Int.reduceLE, Nat.reduceLT, Nat.reduceLeDiff, Int.reduceEq, Int.reduceNe, iL_len]
  by_cases h0 : os.length = 0
  · rw [if_pos (by omega)]
    exact hp os h ho (by omega) hd
  · rw [if_neg (by omega)]
    refine any_ok hd (by omega) (by omega) fun k1 h1 hk1 hk1' hd1 => ?_
    simp only [r_bind, r_pure, r_c, r_var, r_bin, r_u, r_test, r_frz, r_nil, r_cons, r_guard, r_tup, r_lst, r_nopart, r_part, r_sl, r_and, r_or, r_not, r_mite, r_andV, r_notV, r_pop, r_app, r_shr', r_call, rf_fun, r_snil, then_nx, then_rt, r_seq, r_drop, r_set, r_own', r_fix', r_to, r_ret, r_if, r_for, r_for0, r_sub, r_par3, r_par, r_frzT, r_frzF, r_it, r_enum, r_rng, r_comp, op_some, op_none, op_ite, op_map, pk_non, pk_bl, pk_int, pk_str, pk_tup, pk_lst, pk_tmp, pk_scr, pk_own, pkO_some, pk_ref, pkR_some, rd_val, rd_own, fz_non, fz_bl, fz_int, fz_str, fz_tup, fz_lst, fz_tmp, fz_ref, fz_scr, gl_own, gO_some, gl_ref, gR_some, sl_own, sl_ref, ab_bl, ai_int, it_tup, it_lst, it_tmp, it_scr, put_n, put_p, put_t, put_int, put_lst, put_tup, own_tmp, fix_own, shr_tmp, ret_nx, ret_rt, add_ii, add_ll, add_tt, sub_ii, mul_ii, mul_li, mul_ti, div_ii, mod_ii, pow_ii, ints_ii, eq_ii, ne_ii, is_non, is_int, is_tup, is_intB, not_non, not_tup, ix_l, ix_t, sl_l, sl_t, sl_s, rev_l, neg_i, len_l, len_t, int_i, abs_i, tup_l, tup_t, lst_l, lst_t, sum_l, toInts_int, zip_tt, rng_1, rng_2, rng_3, isi_int_int, isi_str_int, isi_bool_int, isi_tup_int, isi_tup_tup, isiC_int, isiC_tup, isiA_int, List.getElem?_cons_zero, List.getElem?_cons_succ, List.set_cons_zero, List.set_cons_succ, List.map_cons, List.map_nil, List.replicate_succ, List.replicate_zero, List.cons_append, List.nil_append, List.length_cons, List.length_nil, Nat.reduceAdd, Nat.reduceSub, Nat.reduceEqDiff, decide_eq_true_eq, Bool.not_eq_true', Bool.not_false, Bool.not_true, decide_eq_false_iff_not, true_and, and_true, true_or, or_true, reduceIte, Bool.false_eq_true, Int.reduceLT, Int.reduceLE, Nat.reduceLT, Nat.reduceLeDiff, Int.reduceEq, Int.reduceNe]
    refine any_ok hd1 (by decide) (by decide) fun k2 h2 hk2 hk2' hd2 => ?_
    obtain ⟨n, rfl⟩ : ∃ n : Nat, k1 = n := ⟨k1.toNat, by omega⟩
    have e1 : (n : Int) + 1 = ((n + 1 : Nat) : Int) := by omega
    have hn : os[n]? = some os[n] := List.getElem?_eq_getElem (by omega)
    have hlt : (os.take n).length = n := by rw [List.length_take]; omega
    have hld : (os.drop (n + 1)).length = os.length - (n + 1) := List.length_drop ..
    have hld0 : (os.drop n).length = os.length - n := List.length_drop ..
    simp only [r_bind, r_pure, r_c, r_var, r_bin, r_u, r_test, r_frz, r_nil, r_cons, r_guard, r_tup, r_lst, r_nopart, r_part, r_sl, r_and, r_or, r_not, r_mite, r_andV, r_notV, r_pop, r_app, r_shr', r_call, rf_fun, r_snil, then_nx, then_rt, r_seq, r_drop, r_set, r_own', r_fix', r_to, r_ret, r_if, r_for, r_for0, r_sub, r_par3, r_par, r_frzT, r_frzF, r_it, r_enum, r_rng, r_comp, op_some, op_none, op_ite, op_map, pk_non, pk_bl, pk_int, pk_str, pk_tup, pk_lst, pk_tmp, pk_scr, pk_own, pkO_some, pk_ref, pkR_some, rd_val, rd_own, fz_non, fz_bl, fz_int, fz_str, fz_tup, fz_lst, fz_tmp, fz_ref, fz_scr, gl_own, gO_some, gl_ref, gR_some, sl_own, sl_ref, ab_bl, ai_int, it_tup, it_lst, it_tmp, it_scr, put_n, put_p, put_t, put_int, put_lst, put_tup, own_tmp, fix_own, shr_tmp, ret_nx, ret_rt, add_ii, add_ll, add_tt, sub_ii, mul_ii, mul_li, mul_ti, div_ii, mod_ii, pow_ii, ints_ii, eq_ii, ne_ii, is_non, is_int, is_tup, is_intB, not_non, not_tup, ix_l, ix_t, sl_l, sl_t, sl_s, rev_l, neg_i, len_l, len_t, int_i, abs_i, tup_l, tup_t, lst_l, lst_t, sum_l, toInts_int, zip_tt, rng_1, rng_2, rng_3, isi_int_int, isi_str_int, isi_bool_int, isi_tup_int, isi_tup_tup, isiC_int, isiC_tup, isiA_int, List.getElem?_cons_zero, List.getElem?_cons_succ, List.set_cons_zero, List.set_cons_succ, List.map_cons, List.map_nil, List.replicate_succ, List.replicate_zero, List.cons_append, List.nil_append, List.length_cons, List.length_nil, Nat.reduceAdd, Nat.reduceSub, Nat.reduceEqDiff, decide_eq_true_eq, Bool.not_eq_true', Bool.not_false, Bool.not_true, decide_eq_false_iff_not, true_and, and_true, true_or, or_true, reduceIte, Bool.false_eq_true, Int.reduceLT, Int.reduceLE, Nat.reduceLT, Nat.reduceLeDiff, Int.reduceEq, Int.reduceNe, e1, cut_on, cut_no, iL_drop, iL_take, iL_len, at_nat, iL_get, hn, Option.map_some]
    by_cases h2' : k2 = 0
    · rw [if_pos h2']
      refine ⟨by rw [lim_is]; omega, ?_⟩
      rw [← iL_app]
      exact hp _ h2 (oc_app (oc_take ho) (oc_drop ho)) (by rw [List.length_append]; omega) hd2
    · rw [if_neg h2']
      by_cases h3' : k2 = 1
      · rw [if_pos h3']
        refine oct_ok hd2 fun x h3 hx0 hx1 hd3 => ?_
        simp only [r_bind, r_pure, r_c, r_var, r_bin, r_u, r_test, r_frz, r_nil, r_cons, r_guard, r_tup, r_lst, r_nopart, r_part, r_sl, r_and, r_or, r_not, r_mite, r_andV, r_notV, r_pop, r_app, r_shr', r_call, rf_fun, r_snil, then_nx, then_rt, r_seq, r_drop, r_set, r_own', r_fix', r_to, r_ret, r_if, r_for, r_for0, r_sub, r_par3, r_par, r_frzT, r_frzF, r_it, r_enum, r_rng, r_comp, op_some, op_none, op_ite, op_map, pk_non, pk_bl, pk_int, pk_str, pk_tup, pk_lst, pk_tmp, pk_scr, pk_own, pkO_some, pk_ref, pkR_some, rd_val, rd_own, fz_non, fz_bl, fz_int, fz_str, fz_tup, fz_lst, fz_tmp, fz_ref, fz_scr, gl_own, gO_some, gl_ref, gR_some, sl_own, sl_ref, ab_bl, ai_int, it_tup, it_lst, it_tmp, it_scr, put_n, put_p, put_t, put_int, put_lst, put_tup, own_tmp, fix_own, shr_tmp, ret_nx, ret_rt, add_ii, add_ll, add_tt, sub_ii, mul_ii, mul_li, mul_ti, div_ii, mod_ii, pow_ii, ints_ii, eq_ii, ne_ii, is_non, is_int, is_tup, is_intB, not_non, not_tup, ix_l, ix_t, sl_l, sl_t, sl_s, rev_l, neg_i, len_l, len_t, int_i, abs_i, tup_l, tup_t, lst_l, lst_t, sum_l, toInts_int, zip_tt, rng_1, rng_2, rng_3, isi_int_int, isi_str_int, isi_bool_int, isi_tup_int, isi_tup_tup, isiC_int, isiC_tup, isiA_int, List.getElem?_cons_zero, List.getElem?_cons_succ, List.set_cons_zero, List.set_cons_succ, List.map_cons, List.map_nil, List.replicate_succ, List.replicate_zero, List.cons_append, List.nil_append, List.length_cons, List.length_nil, Nat.reduceAdd, Nat.reduceSub, Nat.reduceEqDiff, decide_eq_true_eq, Bool.not_eq_true', Bool.not_false, Bool.not_true, decide_eq_false_iff_not, true_and, and_true, true_or, or_true, reduceIte, Bool.false_eq_true, Int.reduceLT, Int.reduceLE, Nat.reduceLT, Nat.reduceLeDiff, Int.reduceEq, Int.reduceNe, iL_len, List.length_append]
        refine ⟨by rw [lim_is]; omega, by rw [lim_is]; omega, by rw [lim_is]; omega, ?_⟩
        have e2 : iL (os.take n) ++ [Dv.int x] ++ iL (os.drop n) = iL (os.take n ++ [x] ++ os.drop n) := by rw [iL_app, iL_app] <;> rfl
        rw [e2]
        exact hp _ h3 (oc_app (oc_app (oc_take ho) (oc_one hx0 hx1)) (oc_drop ho)) (by rw [List.length_append, List.length_append, List.length_singleton]; omega) hd3
      · rw [if_neg h3']
        refine any_ok hd2 (by decide) (by decide) fun k3 h3 hk3 hk3' hd3 => ?_
        simp only [r_bind, r_pure, r_c, r_var, r_bin, r_u, r_test, r_frz, r_nil, r_cons, r_guard, r_tup, r_lst, r_nopart, r_part, r_sl, r_and, r_or, r_not, r_mite, r_andV, r_notV, r_pop, r_app, r_shr', r_call, rf_fun, r_snil, then_nx, then_rt, r_seq, r_drop, r_set, r_own', r_fix', r_to, r_ret, r_if, r_for, r_for0, r_sub, r_par3, r_par, r_frzT, r_frzF, r_it, r_enum, r_rng, r_comp, op_some, op_none, op_ite, op_map, pk_non, pk_bl, pk_int, pk_str, pk_tup, pk_lst, pk_tmp, pk_scr, pk_own, pkO_some, pk_ref, pkR_some, rd_val, rd_own, fz_non, fz_bl, fz_int, fz_str, fz_tup, fz_lst, fz_tmp, fz_ref, fz_scr, gl_own, gO_some, gl_ref, gR_some, sl_own, sl_ref, ab_bl, ai_int, it_tup, it_lst, it_tmp, it_scr, put_n, put_p, put_t, put_int, put_lst, put_tup, own_tmp, fix_own, shr_tmp, ret_nx, ret_rt, add_ii, add_ll, add_tt, sub_ii, mul_ii, mul_li, mul_ti, div_ii, mod_ii, pow_ii, ints_ii, eq_ii, ne_ii, is_non, is_int, is_tup, is_intB, not_non, not_tup, ix_l, ix_t, sl_l, sl_t, sl_s, rev_l, neg_i, len_l, len_t, int_i, abs_i, tup_l, tup_t, lst_l, lst_t, sum_l, toInts_int, zip_tt, rng_1, rng_2, rng_3, isi_int_int, isi_str_int, isi_bool_int, isi_tup_int, isi_tup_tup, isiC_int, isiC_tup, isiA_int, List.getElem?_cons_zero, List.getElem?_cons_succ, List.set_cons_zero, List.set_cons_succ, List.map_cons, List.map_nil, List.replicate_succ, List.replicate_zero, List.cons_append, List.nil_append, List.length_cons, List.length_nil, Nat.reduceAdd, Nat.reduceSub, Nat.reduceEqDiff, decide_eq_true_eq, Bool.not_eq_true', Bool.not_false, Bool.not_true, decide_eq_false_iff_not, true_and, and_true, true_or, or_true, reduceIte, Bool.false_eq_true, Int.reduceLT, Int.reduceLE, Nat.reduceLT, Nat.reduceLeDiff, Int.reduceEq, Int.reduceNe]
        refine ⟨by rw [lim_is]; omega, ?_⟩
        refine ofI_ok (xs := [1, 128, 255, 1 + k3]) hd3 (by simp) (by simp) fun x h4 hx hd4 => ?_
        simp only [r_bind, r_pure, r_c, r_var, r_bin, r_u, r_test, r_frz, r_nil, r_cons, r_guard, r_tup, r_lst, r_nopart, r_part, r_sl, r_and, r_or, r_not, r_mite, r_andV, r_notV, r_pop, r_app, r_shr', r_call, rf_fun, r_snil, then_nx, then_rt, r_seq, r_drop, r_set, r_own', r_fix', r_to, r_ret, r_if, r_for, r_for0, r_sub, r_par3, r_par, r_frzT, r_frzF, r_it, r_enum, r_rng, r_comp, op_some, op_none, op_ite, op_map, pk_non, pk_bl, pk_int, pk_str, pk_tup, pk_lst, pk_tmp, pk_scr, pk_own, pkO_some, pk_ref, pkR_some, rd_val, rd_own, fz_non, fz_bl, fz_int, fz_str, fz_tup, fz_lst, fz_tmp, fz_ref, fz_scr, gl_own, gO_some, gl_ref, gR_some, sl_own, sl_ref, ab_bl, ai_int, it_tup, it_lst, it_tmp, it_scr, put_n, put_p, put_t, put_int, put_lst, put_tup, own_tmp, fix_own, shr_tmp, ret_nx, ret_rt, add_ii, add_ll, add_tt, sub_ii, mul_ii, mul_li, mul_ti, div_ii, mod_ii, pow_ii, ints_ii, eq_ii, ne_ii, is_non, is_int, is_tup, is_intB, not_non, not_tup, ix_l, ix_t, sl_l, sl_t, sl_s, rev_l, neg_i, len_l, len_t, int_i, abs_i, tup_l, tup_t, lst_l, lst_t, sum_l, toInts_int, zip_tt, rng_1, rng_2, rng_3, isi_int_int, isi_str_int, isi_bool_int, isi_tup_int, isi_tup_tup, isiC_int, isiC_tup, isiA_int, List.getElem?_cons_zero, List.getElem?_cons_succ, List.set_cons_zero, List.set_cons_succ, List.map_cons, List.map_nil, List.replicate_succ, List.replicate_zero, List.cons_append, List.nil_append, List.length_cons, List.length_nil, Nat.reduceAdd, Nat.reduceSub, Nat.reduceEqDiff, decide_eq_true_eq, Bool.not_eq_true', Bool.not_false, Bool.not_true, decide_eq_false_iff_not, true_and, and_true, true_or, or_true, reduceIte, Bool.false_eq_true, Int.reduceLT, Int.reduceLE, Nat.reduceLT, Nat.reduceLeDiff, Int.reduceEq, Int.reduceNe, iL_len, List.length_append]
        refine ⟨by rw [lim_is]; omega, by rw [lim_is]; omega, by rw [lim_is]; omega, ?_⟩
        have e2 : iL (os.take n) ++ [Dv.int ((os[n] + x) % 256)] ++ iL (os.drop (n + 1)) = iL (os.take n ++ [(os[n] + x) % 256] ++ os.drop (n + 1)) := by rw [iL_app, iL_app] <;> rfl
        rw [e2]
        exact hp _ h4 (oc_app (oc_app (oc_take ho) (oc_one (by omega) (by omega))) (oc_drop ho)) (by rw [List.length_append, List.length_append, List.length_singleton]; omega) hd4
theorem body_ok {h : List Cell} {P : Dv → List Cell → Prop} (hd : Dl h) (hp : ∀ (xs : List Int) (h' : List Cell), Oc xs → xs.length ≤ 300 → Dl h' → P (.lst (iL xs)) h') : RF (M_law_some_body [.ref 1] h) P := by
  unfold M_law_some_body B_law_some_body
  simp only [r_bind, r_pure, r_c, r_var, r_bin, r_u, r_test, r_frz, r_nil, r_cons, r_guard, r_tup, r_lst, r_nopart, r_part, r_sl, r_and, r_or, r_not, r_mite, r_andV, r_notV, r_pop, r_app, r_shr', r_call, rf_fun, r_snil, then_nx, then_rt, r_seq, r_drop, r_set, r_own', r_fix', r_to, r_ret, r_if, r_for, r_for0, r_sub, r_par3, r_par, r_frzT, r_frzF, r_it, r_enum, r_rng, r_comp, op_some, op_none, op_ite, op_map, pk_non, pk_bl, pk_int, pk_str, pk_tup, pk_lst, pk_tmp, pk_scr, pk_own, pkO_some, pk_ref, pkR_some, rd_val, rd_own, fz_non, fz_bl, fz_int, fz_str, fz_tup, fz_lst, fz_tmp, fz_ref, fz_scr, gl_own, gO_some, gl_ref, gR_some, sl_own, sl_ref, ab_bl, ai_int, it_tup, it_lst, it_tmp, it_scr, put_n, put_p, put_t, put_int, put_lst, put_tup, own_tmp, fix_own, shr_tmp, ret_nx, ret_rt, add_ii, add_ll, add_tt, sub_ii, mul_ii, mul_li, mul_ti, div_ii, mod_ii, pow_ii, ints_ii, eq_ii, ne_ii, is_non, is_int, is_tup, is_intB, not_non, not_tup, ix_l, ix_t, sl_l, sl_t, sl_s, rev_l, neg_i, len_l, len_t, int_i, abs_i, tup_l, tup_t, lst_l, lst_t, sum_l, toInts_int, zip_tt, rng_1, rng_2, rng_3, isi_int_int, isi_str_int, isi_bool_int, isi_tup_int, isi_tup_tup, isiC_int, isiC_tup, isiA_int, List.getElem?_cons_zero, List.getElem?_cons_succ, List.set_cons_zero, List.set_cons_succ, List.map_cons, List.map_nil, List.replicate_succ, List.replicate_zero, List.cons_append, List.nil_append, List.length_cons, List.length_nil, Nat.reduceAdd, Nat.reduceSub, Nat.reduceEqDiff, decide_eq_true_eq, Bool.not_eq_true', Bool.not_false, Bool.not_true, decide_eq_false_iff_not, true_and, and_true, true_or, or_true, reduceIte, Bool.false_eq_true, Int.reduceLT, Int.reduceLE, Nat.reduceLT, Nat.reduceLeDiff, Int.reduceEq, Int.reduceNe]
  refine ⟨by rw [lim_is]; omega, ?_⟩
  refine ofI_ok (xs := [0, 1, 2, 5, 20, 126, 127, 128, 129, 300]) hd (by decide) (by decide) fun m h1 hm hd1 => ?_
  have hm0 : 0 ≤ m ∧ m ≤ 300 := by
    simp only [List.mem_cons, List.not_mem_nil, or_false] at hm
    omega
  obtain ⟨n, rfl⟩ : ∃ n : Nat, m = n := ⟨m.toNat, by omega⟩
  simp only [r_bind, r_pure, r_c, r_var, r_bin, r_u, r_test, r_frz, r_nil, r_cons, r_guard, r_tup, r_lst, r_nopart, r_part, r_sl, r_and, r_or, r_not, r_mite, r_andV, r_notV, r_pop, r_app, r_shr', r_call, rf_fun, r_snil, then_nx, then_rt, r_seq, r_drop, r_set, r_own', r_fix', r_to, r_ret, r_if, r_for, r_for0, r_sub, r_par3, r_par, r_frzT, r_frzF, r_it, r_enum, r_rng, r_comp, op_some, op_none, op_ite, op_map, pk_non, pk_bl, pk_int, pk_str, pk_tup, pk_lst, pk_tmp, pk_scr, pk_own, pkO_some, pk_ref, pkR_some, rd_val, rd_own, fz_non, fz_bl, fz_int, fz_str, fz_tup, fz_lst, fz_tmp, fz_ref, fz_scr, gl_own, gO_some, gl_ref, gR_some, sl_own, sl_ref, ab_bl, ai_int, it_tup, it_lst, it_tmp, it_scr, put_n, put_p, put_t, put_int, put_lst, put_tup, own_tmp, fix_own, shr_tmp, ret_nx, ret_rt, add_ii, add_ll, add_tt, sub_ii, mul_ii, mul_li, mul_ti, div_ii, mod_ii, pow_ii, ints_ii, eq_ii, ne_ii, is_non, is_int, is_tup, is_intB, not_non, not_tup, ix_l, ix_t, sl_l, sl_t, sl_s, rev_l, neg_i, len_l, len_t, int_i, abs_i, tup_l, tup_t, lst_l, lst_t, sum_l, toInts_int, zip_tt, rng_1, rng_2, rng_3, isi_int_int, isi_str_int, isi_bool_int, isi_tup_int, isi_tup_tup, isiC_int, isiC_tup, isiA_int, List.getElem?_cons_zero, List.getElem?_cons_succ, List.set_cons_zero, List.set_cons_succ, List.map_cons, List.map_nil, List.replicate_succ, List.replicate_zero, List.cons_append, List.nil_append, List.length_cons, List.length_nil, Nat.reduceAdd, Nat.reduceSub, Nat.reduceEqDiff, decide_eq_true_eq, Bool.not_eq_true', Bool.not_false, Bool.not_true, decide_eq_false_iff_not, true_and, and_true, true_or, or_true, reduceIte, Bool.false_eq_true, Int.reduceLT, Int.reduceLE, Nat.reduceLT, Nat.reduceLeDiff, Int.reduceEq, Int.reduceNe]
  by_cases h30 : 30 < (n : Int)
  · rw [if_pos h30]
    refine oct_ok hd1 fun one h2 ho0 ho1 hd2 => ?_
    simp only [r_bind, r_pure, r_c, r_var, r_bin, r_u, r_test, r_frz, r_nil, r_cons, r_guard, r_tup, r_lst, r_nopart, r_part, r_sl, r_and, r_or, r_not, r_mite, r_andV, r_notV, r_pop, r_app, r_shr', r_call, rf_fun, r_snil, then_nx, then_rt, r_seq, r_drop, r_set, r_own', r_fix', r_to, r_ret, r_if, r_for, r_for0, r_sub, r_par3, r_par, r_frzT, r_frzF, r_it, r_enum, r_rng, r_comp, op_some, op_none, op_ite, op_map, pk_non, pk_bl, pk_int, pk_str, pk_tup, pk_lst, pk_tmp, pk_scr, pk_own, pkO_some, pk_ref, pkR_some, rd_val, rd_own, fz_non, fz_bl, fz_int, fz_str, fz_tup, fz_lst, fz_tmp, fz_ref, fz_scr, gl_own, gO_some, gl_ref, gR_some, sl_own, sl_ref, ab_bl, ai_int, it_tup, it_lst, it_tmp, it_scr, put_n, put_p, put_t, put_int, put_lst, put_tup, own_tmp, fix_own, shr_tmp, ret_nx, ret_rt, add_ii, add_ll, add_tt, sub_ii, mul_ii, mul_li, mul_ti, div_ii, mod_ii, pow_ii, ints_ii, eq_ii, ne_ii, is_non, is_int, is_tup, is_intB, not_non, not_tup, ix_l, ix_t, sl_l, sl_t, sl_s, rev_l, neg_i, len_l, len_t, int_i, abs_i, tup_l, tup_t, lst_l, lst_t, sum_l, toInts_int, zip_tt, rng_1, rng_2, rng_3, isi_int_int, isi_str_int, isi_bool_int, isi_tup_int, isi_tup_tup, isiC_int, isiC_tup, isiA_int, List.getElem?_cons_zero, List.getElem?_cons_succ, List.set_cons_zero, List.set_cons_succ, List.map_cons, List.map_nil, List.replicate_succ, List.replicate_zero, List.cons_append, List.nil_append, List.length_cons, List.length_nil, Nat.reduceAdd, Nat.reduceSub, Nat.reduceEqDiff, decide_eq_true_eq, Bool.not_eq_true', Bool.not_false, Bool.not_true, decide_eq_false_iff_not, true_and, and_true, true_or, or_true, reduceIte, Bool.false_eq_true, Int.reduceLT, Int.reduceLE, Nat.reduceLT, Nat.reduceLeDiff, Int.reduceEq, Int.reduceNe]
    refine ⟨by rw [lim_is]; omega, ?_⟩
    refine ofI_ok (xs := [0, 1, 7, 128]) hd2 (by decide) (by decide) fun st h3 hst hd3 => ?_
    have hst0 : 0 ≤ st ∧ st ≤ 128 := by
      simp only [List.mem_cons, List.not_mem_nil, or_false] at hst
      omega
    simp only [r_bind, r_pure, r_c, r_var, r_bin, r_u, r_test, r_frz, r_nil, r_cons, r_guard, r_tup, r_lst, r_nopart, r_part, r_sl, r_and, r_or, r_not, r_mite, r_andV, r_notV, r_pop, r_app, r_shr', r_call, rf_fun, r_snil, then_nx, then_rt, r_seq, r_drop, r_set, r_own', r_fix', r_to, r_ret, r_if, r_for, r_for0, r_sub, r_par3, r_par, r_frzT, r_frzF, r_it, r_enum, r_rng, r_comp, op_some, op_none, op_ite, op_map, pk_non, pk_bl, pk_int, pk_str, pk_tup, pk_lst, pk_tmp, pk_scr, pk_own, pkO_some, pk_ref, pkR_some, rd_val, rd_own, fz_non, fz_bl, fz_int, fz_str, fz_tup, fz_lst, fz_tmp, fz_ref, fz_scr, gl_own, gO_some, gl_ref, gR_some, sl_own, sl_ref, ab_bl, ai_int, it_tup, it_lst, it_tmp, it_scr, put_n, put_p, put_t, put_int, put_lst, put_tup, own_tmp, fix_own, shr_tmp, ret_nx, ret_rt, add_ii, add_ll, add_tt, sub_ii, mul_ii, mul_li, mul_ti, div_ii, mod_ii, pow_ii, ints_ii, eq_ii, ne_ii, is_non, is_int, is_tup, is_intB, not_non, not_tup, ix_l, ix_t, sl_l, sl_t, sl_s, rev_l, neg_i, len_l, len_t, int_i, abs_i, tup_l, tup_t, lst_l, lst_t, sum_l, toInts_int, zip_tt, rng_1, rng_2, rng_3, isi_int_int, isi_str_int, isi_bool_int, isi_tup_int, isi_tup_tup, isiC_int, isiC_tup, isiA_int, List.getElem?_cons_zero, List.getElem?_cons_succ, List.set_cons_zero, List.set_cons_succ, List.map_cons, List.map_nil, List.replicate_succ, List.replicate_zero, List.cons_append, List.nil_append, List.length_cons, List.length_nil, Nat.reduceAdd, Nat.reduceSub, Nat.reduceEqDiff, decide_eq_true_eq, Bool.not_eq_true', Bool.not_false, Bool.not_true, decide_eq_false_iff_not, true_and, and_true, true_or, or_true, reduceIte, Bool.false_eq_true, Int.reduceLT, Int.reduceLE, Nat.reduceLT, Nat.reduceLeDiff, Int.reduceEq, Int.reduceNe]
    refine ⟨by rw [lim_is]; omega, ⟨by unfold B62; omega, by unfold B62; omega⟩, ?_⟩
    rw [Int.toNat_natCast]
    refine comp_map (f := fun d => match d with | .int t => Dv.int ((one + t * st) % 256) | d => d) (fun d hd => ?_) (by rw [rngD_length, List.length_nil, lim_is]; omega) ?_
    · obtain ⟨i, hi⟩ := List.mem_iff_getElem?.mp hd
      rw [rngD_get hi]
      show OP (putN 4 _ [some (Sl.val (.ref 1)), some (Sl.val (.int n)), some (Sl.val (.int one)), some (Sl.val (.int st)), none]) _
      simp only [r_bind, r_pure, r_c, r_var, r_bin, r_u, r_test, r_frz, r_nil, r_cons, r_guard, r_tup, r_lst, r_nopart, r_part, r_sl, r_and, r_or, r_not, r_mite, r_andV, r_notV, r_pop, r_app, r_shr', r_call, rf_fun, r_snil, then_nx, then_rt, r_seq, r_drop, r_set, r_own', r_fix', r_to, r_ret, r_if, r_for, r_for0, r_sub, r_par3, r_par, r_frzT, r_frzF, r_it, r_enum, r_rng, r_comp, op_some, op_none, op_ite, op_map, pk_non, pk_bl, pk_int, pk_str, pk_tup, pk_lst, pk_tmp, pk_scr, pk_own, pkO_some, pk_ref, pkR_some, rd_val, rd_own, fz_non, fz_bl, fz_int, fz_str, fz_tup, fz_lst, fz_tmp, fz_ref, fz_scr, gl_own, gO_some, gl_ref, gR_some, sl_own, sl_ref, ab_bl, ai_int, it_tup, it_lst, it_tmp, it_scr, put_n, put_p, put_t, put_int, put_lst, put_tup, own_tmp, fix_own, shr_tmp, ret_nx, ret_rt, add_ii, add_ll, add_tt, sub_ii, mul_ii, mul_li, mul_ti, div_ii, mod_ii, pow_ii, ints_ii, eq_ii, ne_ii, is_non, is_int, is_tup, is_intB, not_non, not_tup, ix_l, ix_t, sl_l, sl_t, sl_s, rev_l, neg_i, len_l, len_t, int_i, abs_i, tup_l, tup_t, lst_l, lst_t, sum_l, toInts_int, zip_tt, rng_1, rng_2, rng_3, isi_int_int, isi_str_int, isi_bool_int, isi_tup_int, isi_tup_tup, isiC_int, isiC_tup, isiA_int, List.getElem?_cons_zero, List.getElem?_cons_succ, List.set_cons_zero, List.set_cons_succ, List.map_cons, List.map_nil, List.replicate_succ, List.replicate_zero, List.cons_append, List.nil_append, List.length_cons, List.length_nil, Nat.reduceAdd, Nat.reduceSub, Nat.reduceEqDiff, decide_eq_true_eq, Bool.not_eq_true', Bool.not_false, Bool.not_true, decide_eq_false_iff_not, true_and, and_true, true_or, or_true, reduceIte, Bool.false_eq_true, Int.reduceLT, Int.reduceLE, Nat.reduceLT, Nat.reduceLeDiff, Int.reduceEq, Int.reduceNe]
      rw [mul_r (by omega)]
      simp only [r_bind, r_pure, r_c, r_var, r_bin, r_u, r_test, r_frz, r_nil, r_cons, r_guard, r_tup, r_lst, r_nopart, r_part, r_sl, r_and, r_or, r_not, r_mite, r_andV, r_notV, r_pop, r_app, r_shr', r_call, rf_fun, r_snil, then_nx, then_rt, r_seq, r_drop, r_set, r_own', r_fix', r_to, r_ret, r_if, r_for, r_for0, r_sub, r_par3, r_par, r_frzT, r_frzF, r_it, r_enum, r_rng, r_comp, op_some, op_none, op_ite, op_map, pk_non, pk_bl, pk_int, pk_str, pk_tup, pk_lst, pk_tmp, pk_scr, pk_own, pkO_some, pk_ref, pkR_some, rd_val, rd_own, fz_non, fz_bl, fz_int, fz_str, fz_tup, fz_lst, fz_tmp, fz_ref, fz_scr, gl_own, gO_some, gl_ref, gR_some, sl_own, sl_ref, ab_bl, ai_int, it_tup, it_lst, it_tmp, it_scr, put_n, put_p, put_t, put_int, put_lst, put_tup, own_tmp, fix_own, shr_tmp, ret_nx, ret_rt, add_ii, add_ll, add_tt, sub_ii, mul_ii, mul_li, mul_ti, div_ii, mod_ii, pow_ii, ints_ii, eq_ii, ne_ii, is_non, is_int, is_tup, is_intB, not_non, not_tup, ix_l, ix_t, sl_l, sl_t, sl_s, rev_l, neg_i, len_l, len_t, int_i, abs_i, tup_l, tup_t, lst_l, lst_t, sum_l, toInts_int, zip_tt, rng_1, rng_2, rng_3, isi_int_int, isi_str_int, isi_bool_int, isi_tup_int, isi_tup_tup, isiC_int, isiC_tup, isiA_int, List.getElem?_cons_zero, List.getElem?_cons_succ, List.set_cons_zero, List.set_cons_succ, List.map_cons, List.map_nil, List.replicate_succ, List.replicate_zero, List.cons_append, List.nil_append, List.length_cons, List.length_nil, Nat.reduceAdd, Nat.reduceSub, Nat.reduceEqDiff, decide_eq_true_eq, Bool.not_eq_true', Bool.not_false, Bool.not_true, decide_eq_false_iff_not, true_and, and_true, true_or, or_true, reduceIte, Bool.false_eq_true, Int.reduceLT, Int.reduceLE, Nat.reduceLT, Nat.reduceLeDiff, Int.reduceEq, Int.reduceNe]
    · simp only [r_bind, r_pure, r_c, r_var, r_bin, r_u, r_test, r_frz, r_nil, r_cons, r_guard, r_tup, r_lst, r_nopart, r_part, r_sl, r_and, r_or, r_not, r_mite, r_andV, r_notV, r_pop, r_app, r_shr', r_call, rf_fun, r_snil, then_nx, then_rt, r_seq, r_drop, r_set, r_own', r_fix', r_to, r_ret, r_if, r_for, r_for0, r_sub, r_par3, r_par, r_frzT, r_frzF, r_it, r_enum, r_rng, r_comp, op_some, op_none, op_ite, op_map, pk_non, pk_bl, pk_int, pk_str, pk_tup, pk_lst, pk_tmp, pk_scr, pk_own, pkO_some, pk_ref, pkR_some, rd_val, rd_own, fz_non, fz_bl, fz_int, fz_str, fz_tup, fz_lst, fz_tmp, fz_ref, fz_scr, gl_own, gO_some, gl_ref, gR_some, sl_own, sl_ref, ab_bl, ai_int, it_tup, it_lst, it_tmp, it_scr, put_n, put_p, put_t, put_int, put_lst, put_tup, own_tmp, fix_own, shr_tmp, ret_nx, ret_rt, add_ii, add_ll, add_tt, sub_ii, mul_ii, mul_li, mul_ti, div_ii, mod_ii, pow_ii, ints_ii, eq_ii, ne_ii, is_non, is_int, is_tup, is_intB, not_non, not_tup, ix_l, ix_t, sl_l, sl_t, sl_s, rev_l, neg_i, len_l, len_t, int_i, abs_i, tup_l, tup_t, lst_l, lst_t, sum_l, toInts_int, zip_tt, rng_1, rng_2, rng_3, isi_int_int, isi_str_int, isi_bool_int, isi_tup_int, isi_tup_tup, isiC_int, isiC_tup, isiA_int, List.getElem?_cons_zero, List.getElem?_cons_succ, List.set_cons_zero, List.set_cons_succ, List.map_cons, List.map_nil, List.replicate_succ, List.replicate_zero, List.cons_append, List.nil_append, List.length_cons, List.length_nil, Nat.reduceAdd, Nat.reduceSub, Nat.reduceEqDiff, decide_eq_true_eq, Bool.not_eq_true', Bool.not_false, Bool.not_true, decide_eq_false_iff_not, true_and, and_true, true_or, or_true, reduceIte, Bool.false_eq_true, Int.reduceLT, Int.reduceLE, Nat.reduceLT, Nat.reduceLeDiff, Int.reduceEq, Int.reduceNe]
      have key : ∀ (n : Nat) (lo : Int), ∃ xs : List Int, (rngD lo 1 n).map (fun d => match d with | .int t => Dv.int ((one + t * st) % 256) | d => d) = iL xs ∧ Oc xs ∧ xs.length = n := fun n => by
        induction n with
        | zero => exact fun lo => ⟨[], rfl, (fun x hx => by cases hx), rfl⟩
        | succ n ih =>
          intro lo
          obtain ⟨xs, h1, h2, h3⟩ := ih (lo + 1)
          refine ⟨(one + lo * st) % 256 :: xs, ?_, fun x hx => ?_, by rw [List.length_cons, h3]⟩
          · show Dv.int _ :: (rngD (lo + 1) 1 n).map _ = Dv.int _ :: iL xs
            rw [h1]
          · rcases List.mem_cons.mp hx with rfl | hx
            · omega
            · exact h2 x hx
      obtain ⟨xs, k1, k2, k3⟩ := key n 0
      rw [k1]
      exact hp xs h3 k2 (by omega) hd3
  · rw [if_neg h30]
    refine ⟨⟨by unfold B62; omega, by unfold B62; omega⟩, ?_⟩
    rw [Int.toNat_natCast]
    have key : ∀ (k : Nat) (lo : Int) (acc : List Int) (h1 : List Cell) (P : List Dv × List Cell → Prop), Dl h1 → Oc acc → acc.length + k ≤ 300 → (∀ xs h', Oc xs → xs.length ≤ 300 → Dl h' → P (iL xs, h')) →
        OP (compL (putN 4) [4] (Mo.pure true) (mCall M_law_octet 1 (mCons (mVar 0) mNil)) [some (Sl.val (.ref 1)), some (Sl.val (.int n)), none, none, none] (rngD lo 1 k) (iL acc) h1) P := fun k => by
      induction k with
      | zero => exact fun lo acc h1 P hd1 ha hl hp => hp acc h1 ha (by omega) hd1
      | succ k ih =>
        intro lo acc h1 P hd1 ha hl hp
        show OP (compL _ _ _ _ _ (.int lo :: rngD (lo + 1) 1 k) _ _) P
        rw [comp_cons]
        have hid : hideE [4] [some (Sl.val (.ref 1)), some (Sl.val (.int n)), none, none, none] = [some (Sl.val (.ref 1)), some (Sl.val (.int n)), none, none, none] := rfl
        rw [hid]
        simp only [r_bind, r_pure, r_c, r_var, r_bin, r_u, r_test, r_frz, r_nil, r_cons, r_guard, r_tup, r_lst, r_nopart, r_part, r_sl, r_and, r_or, r_not, r_mite, r_andV, r_notV, r_pop, r_app, r_shr', r_call, rf_fun, r_snil, then_nx, then_rt, r_seq, r_drop, r_set, r_own', r_fix', r_to, r_ret, r_if, r_for, r_for0, r_sub, r_par3, r_par, r_frzT, r_frzF, r_it, r_enum, r_rng, r_comp, op_some, op_none, op_ite, op_map, pk_non, pk_bl, pk_int, pk_str, pk_tup, pk_lst, pk_tmp, pk_scr, pk_own, pkO_some, pk_ref, pkR_some, rd_val, rd_own, fz_non, fz_bl, fz_int, fz_str, fz_tup, fz_lst, fz_tmp, fz_ref, fz_scr, gl_own, gO_some, gl_ref, gR_some, sl_own, sl_ref, ab_bl, ai_int, it_tup, it_lst, it_tmp, it_scr, put_n, put_p, put_t, put_int, put_lst, put_tup, own_tmp, fix_own, shr_tmp, ret_nx, ret_rt, add_ii, add_ll, add_tt, sub_ii, mul_ii, mul_li, mul_ti, div_ii, mod_ii, pow_ii, ints_ii, eq_ii, ne_ii, is_non, is_int, is_tup, is_intB, not_non, not_tup, ix_l, ix_t, sl_l, sl_t, sl_s, rev_l, neg_i, len_l, len_t, int_i, abs_i, tup_l, tup_t, lst_l, lst_t, sum_l, toInts_int, zip_tt, rng_1, rng_2, rng_3, isi_int_int, isi_str_int, isi_bool_int, isi_tup_int, isi_tup_tup, isiC_int, isiC_tup, isiA_int, List.getElem?_cons_zero, List.getElem?_cons_succ, List.set_cons_zero, List.set_cons_succ, List.map_cons, List.map_nil, List.replicate_succ, List.replicate_zero, List.cons_append, List.nil_append, List.length_cons, List.length_nil, Nat.reduceAdd, Nat.reduceSub, Nat.reduceEqDiff, decide_eq_true_eq, Bool.not_eq_true', Bool.not_false, Bool.not_true, decide_eq_false_iff_not, true_and, and_true, true_or, or_true, reduceIte, Bool.false_eq_true, Int.reduceLT, Int.reduceLE, Nat.reduceLT, Nat.reduceLeDiff, Int.reduceEq, Int.reduceNe]
        refine oct_ok hd1 fun x h2 hx0 hx1 hd2 => ?_
        simp only [r_bind, r_pure, r_c, r_var, r_bin, r_u, r_test, r_frz, r_nil, r_cons, r_guard, r_tup, r_lst, r_nopart, r_part, r_sl, r_and, r_or, r_not, r_mite, r_andV, r_notV, r_pop, r_app, r_shr', r_call, rf_fun, r_snil, then_nx, then_rt, r_seq, r_drop, r_set, r_own', r_fix', r_to, r_ret, r_if, r_for, r_for0, r_sub, r_par3, r_par, r_frzT, r_frzF, r_it, r_enum, r_rng, r_comp, op_some, op_none, op_ite, op_map, pk_non, pk_bl, pk_int, pk_str, pk_tup, pk_lst, pk_tmp, pk_scr, pk_own, pkO_some, pk_ref, pkR_some, rd_val, rd_own, fz_non, fz_bl, fz_int, fz_str, fz_tup, fz_lst, fz_tmp, fz_ref, fz_scr, gl_own, gO_some, gl_ref, gR_some, sl_own, sl_ref, ab_bl, ai_int, it_tup, it_lst, it_tmp, it_scr, put_n, put_p, put_t, put_int, put_lst, put_tup, own_tmp, fix_own, shr_tmp, ret_nx, ret_rt, add_ii, add_ll, add_tt, sub_ii, mul_ii, mul_li, mul_ti, div_ii, mod_ii, pow_ii, ints_ii, eq_ii, ne_ii, is_non, is_int, is_tup, is_intB, not_non, not_tup, ix_l, ix_t, sl_l, sl_t, sl_s, rev_l, neg_i, len_l, len_t, int_i, abs_i, tup_l, tup_t, lst_l, lst_t, sum_l, toInts_int, zip_tt, rng_1, rng_2, rng_3, isi_int_int, isi_str_int, isi_bool_int, isi_tup_int, isi_tup_tup, isiC_int, isiC_tup, isiA_int, List.getElem?_cons_zero, List.getElem?_cons_succ, List.set_cons_zero, List.set_cons_succ, List.map_cons, List.map_nil, List.replicate_succ, List.replicate_zero, List.cons_append, List.nil_append, List.length_cons, List.length_nil, Nat.reduceAdd, Nat.reduceSub, Nat.reduceEqDiff, decide_eq_true_eq, Bool.not_eq_true', Bool.not_false, Bool.not_true, decide_eq_false_iff_not, true_and, and_true, true_or, or_true, reduceIte, Bool.false_eq_true, Int.reduceLT, Int.reduceLE, Nat.reduceLT, Nat.reduceLeDiff, Int.reduceEq, Int.reduceNe]
        refine ⟨by rw [iL_len, lim_is]; omega, ?_⟩
        have e2 : iL acc ++ [Dv.int x] = iL (acc ++ [x]) := by rw [iL_app] <;> rfl
        rw [e2]
        exact ih (lo + 1) _ h2 P hd2 (oc_app ha (oc_one hx0 hx1)) (by rw [List.length_append, List.length_singleton]; omega) hp
    refine key n 0 [] h1 _ hd1 (fun x hx => by cases hx) (by simp; omega) fun xs h' h2 h3 h4 => ?_
    simp only [r_bind, r_pure, r_c, r_var, r_bin, r_u, r_test, r_frz, r_nil, r_cons, r_guard, r_tup, r_lst, r_nopart, r_part, r_sl, r_and, r_or, r_not, r_mite, r_andV, r_notV, r_pop, r_app, r_shr', r_call, rf_fun, r_snil, then_nx, then_rt, r_seq, r_drop, r_set, r_own', r_fix', r_to, r_ret, r_if, r_for, r_for0, r_sub, r_par3, r_par, r_frzT, r_frzF, r_it, r_enum, r_rng, r_comp, op_some, op_none, op_ite, op_map, pk_non, pk_bl, pk_int, pk_str, pk_tup, pk_lst, pk_tmp, pk_scr, pk_own, pkO_some, pk_ref, pkR_some, rd_val, rd_own, fz_non, fz_bl, fz_int, fz_str, fz_tup, fz_lst, fz_tmp, fz_ref, fz_scr, gl_own, gO_some, gl_ref, gR_some, sl_own, sl_ref, ab_bl, ai_int, it_tup, it_lst, it_tmp, it_scr, put_n, put_p, put_t, put_int, put_lst, put_tup, own_tmp, fix_own, shr_tmp, ret_nx, ret_rt, add_ii, add_ll, add_tt, sub_ii, mul_ii, mul_li, mul_ti, div_ii, mod_ii, pow_ii, ints_ii, eq_ii, ne_ii, is_non, is_int, is_tup, is_intB, not_non, not_tup, ix_l, ix_t, sl_l, sl_t, sl_s, rev_l, neg_i, len_l, len_t, int_i, abs_i, tup_l, tup_t, lst_l, lst_t, sum_l, toInts_int, zip_tt, rng_1, rng_2, rng_3, isi_int_int, isi_str_int, isi_bool_int, isi_tup_int, isi_tup_tup, isiC_int, isiC_tup, isiA_int, List.getElem?_cons_zero, List.getElem?_cons_succ, List.set_cons_zero, List.set_cons_succ, List.map_cons, List.map_nil, List.replicate_succ, List.replicate_zero, List.cons_append, List.nil_append, List.length_cons, List.length_nil, Nat.reduceAdd, Nat.reduceSub, Nat.reduceEqDiff, decide_eq_true_eq, Bool.not_eq_true', Bool.not_false, Bool.not_true, decide_eq_false_iff_not, true_and, and_true, true_or, or_true, reduceIte, Bool.false_eq_true, Int.reduceLT, Int.reduceLE, Nat.reduceLT, Nat.reduceLeDiff, Int.reduceEq, Int.reduceNe]
    exact hp xs h' h2 h3 h4
end K74

set_option Elab.async false
set_option linter.all false
set_option maxRecDepth 100000
set_option maxHeartbeats 4000000
namespace K74
open PySem PySem.Spec L2 Mir
theorem kind_ok {h : List Cell} {P : Dv → List Cell → Prop} {i : Int} (hp : P (.bl true) h) : RF (M_law_is_kind [.int i, .int i] h) P := by
  unfold M_law_is_kind B_law_is_kind
  simp only [r_bind, r_pure, r_c, r_var, r_bin, r_u, r_test, r_frz, r_nil, r_cons, r_guard, r_tup, r_lst, r_nopart, r_part, r_sl, r_and, r_or, r_not, r_mite, r_andV, r_notV, r_pop, r_app, r_shr', r_call, rf_fun, r_snil, then_nx, then_rt, r_seq, r_drop, r_set, r_own', r_fix', r_to, r_ret, r_if, r_for, r_for0, r_sub, r_par3, r_par, r_frzT, r_frzF, r_it, r_enum, r_rng, r_comp, op_some, op_none, op_ite, op_map, pk_non, pk_bl, pk_int, pk_str, pk_tup, pk_lst, pk_tmp, pk_scr, pk_own, pkO_some, pk_ref, pkR_some, rd_val, rd_own, fz_non, fz_bl, fz_int, fz_str, fz_tup, fz_lst, fz_tmp, fz_ref, fz_scr, gl_own, gO_some, gl_ref, gR_some, sl_own, sl_ref, ab_bl, ai_int, it_tup, it_lst, it_tmp, it_scr, put_n, put_p, put_t, put_int, put_lst, put_tup, own_tmp, fix_own, shr_tmp, ret_nx, ret_rt, add_ii, add_ll, add_tt, sub_ii, mul_ii, mul_li, mul_ti, div_ii, mod_ii, pow_ii, ints_ii, eq_ii, ne_ii, is_non, is_int, is_tup, is_intB, not_non, not_tup, ix_l, ix_t, sl_l, sl_t, sl_s, rev_l, neg_i, len_l, len_t, int_i, abs_i, tup_l, tup_t, lst_l, lst_t, sum_l, toInts_int, zip_tt, rng_1, rng_2, rng_3, isi_int_int, isi_str_int, isi_bool_int, isi_tup_int, isi_tup_tup, isiC_int, isiC_tup, isiA_int, List.getElem?_cons_zero, List.getElem?_cons_succ, List.set_cons_zero, List.set_cons_succ, List.map_cons, List.map_nil, List.replicate_succ, List.replicate_zero, List.cons_append, List.nil_append, List.length_cons, List.length_nil, Nat.reduceAdd, Nat.reduceSub, Nat.reduceEqDiff, decide_eq_true_eq, Bool.not_eq_true', Bool.not_false, Bool.not_true, decide_eq_false_iff_not, true_and, and_true, true_or, or_true, reduceIte, Bool.false_eq_true, Int.reduceLT, Int.reduceLE, Nat.reduceLT, Nat.reduceLeDiff, Int.reduceEq, Int.reduceNe]
  exact hp
mutual
def sz : Dv → Nat
  | .tup ds => 1 + szs ds
  | _ => 1
def szs : List Dv → Nat
  | [] => 0
  | d :: ds => sz d + szs ds
end
mutual
def Pl : Dv → Prop
  | .int _ => True
  | .tup ds => Pls ds
  | _ => False
def Pls : List Dv → Prop
  | [] => True
  | d :: ds => Pl d ∧ Pls ds
end
theorem sz_pos (d : Dv) : 1 ≤ sz d := by
  cases d <;> simp [sz]
theorem szs_len : ∀ ds : List Dv, ds.length ≤ szs ds
  | [] => Nat.le_refl _
  | d :: ds => by
    have := szs_len ds
    have := sz_pos d
    simp only [szs, List.length_cons]
    omega
theorem szs_app : ∀ ds es : List Dv, szs (ds ++ es) = szs ds + szs es
  | [], es => by simp [szs]
  | d :: ds, es => by
    simp only [List.cons_append, szs, szs_app ds es]
    omega
theorem pls_app : ∀ {ds es : List Dv}, Pls (ds ++ es) ↔ Pls ds ∧ Pls es
  | [], es => by simp [Pls]
  | d :: ds, es => by
    simp only [List.cons_append, Pls, pls_app (ds := ds) (es := es)]
    exact and_assoc.symm
theorem fz_pl {d : Dv} (h : Pl d) : frz d = some d := by
  cases d <;> first | rfl | (simp [Pl] at h)
def dbl (ds : List Dv) : List Dv := ds.map fun d => .tup [d, d]
theorem zip_dbl : ∀ ds : List Dv, zipD ds ds = dbl ds
  | [] => rfl
  | d :: ds => by
    show Dv.tup [d, d] :: zipD ds ds = _
    rw [zip_dbl ds]
    rfl
theorem same_loop (h : List Cell) (a b : Option Sl) : ∀ (n : Nat) (ds : List Dv) (c d : Option Sl) (P : Fl → Mem → Prop), szs ds ≤ n → szs ds ≤ 1000000 → Pls ds → (∀ c d, P .nx ⟨[a, b, some (.own []), c, d], h⟩) → R (sLoop C_law_same1 L_law_same1) ⟨[a, b, some (.own (dbl ds)), c, d], h⟩ P
  | n, ds, c, d, P, hn, hm, hpl, hp => by
    refine r_loopg fun lp hlp => ?_
    rcases List.eq_nil_or_concat ds with rfl | ⟨ini, z, rfl⟩
    · unfold C_law_same1
      simp only [dbl, r_bind, r_pure, r_c, r_var, r_bin, r_u, r_test, r_frz, r_nil, r_cons, r_guard, r_tup, r_lst, r_nopart, r_part, r_sl, r_and, r_or, r_not, r_mite, r_andV, r_notV, r_pop, r_app, r_shr', r_call, rf_fun, r_snil, then_nx, then_rt, r_seq, r_drop, r_set, r_own', r_fix', r_to, r_ret, r_if, r_for, r_for0, r_sub, r_par3, r_par, r_frzT, r_frzF, r_it, r_enum, r_rng, r_comp, op_some, op_none, op_ite, op_map, pk_non, pk_bl, pk_int, pk_str, pk_tup, pk_lst, pk_tmp, pk_scr, pk_own, pkO_some, pk_ref, pkR_some, rd_val, rd_own, fz_non, fz_bl, fz_int, fz_str, fz_tup, fz_lst, fz_tmp, fz_ref, fz_scr, gl_own, gO_some, gl_ref, gR_some, sl_own, sl_ref, ab_bl, ai_int, it_tup, it_lst, it_tmp, it_scr, put_n, put_p, put_t, put_int, put_lst, put_tup, own_tmp, fix_own, shr_tmp, ret_nx, ret_rt, add_ii, add_ll, add_tt, sub_ii, mul_ii, mul_li, mul_ti, div_ii, mod_ii, pow_ii, ints_ii, eq_ii, ne_ii, is_non, is_int, is_tup, is_intB, not_non, not_tup, ix_l, ix_t, sl_l, sl_t, sl_s, rev_l, neg_i, len_l, len_t, int_i, abs_i, tup_l, tup_t, lst_l, lst_t, sum_l, toInts_int, zip_tt, rng_1, rng_2, rng_3, isi_int_int, isi_str_int, isi_bool_int, isi_tup_int, isi_tup_tup, isiC_int, isiC_tup, isiA_int, List.getElem?_cons_zero, List.getElem?_cons_succ, List.set_cons_zero, List.set_cons_succ, List.map_cons, List.map_nil, List.replicate_succ, List.replicate_zero, List.cons_append, List.nil_append, List.length_cons, List.length_nil, Nat.reduceAdd, Nat.reduceSub, Nat.reduceEqDiff, decide_eq_true_eq, Bool.not_eq_true', Bool.not_false, Bool.not_true, decide_eq_false_iff_not, true_and, and_true, true_or, or_true, reduceIte, Bool.false_eq_true, Int.reduceLT, Int.reduceLE, Nat.reduceLT, Nat.reduceLeDiff, Int.reduceEq, Int.reduceNe]
      rw [if_neg (by simp)]
      exact hp c d
    · rw [List.concat_eq_append] at hn hm hpl ⊢
      rw [szs_app] at hn hm
      have hz : szs [z] = sz z := by simp [szs]
      have hz1 := sz_pos z
      rw [hz] at hn hm
      obtain ⟨hpi, hpz⟩ := pls_app.mp hpl
      have hpz : Pl z := hpz.1
      have ed : dbl (ini ++ [z]) = dbl ini ++ [.tup [z, z]] := by unfold dbl; rw [List.map_append] <;> rfl
      have e2 : (dbl ini ++ [Dv.tup [z, z]])[(dbl ini ++ [Dv.tup [z, z]]).length - 1]? = some (.tup [z, z]) := by
        rw [List.length_append, List.length_singleton, Nat.add_sub_cancel]
        simp
      have e3 : (dbl ini ++ [Dv.tup [z, z]]).dropLast = dbl ini := List.dropLast_concat
      have hli := szs_len ini
      have hld : (dbl ini).length = ini.length := by unfold dbl; exact List.length_map ..
      rw [ed]
      cases z with
      | int i =>
        unfold C_law_same1 L_law_same1
        simp only [r_bind, r_pure, r_c, r_var, r_bin, r_u, r_test, r_frz, r_nil, r_cons, r_guard, r_tup, r_lst, r_nopart, r_part, r_sl, r_and, r_or, r_not, r_mite, r_andV, r_notV, r_pop, r_app, r_shr', r_call, rf_fun, r_snil, then_nx, then_rt, r_seq, r_drop, r_set, r_own', r_fix', r_to, r_ret, r_if, r_for, r_for0, r_sub, r_par3, r_par, r_frzT, r_frzF, r_it, r_enum, r_rng, r_comp, op_some, op_none, op_ite, op_map, pk_non, pk_bl, pk_int, pk_str, pk_tup, pk_lst, pk_tmp, pk_scr, pk_own, pkO_some, pk_ref, pkR_some, rd_val, rd_own, fz_non, fz_bl, fz_int, fz_str, fz_tup, fz_lst, fz_tmp, fz_ref, fz_scr, gl_own, gO_some, gl_ref, gR_some, sl_own, sl_ref, ab_bl, ai_int, it_tup, it_lst, it_tmp, it_scr, put_n, put_p, put_t, put_int, put_lst, put_tup, own_tmp, fix_own, shr_tmp, ret_nx, ret_rt, add_ii, add_ll, add_tt, sub_ii, mul_ii, mul_li, mul_ti, div_ii, mod_ii, pow_ii, ints_ii, eq_ii, ne_ii, is_non, is_int, is_tup, is_intB, not_non, not_tup, ix_l, ix_t, sl_l, sl_t, sl_s, rev_l, neg_i, len_l, len_t, int_i, abs_i, tup_l, tup_t, lst_l, lst_t, sum_l, toInts_int, zip_tt, rng_1, rng_2, rng_3, isi_int_int, isi_str_int, isi_bool_int, isi_tup_int, isi_tup_tup, isiC_int, isiC_tup, isiA_int, List.getElem?_cons_zero, List.getElem?_cons_succ, List.set_cons_zero, List.set_cons_succ, List.map_cons, List.map_nil, List.replicate_succ, List.replicate_zero, List.cons_append, List.nil_append, List.length_cons, List.length_nil, Nat.reduceAdd, Nat.reduceSub, Nat.reduceEqDiff, decide_eq_true_eq, Bool.not_eq_true', Bool.not_false, Bool.not_true, decide_eq_false_iff_not, true_and, and_true, true_or, or_true, reduceIte, Bool.false_eq_true, Int.reduceLT, Int.reduceLE, Nat.reduceLT, Nat.reduceLeDiff, Int.reduceEq, Int.reduceNe]
        rw [if_pos (by simp), e2, e3]
        simp only [r_bind, r_pure, r_c, r_var, r_bin, r_u, r_test, r_frz, r_nil, r_cons, r_guard, r_tup, r_lst, r_nopart, r_part, r_sl, r_and, r_or, r_not, r_mite, r_andV, r_notV, r_pop, r_app, r_shr', r_call, rf_fun, r_snil, then_nx, then_rt, r_seq, r_drop, r_set, r_own', r_fix', r_to, r_ret, r_if, r_for, r_for0, r_sub, r_par3, r_par, r_frzT, r_frzF, r_it, r_enum, r_rng, r_comp, op_some, op_none, op_ite, op_map, pk_non, pk_bl, pk_int, pk_str, pk_tup, pk_lst, pk_tmp, pk_scr, pk_own, pkO_some, pk_ref, pkR_some, rd_val, rd_own, fz_non, fz_bl, fz_int, fz_str, fz_tup, fz_lst, fz_tmp, fz_ref, fz_scr, gl_own, gO_some, gl_ref, gR_some, sl_own, sl_ref, ab_bl, ai_int, it_tup, it_lst, it_tmp, it_scr, put_n, put_p, put_t, put_int, put_lst, put_tup, own_tmp, fix_own, shr_tmp, ret_nx, ret_rt, add_ii, add_ll, add_tt, sub_ii, mul_ii, mul_li, mul_ti, div_ii, mod_ii, pow_ii, ints_ii, eq_ii, ne_ii, is_non, is_int, is_tup, is_intB, not_non, not_tup, ix_l, ix_t, sl_l, sl_t, sl_s, rev_l, neg_i, len_l, len_t, int_i, abs_i, tup_l, tup_t, lst_l, lst_t, sum_l, toInts_int, zip_tt, rng_1, rng_2, rng_3, isi_int_int, isi_str_int, isi_bool_int, isi_tup_int, isi_tup_tup, isiC_int, isiC_tup, isiA_int, List.getElem?_cons_zero, List.getElem?_cons_succ, List.set_cons_zero, List.set_cons_succ, List.map_cons, List.map_nil, List.replicate_succ, List.replicate_zero, List.cons_append, List.nil_append, List.length_cons, List.length_nil, Nat.reduceAdd, Nat.reduceSub, Nat.reduceEqDiff, decide_eq_true_eq, Bool.not_eq_true', Bool.not_false, Bool.not_true, decide_eq_false_iff_not, true_and, and_true, true_or, or_true, reduceIte, Bool.false_eq_true, Int.reduceLT, Int.reduceLE, Nat.reduceLT, Nat.reduceLeDiff, Int.reduceEq, Int.reduceNe]
        refine kind_ok ?_
        simp only [r_bind, r_pure, r_c, r_var, r_bin, r_u, r_test, r_frz, r_nil, r_cons, r_guard, r_tup, r_lst, r_nopart, r_part, r_sl, r_and, r_or, r_not, r_mite, r_andV, r_notV, r_pop, r_app, r_shr', r_call, rf_fun, r_snil, then_nx, then_rt, r_seq, r_drop, r_set, r_own', r_fix', r_to, r_ret, r_if, r_for, r_for0, r_sub, r_par3, r_par, r_frzT, r_frzF, r_it, r_enum, r_rng, r_comp, op_some, op_none, op_ite, op_map, pk_non, pk_bl, pk_int, pk_str, pk_tup, pk_lst, pk_tmp, pk_scr, pk_own, pkO_some, pk_ref, pkR_some, rd_val, rd_own, fz_non, fz_bl, fz_int, fz_str, fz_tup, fz_lst, fz_tmp, fz_ref, fz_scr, gl_own, gO_some, gl_ref, gR_some, sl_own, sl_ref, ab_bl, ai_int, it_tup, it_lst, it_tmp, it_scr, put_n, put_p, put_t, put_int, put_lst, put_tup, own_tmp, fix_own, shr_tmp, ret_nx, ret_rt, add_ii, add_ll, add_tt, sub_ii, mul_ii, mul_li, mul_ti, div_ii, mod_ii, pow_ii, ints_ii, eq_ii, ne_ii, is_non, is_int, is_tup, is_intB, not_non, not_tup, ix_l, ix_t, sl_l, sl_t, sl_s, rev_l, neg_i, len_l, len_t, int_i, abs_i, tup_l, tup_t, lst_l, lst_t, sum_l, toInts_int, zip_tt, rng_1, rng_2, rng_3, isi_int_int, isi_str_int, isi_bool_int, isi_tup_int, isi_tup_tup, isiC_int, isiC_tup, isiA_int, List.getElem?_cons_zero, List.getElem?_cons_succ, List.set_cons_zero, List.set_cons_succ, List.map_cons, List.map_nil, List.replicate_succ, List.replicate_zero, List.cons_append, List.nil_append, List.length_cons, List.length_nil, Nat.reduceAdd, Nat.reduceSub, Nat.reduceEqDiff, decide_eq_true_eq, Bool.not_eq_true', Bool.not_false, Bool.not_true, decide_eq_false_iff_not, true_and, and_true, true_or, or_true, reduceIte, Bool.false_eq_true, Int.reduceLT, Int.reduceLE, Nat.reduceLT, Nat.reduceLeDiff, Int.reduceEq, Int.reduceNe]
        subst hlp
        match n, hn with
        | 0, hn => omega
        | n + 1, hn => exact same_loop h a b n ini _ _ P (by omega) (by omega) hpi hp
      | tup es =>
        have hes : sz (.tup es) = 1 + szs es := by simp [sz]
        have hpe : Pls es := by simpa [Pl] using hpz
        have hle := szs_len es
        rw [hes] at hn hm
        unfold C_law_same1 L_law_same1
        simp only [r_bind, r_pure, r_c, r_var, r_bin, r_u, r_test, r_frz, r_nil, r_cons, r_guard, r_tup, r_lst, r_nopart, r_part, r_sl, r_and, r_or, r_not, r_mite, r_andV, r_notV, r_pop, r_app, r_shr', r_call, rf_fun, r_snil, then_nx, then_rt, r_seq, r_drop, r_set, r_own', r_fix', r_to, r_ret, r_if, r_for, r_for0, r_sub, r_par3, r_par, r_frzT, r_frzF, r_it, r_enum, r_rng, r_comp, op_some, op_none, op_ite, op_map, pk_non, pk_bl, pk_int, pk_str, pk_tup, pk_lst, pk_tmp, pk_scr, pk_own, pkO_some, pk_ref, pkR_some, rd_val, rd_own, fz_non, fz_bl, fz_int, fz_str, fz_tup, fz_lst, fz_tmp, fz_ref, fz_scr, gl_own, gO_some, gl_ref, gR_some, sl_own, sl_ref, ab_bl, ai_int, it_tup, it_lst, it_tmp, it_scr, put_n, put_p, put_t, put_int, put_lst, put_tup, own_tmp, fix_own, shr_tmp, ret_nx, ret_rt, add_ii, add_ll, add_tt, sub_ii, mul_ii, mul_li, mul_ti, div_ii, mod_ii, pow_ii, ints_ii, eq_ii, ne_ii, is_non, is_int, is_tup, is_intB, not_non, not_tup, ix_l, ix_t, sl_l, sl_t, sl_s, rev_l, neg_i, len_l, len_t, int_i, abs_i, tup_l, tup_t, lst_l, lst_t, sum_l, toInts_int, zip_tt, rng_1, rng_2, rng_3, isi_int_int, isi_str_int, isi_bool_int, isi_tup_int, isi_tup_tup, isiC_int, isiC_tup, isiA_int, List.getElem?_cons_zero, List.getElem?_cons_succ, List.set_cons_zero, List.set_cons_succ, List.map_cons, List.map_nil, List.replicate_succ, List.replicate_zero, List.cons_append, List.nil_append, List.length_cons, List.length_nil, Nat.reduceAdd, Nat.reduceSub, Nat.reduceEqDiff, decide_eq_true_eq, Bool.not_eq_true', Bool.not_false, Bool.not_true, decide_eq_false_iff_not, true_and, and_true, true_or, or_true, reduceIte, Bool.false_eq_true, Int.reduceLT, Int.reduceLE, Nat.reduceLT, Nat.reduceLeDiff, Int.reduceEq, Int.reduceNe]
        rw [if_pos (by simp), e2, e3]
        simp only [r_bind, r_pure, r_c, r_var, r_bin, r_u, r_test, r_frz, r_nil, r_cons, r_guard, r_tup, r_lst, r_nopart, r_part, r_sl, r_and, r_or, r_not, r_mite, r_andV, r_notV, r_pop, r_app, r_shr', r_call, rf_fun, r_snil, then_nx, then_rt, r_seq, r_drop, r_set, r_own', r_fix', r_to, r_ret, r_if, r_for, r_for0, r_sub, r_par3, r_par, r_frzT, r_frzF, r_it, r_enum, r_rng, r_comp, op_some, op_none, op_ite, op_map, pk_non, pk_bl, pk_int, pk_str, pk_tup, pk_lst, pk_tmp, pk_scr, pk_own, pkO_some, pk_ref, pkR_some, rd_val, rd_own, fz_non, fz_bl, fz_int, fz_str, fz_tup, fz_lst, fz_tmp, fz_ref, fz_scr, gl_own, gO_some, gl_ref, gR_some, sl_own, sl_ref, ab_bl, ai_int, it_tup, it_lst, it_tmp, it_scr, put_n, put_p, put_t, put_int, put_lst, put_tup, own_tmp, fix_own, shr_tmp, ret_nx, ret_rt, add_ii, add_ll, add_tt, sub_ii, mul_ii, mul_li, mul_ti, div_ii, mod_ii, pow_ii, ints_ii, eq_ii, ne_ii, is_non, is_int, is_tup, is_intB, not_non, not_tup, ix_l, ix_t, sl_l, sl_t, sl_s, rev_l, neg_i, len_l, len_t, int_i, abs_i, tup_l, tup_t, lst_l, lst_t, sum_l, toInts_int, zip_tt, rng_1, rng_2, rng_3, isi_int_int, isi_str_int, isi_bool_int, isi_tup_int, isi_tup_tup, isiC_int, isiC_tup, isiA_int, List.getElem?_cons_zero, List.getElem?_cons_succ, List.set_cons_zero, List.set_cons_succ, List.map_cons, List.map_nil, List.replicate_succ, List.replicate_zero, List.cons_append, List.nil_append, List.length_cons, List.length_nil, Nat.reduceAdd, Nat.reduceSub, Nat.reduceEqDiff, decide_eq_true_eq, Bool.not_eq_true', Bool.not_false, Bool.not_true, decide_eq_false_iff_not, true_and, and_true, true_or, or_true, reduceIte, Bool.false_eq_true, Int.reduceLT, Int.reduceLE, Nat.reduceLT, Nat.reduceLeDiff, Int.reduceEq, Int.reduceNe]
        rw [zip_dbl]
        have hle2 : (dbl es).length = es.length := by unfold dbl; exact List.length_map ..
        refine ⟨by rw [lim_is]; omega, ?_⟩
        subst hlp
        have e4 : dbl ini ++ dbl es = dbl (ini ++ es) := by unfold dbl; rw [List.map_append]
        rw [e4]
        match n, hn with
        | 0, hn => omega
        | n + 1, hn => exact same_loop h a b n (ini ++ es) _ _ P (by rw [szs_app]; omega) (by rw [szs_app]; omega) (pls_app.mpr ⟨hpi, hpe⟩) hp
      | _ => simp [Pl] at hpz
theorem same_ok {h : List Cell} {P : Dv → List Cell → Prop} {d : Dv} (hpl : Pl d) (hs : sz d ≤ 1000000) (hp : P (.bl true) h) : RF (M_law_same [d, d] h) P := by
  unfold M_law_same B_law_same
  simp only [r_bind, r_pure, r_c, r_var, r_bin, r_u, r_test, r_frz, r_nil, r_cons, r_guard, r_tup, r_lst, r_nopart, r_part, r_sl, r_and, r_or, r_not, r_mite, r_andV, r_notV, r_pop, r_app, r_shr', r_call, rf_fun, r_snil, then_nx, then_rt, r_seq, r_drop, r_set, r_own', r_fix', r_to, r_ret, r_if, r_for, r_for0, r_sub, r_par3, r_par, r_frzT, r_frzF, r_it, r_enum, r_rng, r_comp, op_some, op_none, op_ite, op_map, pk_non, pk_bl, pk_int, pk_str, pk_tup, pk_lst, pk_tmp, pk_scr, pk_own, pkO_some, pk_ref, pkR_some, rd_val, rd_own, fz_non, fz_bl, fz_int, fz_str, fz_tup, fz_lst, fz_tmp, fz_ref, fz_scr, gl_own, gO_some, gl_ref, gR_some, sl_own, sl_ref, ab_bl, ai_int, it_tup, it_lst, it_tmp, it_scr, put_n, put_p, put_t, put_int, put_lst, put_tup, own_tmp, fix_own, shr_tmp, ret_nx, ret_rt, add_ii, add_ll, add_tt, sub_ii, mul_ii, mul_li, mul_ti, div_ii, mod_ii, pow_ii, ints_ii, eq_ii, ne_ii, is_non, is_int, is_tup, is_intB, not_non, not_tup, ix_l, ix_t, sl_l, sl_t, sl_s, rev_l, neg_i, len_l, len_t, int_i, abs_i, tup_l, tup_t, lst_l, lst_t, sum_l, toInts_int, zip_tt, rng_1, rng_2, rng_3, isi_int_int, isi_str_int, isi_bool_int, isi_tup_int, isi_tup_tup, isiC_int, isiC_tup, isiA_int, List.getElem?_cons_zero, List.getElem?_cons_succ, List.set_cons_zero, List.set_cons_succ, List.map_cons, List.map_nil, List.replicate_succ, List.replicate_zero, List.cons_append, List.nil_append, List.length_cons, List.length_nil, Nat.reduceAdd, Nat.reduceSub, Nat.reduceEqDiff, decide_eq_true_eq, Bool.not_eq_true', Bool.not_false, Bool.not_true, decide_eq_false_iff_not, true_and, and_true, true_or, or_true, reduceIte, Bool.false_eq_true, Int.reduceLT, Int.reduceLE, Nat.reduceLT, Nat.reduceLeDiff, Int.reduceEq, Int.reduceNe, fz_pl hpl]
  refine ⟨by rw [lim_is]; omega, by rw [lim_is]; omega, ?_⟩
  refine same_loop h _ _ (szs [d]) [d] none none _ (Nat.le_refl _) (by simp [szs]; omega) ⟨hpl, trivial⟩ fun c e => ?_
  simp only [r_bind, r_pure, r_c, r_var, r_bin, r_u, r_test, r_frz, r_nil, r_cons, r_guard, r_tup, r_lst, r_nopart, r_part, r_sl, r_and, r_or, r_not, r_mite, r_andV, r_notV, r_pop, r_app, r_shr', r_call, rf_fun, r_snil, then_nx, then_rt, r_seq, r_drop, r_set, r_own', r_fix', r_to, r_ret, r_if, r_for, r_for0, r_sub, r_par3, r_par, r_frzT, r_frzF, r_it, r_enum, r_rng, r_comp, op_some, op_none, op_ite, op_map, pk_non, pk_bl, pk_int, pk_str, pk_tup, pk_lst, pk_tmp, pk_scr, pk_own, pkO_some, pk_ref, pkR_some, rd_val, rd_own, fz_non, fz_bl, fz_int, fz_str, fz_tup, fz_lst, fz_tmp, fz_ref, fz_scr, gl_own, gO_some, gl_ref, gR_some, sl_own, sl_ref, ab_bl, ai_int, it_tup, it_lst, it_tmp, it_scr, put_n, put_p, put_t, put_int, put_lst, put_tup, own_tmp, fix_own, shr_tmp, ret_nx, ret_rt, add_ii, add_ll, add_tt, sub_ii, mul_ii, mul_li, mul_ti, div_ii, mod_ii, pow_ii, ints_ii, eq_ii, ne_ii, is_non, is_int, is_tup, is_intB, not_non, not_tup, ix_l, ix_t, sl_l, sl_t, sl_s, rev_l, neg_i, len_l, len_t, int_i, abs_i, tup_l, tup_t, lst_l, lst_t, sum_l, toInts_int, zip_tt, rng_1, rng_2, rng_3, isi_int_int, isi_str_int, isi_bool_int, isi_tup_int, isi_tup_tup, isiC_int, isiC_tup, isiA_int, List.getElem?_cons_zero, List.getElem?_cons_succ, List.set_cons_zero, List.set_cons_succ, List.map_cons, List.map_nil, List.replicate_succ, List.replicate_zero, List.cons_append, List.nil_append, List.length_cons, List.length_nil, Nat.reduceAdd, Nat.reduceSub, Nat.reduceEqDiff, decide_eq_true_eq, Bool.not_eq_true', Bool.not_false, Bool.not_true, decide_eq_false_iff_not, true_and, and_true, true_or, or_true, reduceIte, Bool.false_eq_true, Int.reduceLT, Int.reduceLE, Nat.reduceLT, Nat.reduceLeDiff, Int.reduceEq, Int.reduceNe]
  exact hp
theorem all_comp (h : List Cell) (a : Option Sl) : ∀ (ds : List Dv) (b c : Option Sl) (P : List Dv × List Cell → Prop), (∀ d ∈ ds, Pl d ∧ sz d ≤ 1000000) → P ([], h) →
    OP (compL (putP 1 2) [1, 2] (mNot (mTest (mCall M_law_same 2 (mCons (mVar 1) (mCons (mVar 2) mNil))))) (mVar 1) [a, b, c] (dbl ds) [] h) P
  | [], b, c, P, _, hp => hp
  | d :: ds, b, c, P, hd, hp => by
    obtain ⟨h1, h2⟩ := hd d List.mem_cons_self
    show OP (compL _ _ _ _ _ (.tup [d, d] :: dbl ds) _ _) P
    rw [comp_cons]
    have hid : hideE [1, 2] [a, b, c] = [h1E a, none, none] := rfl
    rw [hid]
    simp only [r_bind, r_pure, r_c, r_var, r_bin, r_u, r_test, r_frz, r_nil, r_cons, r_guard, r_tup, r_lst, r_nopart, r_part, r_sl, r_and, r_or, r_not, r_mite, r_andV, r_notV, r_pop, r_app, r_shr', r_call, rf_fun, r_snil, then_nx, then_rt, r_seq, r_drop, r_set, r_own', r_fix', r_to, r_ret, r_if, r_for, r_for0, r_sub, r_par3, r_par, r_frzT, r_frzF, r_it, r_enum, r_rng, r_comp, op_some, op_none, op_ite, op_map, pk_non, pk_bl, pk_int, pk_str, pk_tup, pk_lst, pk_tmp, pk_scr, pk_own, pkO_some, pk_ref, pkR_some, rd_val, rd_own, fz_non, fz_bl, fz_int, fz_str, fz_tup, fz_lst, fz_tmp, fz_ref, fz_scr, gl_own, gO_some, gl_ref, gR_some, sl_own, sl_ref, ab_bl, ai_int, it_tup, it_lst, it_tmp, it_scr, put_n, put_p, put_t, put_int, put_lst, put_tup, own_tmp, fix_own, shr_tmp, ret_nx, ret_rt, add_ii, add_ll, add_tt, sub_ii, mul_ii, mul_li, mul_ti, div_ii, mod_ii, pow_ii, ints_ii, eq_ii, ne_ii, is_non, is_int, is_tup, is_intB, not_non, not_tup, ix_l, ix_t, sl_l, sl_t, sl_s, rev_l, neg_i, len_l, len_t, int_i, abs_i, tup_l, tup_t, lst_l, lst_t, sum_l, toInts_int, zip_tt, rng_1, rng_2, rng_3, isi_int_int, isi_str_int, isi_bool_int, isi_tup_int, isi_tup_tup, isiC_int, isiC_tup, isiA_int, List.getElem?_cons_zero, List.getElem?_cons_succ, List.set_cons_zero, List.set_cons_succ, List.map_cons, List.map_nil, List.replicate_succ, List.replicate_zero, List.cons_append, List.nil_append, List.length_cons, List.length_nil, Nat.reduceAdd, Nat.reduceSub, Nat.reduceEqDiff, decide_eq_true_eq, Bool.not_eq_true', Bool.not_false, Bool.not_true, decide_eq_false_iff_not, true_and, and_true, true_or, or_true, reduceIte, Bool.false_eq_true, Int.reduceLT, Int.reduceLE, Nat.reduceLT, Nat.reduceLeDiff, Int.reduceEq, Int.reduceNe, fz_pl h1]
    refine same_ok h1 h2 ?_
    simp only [r_bind, r_pure, r_c, r_var, r_bin, r_u, r_test, r_frz, r_nil, r_cons, r_guard, r_tup, r_lst, r_nopart, r_part, r_sl, r_and, r_or, r_not, r_mite, r_andV, r_notV, r_pop, r_app, r_shr', r_call, rf_fun, r_snil, then_nx, then_rt, r_seq, r_drop, r_set, r_own', r_fix', r_to, r_ret, r_if, r_for, r_for0, r_sub, r_par3, r_par, r_frzT, r_frzF, r_it, r_enum, r_rng, r_comp, op_some, op_none, op_ite, op_map, pk_non, pk_bl, pk_int, pk_str, pk_tup, pk_lst, pk_tmp, pk_scr, pk_own, pkO_some, pk_ref, pkR_some, rd_val, rd_own, fz_non, fz_bl, fz_int, fz_str, fz_tup, fz_lst, fz_tmp, fz_ref, fz_scr, gl_own, gO_some, gl_ref, gR_some, sl_own, sl_ref, ab_bl, ai_int, it_tup, it_lst, it_tmp, it_scr, put_n, put_p, put_t, put_int, put_lst, put_tup, own_tmp, fix_own, shr_tmp, ret_nx, ret_rt, add_ii, add_ll, add_tt, sub_ii, mul_ii, mul_li, mul_ti, div_ii, mod_ii, pow_ii, ints_ii, eq_ii, ne_ii, is_non, is_int, is_tup, is_intB, not_non, not_tup, ix_l, ix_t, sl_l, sl_t, sl_s, rev_l, neg_i, len_l, len_t, int_i, abs_i, tup_l, tup_t, lst_l, lst_t, sum_l, toInts_int, zip_tt, rng_1, rng_2, rng_3, isi_int_int, isi_str_int, isi_bool_int, isi_tup_int, isi_tup_tup, isiC_int, isiC_tup, isiA_int, List.getElem?_cons_zero, List.getElem?_cons_succ, List.set_cons_zero, List.set_cons_succ, List.map_cons, List.map_nil, List.replicate_succ, List.replicate_zero, List.cons_append, List.nil_append, List.length_cons, List.length_nil, Nat.reduceAdd, Nat.reduceSub, Nat.reduceEqDiff, decide_eq_true_eq, Bool.not_eq_true', Bool.not_false, Bool.not_true, decide_eq_false_iff_not, true_and, and_true, true_or, or_true, reduceIte, Bool.false_eq_true, Int.reduceLT, Int.reduceLE, Nat.reduceLT, Nat.reduceLeDiff, Int.reduceEq, Int.reduceNe]
    exact all_comp h a ds b c P (fun d hd' => hd d (List.mem_cons_of_mem _ hd')) hp
theorem all_ok {h : List Cell} {P : Dv → List Cell → Prop} {ds : List Dv} (hd : ∀ d ∈ ds, Pl d ∧ sz d ≤ 1000000) (hp : P (.bl true) h) : RF (M_law_all [.lst (dbl ds)] h) P := by
  unfold M_law_all B_law_all
  simp only [r_bind, r_pure, r_c, r_var, r_bin, r_u, r_test, r_frz, r_nil, r_cons, r_guard, r_tup, r_lst, r_nopart, r_part, r_sl, r_and, r_or, r_not, r_mite, r_andV, r_notV, r_pop, r_app, r_shr', r_call, rf_fun, r_snil, then_nx, then_rt, r_seq, r_drop, r_set, r_own', r_fix', r_to, r_ret, r_if, r_for, r_for0, r_sub, r_par3, r_par, r_frzT, r_frzF, r_it, r_enum, r_rng, r_comp, op_some, op_none, op_ite, op_map, pk_non, pk_bl, pk_int, pk_str, pk_tup, pk_lst, pk_tmp, pk_scr, pk_own, pkO_some, pk_ref, pkR_some, rd_val, rd_own, fz_non, fz_bl, fz_int, fz_str, fz_tup, fz_lst, fz_tmp, fz_ref, fz_scr, gl_own, gO_some, gl_ref, gR_some, sl_own, sl_ref, ab_bl, ai_int, it_tup, it_lst, it_tmp, it_scr, put_n, put_p, put_t, put_int, put_lst, put_tup, own_tmp, fix_own, shr_tmp, ret_nx, ret_rt, add_ii, add_ll, add_tt, sub_ii, mul_ii, mul_li, mul_ti, div_ii, mod_ii, pow_ii, ints_ii, eq_ii, ne_ii, is_non, is_int, is_tup, is_intB, not_non, not_tup, ix_l, ix_t, sl_l, sl_t, sl_s, rev_l, neg_i, len_l, len_t, int_i, abs_i, tup_l, tup_t, lst_l, lst_t, sum_l, toInts_int, zip_tt, rng_1, rng_2, rng_3, isi_int_int, isi_str_int, isi_bool_int, isi_tup_int, isi_tup_tup, isiC_int, isiC_tup, isiA_int, List.getElem?_cons_zero, List.getElem?_cons_succ, List.set_cons_zero, List.set_cons_succ, List.map_cons, List.map_nil, List.replicate_succ, List.replicate_zero, List.cons_append, List.nil_append, List.length_cons, List.length_nil, Nat.reduceAdd, Nat.reduceSub, Nat.reduceEqDiff, decide_eq_true_eq, Bool.not_eq_true', Bool.not_false, Bool.not_true, decide_eq_false_iff_not, true_and, and_true, true_or, or_true, reduceIte, Bool.false_eq_true, Int.reduceLT, Int.reduceLE, Nat.reduceLT, Nat.reduceLeDiff, Int.reduceEq, Int.reduceNe]
  refine all_comp h _ ds none none _ hd ?_
  simp only [r_bind, r_pure, r_c, r_var, r_bin, r_u, r_test, r_frz, r_nil, r_cons, r_guard, r_tup, r_lst, r_nopart, r_part, r_sl, r_and, r_or, r_not, r_mite, r_andV, r_notV, r_pop, r_app, r_shr', r_call, rf_fun, r_snil, then_nx, then_rt, r_seq, r_drop, r_set, r_own', r_fix', r_to, r_ret, r_if, r_for, r_for0, r_sub, r_par3, r_par, r_frzT, r_frzF, r_it, r_enum, r_rng, r_comp, op_some, op_none, op_ite, op_map, pk_non, pk_bl, pk_int, pk_str, pk_tup, pk_lst, pk_tmp, pk_scr, pk_own, pkO_some, pk_ref, pkR_some, rd_val, rd_own, fz_non, fz_bl, fz_int, fz_str, fz_tup, fz_lst, fz_tmp, fz_ref, fz_scr, gl_own, gO_some, gl_ref, gR_some, sl_own, sl_ref, ab_bl, ai_int, it_tup, it_lst, it_tmp, it_scr, put_n, put_p, put_t, put_int, put_lst, put_tup, own_tmp, fix_own, shr_tmp, ret_nx, ret_rt, add_ii, add_ll, add_tt, sub_ii, mul_ii, mul_li, mul_ti, div_ii, mod_ii, pow_ii, ints_ii, eq_ii, ne_ii, is_non, is_int, is_tup, is_intB, not_non, not_tup, ix_l, ix_t, sl_l, sl_t, sl_s, rev_l, neg_i, len_l, len_t, int_i, abs_i, tup_l, tup_t, lst_l, lst_t, sum_l, toInts_int, zip_tt, rng_1, rng_2, rng_3, isi_int_int, isi_str_int, isi_bool_int, isi_tup_int, isi_tup_tup, isiC_int, isiC_tup, isiA_int, List.getElem?_cons_zero, List.getElem?_cons_succ, List.set_cons_zero, List.set_cons_succ, List.map_cons, List.map_nil, List.replicate_succ, List.replicate_zero, List.cons_append, List.nil_append, List.length_cons, List.length_nil, Nat.reduceAdd, Nat.reduceSub, Nat.reduceEqDiff, decide_eq_true_eq, Bool.not_eq_true', Bool.not_false, Bool.not_true, decide_eq_false_iff_not, true_and, and_true, true_or, or_true, reduceIte, Bool.false_eq_true, Int.reduceLT, Int.reduceLE, Nat.reduceLT, Nat.reduceLeDiff, Int.reduceEq, Int.reduceNe]
  rw [decide_eq_true (by simp)]
  exact hp
/-! ### the deal -/
theorem deal_for (h : List Cell) (a b m c : Option Sl) : ∀ (xs : List Int) (mix : Int) (e3 : Option Sl) (P : Fl → Mem → Prop), (∀ (mix : Int) (e3 : Option Sl), P .nx ⟨[a, b, m, e3, c, some (.val (.int mix))], h⟩) →
    R (forS (putN 3) F_law_deal1 (iL xs)) ⟨[a, b, m, e3, c, some (.val (.int mix))], h⟩ P
  | [], mix, e3, P, hp => hp mix e3
  | x :: r, mix, e3, P, hp => by
    show R (forS _ _ (.int x :: iL r)) _ P
    rw [r_for1]
    conv in F_law_deal1 => unfold F_law_deal1
    simp only [r_bind, r_pure, r_c, r_var, r_bin, r_u, r_test, r_frz, r_nil, r_cons, r_guard, r_tup, r_lst, r_nopart, r_part, r_sl, r_and, r_or, r_not, r_mite, r_andV, r_notV, r_pop, r_app, r_shr', r_call, rf_fun, r_snil, then_nx, then_rt, r_seq, r_drop, r_set, r_own', r_fix', r_to, r_ret, r_if, r_for, r_for0, r_sub, r_par3, r_par, r_frzT, r_frzF, r_it, r_enum, r_rng, r_comp, op_some, op_none, op_ite, op_map, pk_non, pk_bl, pk_int, pk_str, pk_tup, pk_lst, pk_tmp, pk_scr, pk_own, pkO_some, pk_ref, pkR_some, rd_val, rd_own, fz_non, fz_bl, fz_int, fz_str, fz_tup, fz_lst, fz_tmp, fz_ref, fz_scr, gl_own, gO_some, gl_ref, gR_some, sl_own, sl_ref, ab_bl, ai_int, it_tup, it_lst, it_tmp, it_scr, put_n, put_p, put_t, put_int, put_lst, put_tup, own_tmp, fix_own, shr_tmp, ret_nx, ret_rt, add_ii, add_ll, add_tt, sub_ii, mul_ii, mul_li, mul_ti, div_ii, mod_ii, pow_ii, ints_ii, eq_ii, ne_ii, is_non, is_int, is_tup, is_intB, not_non, not_tup, ix_l, ix_t, sl_l, sl_t, sl_s, rev_l, neg_i, len_l, len_t, int_i, abs_i, tup_l, tup_t, lst_l, lst_t, sum_l, toInts_int, zip_tt, rng_1, rng_2, rng_3, isi_int_int, isi_str_int, isi_bool_int, isi_tup_int, isi_tup_tup, isiC_int, isiC_tup, isiA_int, List.getElem?_cons_zero, List.getElem?_cons_succ, List.set_cons_zero, List.set_cons_succ, List.map_cons, List.map_nil, List.replicate_succ, List.replicate_zero, List.cons_append, List.nil_append, List.length_cons, List.length_nil, Nat.reduceAdd, Nat.reduceSub, Nat.reduceEqDiff, decide_eq_true_eq, Bool.not_eq_true', Bool.not_false, Bool.not_true, decide_eq_false_iff_not, true_and, and_true, true_or, or_true, reduceIte, Bool.false_eq_true, Int.reduceLT, Int.reduceLE, Nat.reduceLT, Nat.reduceLeDiff, Int.reduceEq, Int.reduceNe]
    rw [mul_r (by decide)]
    simp only [r_bind, r_pure, r_c, r_var, r_bin, r_u, r_test, r_frz, r_nil, r_cons, r_guard, r_tup, r_lst, r_nopart, r_part, r_sl, r_and, r_or, r_not, r_mite, r_andV, r_notV, r_pop, r_app, r_shr', r_call, rf_fun, r_snil, then_nx, then_rt, r_seq, r_drop, r_set, r_own', r_fix', r_to, r_ret, r_if, r_for, r_for0, r_sub, r_par3, r_par, r_frzT, r_frzF, r_it, r_enum, r_rng, r_comp, op_some, op_none, op_ite, op_map, pk_non, pk_bl, pk_int, pk_str, pk_tup, pk_lst, pk_tmp, pk_scr, pk_own, pkO_some, pk_ref, pkR_some, rd_val, rd_own, fz_non, fz_bl, fz_int, fz_str, fz_tup, fz_lst, fz_tmp, fz_ref, fz_scr, gl_own, gO_some, gl_ref, gR_some, sl_own, sl_ref, ab_bl, ai_int, it_tup, it_lst, it_tmp, it_scr, put_n, put_p, put_t, put_int, put_lst, put_tup, own_tmp, fix_own, shr_tmp, ret_nx, ret_rt, add_ii, add_ll, add_tt, sub_ii, mul_ii, mul_li, mul_ti, div_ii, mod_ii, pow_ii, ints_ii, eq_ii, ne_ii, is_non, is_int, is_tup, is_intB, not_non, not_tup, ix_l, ix_t, sl_l, sl_t, sl_s, rev_l, neg_i, len_l, len_t, int_i, abs_i, tup_l, tup_t, lst_l, lst_t, sum_l, toInts_int, zip_tt, rng_1, rng_2, rng_3, isi_int_int, isi_str_int, isi_bool_int, isi_tup_int, isi_tup_tup, isiC_int, isiC_tup, isiA_int, List.getElem?_cons_zero, List.getElem?_cons_succ, List.set_cons_zero, List.set_cons_succ, List.map_cons, List.map_nil, List.replicate_succ, List.replicate_zero, List.cons_append, List.nil_append, List.length_cons, List.length_nil, Nat.reduceAdd, Nat.reduceSub, Nat.reduceEqDiff, decide_eq_true_eq, Bool.not_eq_true', Bool.not_false, Bool.not_true, decide_eq_false_iff_not, true_and, and_true, true_or, or_true, reduceIte, Bool.false_eq_true, Int.reduceLT, Int.reduceLE, Nat.reduceLT, Nat.reduceLeDiff, Int.reduceEq, Int.reduceNe]
    exact deal_for h a b m c r _ _ P hp
theorem deal_filter (h : List Cell) (a b m c g : Option Sl) : ∀ (xs acc : List Int) (e3 : Option Sl) (P : List Dv × List Cell → Prop), acc.length + xs.length ≤ 63 → (∀ ys : List Int, ys.length ≤ 63 → P (iL ys, h)) →
    OP (compL (putN 3) [3] (mTest (mBin gGe (mVar 3) (mBin gPow (mC (.int 10)) (mC (.int 18))))) (mVar 3) [a, b, m, e3, c, g] (iL xs) (iL acc) h) P
  | [], acc, e3, P, hl, hp => hp acc (by simp at hl; exact hl)
  | x :: r, acc, e3, P, hl, hp => by
    rw [List.length_cons] at hl
    show OP (compL _ _ _ _ _ (.int x :: iL r) _ _) P
    rw [comp_cons]
    have hid : hideE [3] [a, b, m, e3, c, g] = [h1E a, h1E b, h1E m, none, h1E c, h1E g] := rfl
    rw [hid]
    simp only [r_bind, r_pure, r_c, r_var, r_bin, r_u, r_test, r_frz, r_nil, r_cons, r_guard, r_tup, r_lst, r_nopart, r_part, r_sl, r_and, r_or, r_not, r_mite, r_andV, r_notV, r_pop, r_app, r_shr', r_call, rf_fun, r_snil, then_nx, then_rt, r_seq, r_drop, r_set, r_own', r_fix', r_to, r_ret, r_if, r_for, r_for0, r_sub, r_par3, r_par, r_frzT, r_frzF, r_it, r_enum, r_rng, r_comp, op_some, op_none, op_ite, op_map, pk_non, pk_bl, pk_int, pk_str, pk_tup, pk_lst, pk_tmp, pk_scr, pk_own, pkO_some, pk_ref, pkR_some, rd_val, rd_own, fz_non, fz_bl, fz_int, fz_str, fz_tup, fz_lst, fz_tmp, fz_ref, fz_scr, gl_own, gO_some, gl_ref, gR_some, sl_own, sl_ref, ab_bl, ai_int, it_tup, it_lst, it_tmp, it_scr, put_n, put_p, put_t, put_int, put_lst, put_tup, own_tmp, fix_own, shr_tmp, ret_nx, ret_rt, add_ii, add_ll, add_tt, sub_ii, mul_ii, mul_li, mul_ti, div_ii, mod_ii, pow_ii, ints_ii, eq_ii, ne_ii, is_non, is_int, is_tup, is_intB, not_non, not_tup, ix_l, ix_t, sl_l, sl_t, sl_s, rev_l, neg_i, len_l, len_t, int_i, abs_i, tup_l, tup_t, lst_l, lst_t, sum_l, toInts_int, zip_tt, rng_1, rng_2, rng_3, isi_int_int, isi_str_int, isi_bool_int, isi_tup_int, isi_tup_tup, isiC_int, isiC_tup, isiA_int, List.getElem?_cons_zero, List.getElem?_cons_succ, List.set_cons_zero, List.set_cons_succ, List.map_cons, List.map_nil, List.replicate_succ, List.replicate_zero, List.cons_append, List.nil_append, List.length_cons, List.length_nil, Nat.reduceAdd, Nat.reduceSub, Nat.reduceEqDiff, decide_eq_true_eq, Bool.not_eq_true', Bool.not_false, Bool.not_true, decide_eq_false_iff_not, true_and, and_true, true_or, or_true, reduceIte, Bool.false_eq_true, Int.reduceLT, Int.reduceLE, Nat.reduceLT, Nat.reduceLeDiff, Int.reduceEq, Int.reduceNe]
    refine ⟨by decide, ?_⟩
    by_cases hx : (10 : Int) ^ (18 : Int).toNat ≤ x
    · rw [if_pos hx]
      refine ⟨by rw [iL_len, lim_is]; omega, ?_⟩
      have e2 : iL acc ++ [Dv.int x] = iL (acc ++ [x]) := by rw [iL_app] <;> rfl
      rw [e2]
      exact deal_filter h a b m c g r _ e3 P (by rw [List.length_append, List.length_singleton]; omega) hp
    · rw [if_neg hx]
      exact deal_filter h a b m c g r acc e3 P (by omega) hp
theorem deal_ok {P : Dv → List Cell → Prop} {ns : List Int} (hp : ∀ h, Dl h → P (.ref 1) h) : RF (M_law_deal [.scr ns, .int 74] []) P := by
  unfold M_law_deal B_law_deal
  simp only [r_bind, r_pure, r_c, r_var, r_bin, r_u, r_test, r_frz, r_nil, r_cons, r_guard, r_tup, r_lst, r_nopart, r_part, r_sl, r_and, r_or, r_not, r_mite, r_andV, r_notV, r_pop, r_app, r_shr', r_call, rf_fun, r_snil, then_nx, then_rt, r_seq, r_drop, r_set, r_own', r_fix', r_to, r_ret, r_if, r_for, r_for0, r_sub, r_par3, r_par, r_frzT, r_frzF, r_it, r_enum, r_rng, r_comp, op_some, op_none, op_ite, op_map, pk_non, pk_bl, pk_int, pk_str, pk_tup, pk_lst, pk_tmp, pk_scr, pk_own, pkO_some, pk_ref, pkR_some, rd_val, rd_own, fz_non, fz_bl, fz_int, fz_str, fz_tup, fz_lst, fz_tmp, fz_ref, fz_scr, gl_own, gO_some, gl_ref, gR_some, sl_own, sl_ref, ab_bl, ai_int, it_tup, it_lst, it_tmp, it_scr, put_n, put_p, put_t, put_int, put_lst, put_tup, own_tmp, fix_own, shr_tmp, ret_nx, ret_rt, add_ii, add_ll, add_tt, sub_ii, mul_ii, mul_li, mul_ti, div_ii, mod_ii, pow_ii, ints_ii, eq_ii, ne_ii, is_non, is_int, is_tup, is_intB, not_non, not_tup, ix_l, ix_t, sl_l, sl_t, sl_s, rev_l, neg_i, len_l, len_t, int_i, abs_i, tup_l, tup_t, lst_l, lst_t, sum_l, toInts_int, zip_tt, rng_1, rng_2, rng_3, isi_int_int, isi_str_int, isi_bool_int, isi_tup_int, isi_tup_tup, isiC_int, isiC_tup, isiA_int, List.getElem?_cons_zero, List.getElem?_cons_succ, List.set_cons_zero, List.set_cons_succ, List.map_cons, List.map_nil, List.replicate_succ, List.replicate_zero, List.cons_append, List.nil_append, List.length_cons, List.length_nil, Nat.reduceAdd, Nat.reduceSub, Nat.reduceEqDiff, decide_eq_true_eq, Bool.not_eq_true', Bool.not_false, Bool.not_true, decide_eq_false_iff_not, true_and, and_true, true_or, or_true, reduceIte, Bool.false_eq_true, Int.reduceLT, Int.reduceLE, Nat.reduceLT, Nat.reduceLeDiff, Int.reduceEq, Int.reduceNe]
  refine ⟨by decide, by decide, by decide +kernel, by decide, by decide +kernel, by decide, by decide +kernel, by decide, by decide +kernel, by decide, by decide +kernel, ?_⟩
  have hmp : (0 : Int) < 10 ^ Int.toNat 64 * 10 ^ Int.toNat 64 * 10 ^ Int.toNat 64 * 10 ^ Int.toNat 64 * 10 ^ Int.toNat 64 * 10 ^ Int.toNat 64 := by decide +kernel
  generalize (10 ^ Int.toNat 64 * 10 ^ Int.toNat 64 * 10 ^ Int.toNat 64 * 10 ^ Int.toNat 64 * 10 ^ Int.toNat 64 * 10 ^ Int.toNat 64 : Int) = most at hmp ⊢
  have e63 : cutD ns none (some (63 : Int)) = ns.take 63 := cut_on (b := 63)
  rw [e63]
  have hl : (ns.take 63).length ≤ 63 := by rw [List.length_take]; omega
  generalize ns.take 63 = xs at hl ⊢
  refine comp_map (f := fun d => match d with | .int c => Dv.int ((if c < 0 then -c else c) % most) | d => d) (fun d hd => ?_) (by rw [List.length_map, List.length_nil, lim_is]; omega) ?_
  · obtain ⟨x, _, rfl⟩ := List.mem_map.mp hd
    show OP (putN 3 (.int x) [some (Sl.val (.scr ns)), some (Sl.val (.int 74)), some (Sl.val (.int most)), none, none, none]) _
    simp only [r_bind, r_pure, r_c, r_var, r_bin, r_u, r_test, r_frz, r_nil, r_cons, r_guard, r_tup, r_lst, r_nopart, r_part, r_sl, r_and, r_or, r_not, r_mite, r_andV, r_notV, r_pop, r_app, r_shr', r_call, rf_fun, r_snil, then_nx, then_rt, r_seq, r_drop, r_set, r_own', r_fix', r_to, r_ret, r_if, r_for, r_for0, r_sub, r_par3, r_par, r_frzT, r_frzF, r_it, r_enum, r_rng, r_comp, op_some, op_none, op_ite, op_map, pk_non, pk_bl, pk_int, pk_str, pk_tup, pk_lst, pk_tmp, pk_scr, pk_own, pkO_some, pk_ref, pkR_some, rd_val, rd_own, fz_non, fz_bl, fz_int, fz_str, fz_tup, fz_lst, fz_tmp, fz_ref, fz_scr, gl_own, gO_some, gl_ref, gR_some, sl_own, sl_ref, ab_bl, ai_int, it_tup, it_lst, it_tmp, it_scr, put_n, put_p, put_t, put_int, put_lst, put_tup, own_tmp, fix_own, shr_tmp, ret_nx, ret_rt, add_ii, add_ll, add_tt, sub_ii, mul_ii, mul_li, mul_ti, div_ii, mod_ii, pow_ii, ints_ii, eq_ii, ne_ii, is_non, is_int, is_tup, is_intB, not_non, not_tup, ix_l, ix_t, sl_l, sl_t, sl_s, rev_l, neg_i, len_l, len_t, int_i, abs_i, tup_l, tup_t, lst_l, lst_t, sum_l, toInts_int, zip_tt, rng_1, rng_2, rng_3, isi_int_int, isi_str_int, isi_bool_int, isi_tup_int, isi_tup_tup, isiC_int, isiC_tup, isiA_int, List.getElem?_cons_zero, List.getElem?_cons_succ, List.set_cons_zero, List.set_cons_succ, List.map_cons, List.map_nil, List.replicate_succ, List.replicate_zero, List.cons_append, List.nil_append, List.length_cons, List.length_nil, Nat.reduceAdd, Nat.reduceSub, Nat.reduceEqDiff, decide_eq_true_eq, Bool.not_eq_true', Bool.not_false, Bool.not_true, decide_eq_false_iff_not, true_and, and_true, true_or, or_true, reduceIte, Bool.false_eq_true, Int.reduceLT, Int.reduceLE, Nat.reduceLT, Nat.reduceLeDiff, Int.reduceEq, Int.reduceNe]
    exact hmp
  · refine ⟨by decide, ?_⟩
    have e1 : (List.map Dv.int xs).map (fun d => match d with | .int c => Dv.int ((if c < 0 then -c else c) % most) | d => d) = iL (xs.map fun c => (if c < 0 then -c else c) % most) := by
      unfold iL
      rw [List.map_map, List.map_map]
      rfl
    dsimp only
    rw [List.nil_append, e1]
    have hl2 : (xs.map fun c => (if c < 0 then -c else c) % most).length ≤ 63 := by rw [List.length_map]; exact hl
    generalize (xs.map fun c => (if c < 0 then -c else c) % most) = zs at hl2 ⊢
    refine deal_for [] _ _ _ _ zs _ none _ fun mix e3 => ?_
    simp only [r_bind, r_pure, r_c, r_var, r_bin, r_u, r_test, r_frz, r_nil, r_cons, r_guard, r_tup, r_lst, r_nopart, r_part, r_sl, r_and, r_or, r_not, r_mite, r_andV, r_notV, r_pop, r_app, r_shr', r_call, rf_fun, r_snil, then_nx, then_rt, r_seq, r_drop, r_set, r_own', r_fix', r_to, r_ret, r_if, r_for, r_for0, r_sub, r_par3, r_par, r_frzT, r_frzF, r_it, r_enum, r_rng, r_comp, op_some, op_none, op_ite, op_map, pk_non, pk_bl, pk_int, pk_str, pk_tup, pk_lst, pk_tmp, pk_scr, pk_own, pkO_some, pk_ref, pkR_some, rd_val, rd_own, fz_non, fz_bl, fz_int, fz_str, fz_tup, fz_lst, fz_tmp, fz_ref, fz_scr, gl_own, gO_some, gl_ref, gR_some, sl_own, sl_ref, ab_bl, ai_int, it_tup, it_lst, it_tmp, it_scr, put_n, put_p, put_t, put_int, put_lst, put_tup, own_tmp, fix_own, shr_tmp, ret_nx, ret_rt, add_ii, add_ll, add_tt, sub_ii, mul_ii, mul_li, mul_ti, div_ii, mod_ii, pow_ii, ints_ii, eq_ii, ne_ii, is_non, is_int, is_tup, is_intB, not_non, not_tup, ix_l, ix_t, sl_l, sl_t, sl_s, rev_l, neg_i, len_l, len_t, int_i, abs_i, tup_l, tup_t, lst_l, lst_t, sum_l, toInts_int, zip_tt, rng_1, rng_2, rng_3, isi_int_int, isi_str_int, isi_bool_int, isi_tup_int, isi_tup_tup, isiC_int, isiC_tup, isiA_int, List.getElem?_cons_zero, List.getElem?_cons_succ, List.set_cons_zero, List.set_cons_succ, List.map_cons, List.map_nil, List.replicate_succ, List.replicate_zero, List.cons_append, List.nil_append, List.length_cons, List.length_nil, Nat.reduceAdd, Nat.reduceSub, Nat.reduceEqDiff, decide_eq_true_eq, Bool.not_eq_true', Bool.not_false, Bool.not_true, decide_eq_false_iff_not, true_and, and_true, true_or, or_true, reduceIte, Bool.false_eq_true, Int.reduceLT, Int.reduceLE, Nat.reduceLT, Nat.reduceLeDiff, Int.reduceEq, Int.reduceNe]
    refine deal_filter [] _ _ _ _ _ zs [] e3 _ (by rw [List.length_nil]; omega) fun ys hy => ?_
    simp only [r_bind, r_pure, r_c, r_var, r_bin, r_u, r_test, r_frz, r_nil, r_cons, r_guard, r_tup, r_lst, r_nopart, r_part, r_sl, r_and, r_or, r_not, r_mite, r_andV, r_notV, r_pop, r_app, r_shr', r_call, rf_fun, r_snil, then_nx, then_rt, r_seq, r_drop, r_set, r_own', r_fix', r_to, r_ret, r_if, r_for, r_for0, r_sub, r_par3, r_par, r_frzT, r_frzF, r_it, r_enum, r_rng, r_comp, op_some, op_none, op_ite, op_map, pk_non, pk_bl, pk_int, pk_str, pk_tup, pk_lst, pk_tmp, pk_scr, pk_own, pkO_some, pk_ref, pkR_some, rd_val, rd_own, fz_non, fz_bl, fz_int, fz_str, fz_tup, fz_lst, fz_tmp, fz_ref, fz_scr, gl_own, gO_some, gl_ref, gR_some, sl_own, sl_ref, ab_bl, ai_int, it_tup, it_lst, it_tmp, it_scr, put_n, put_p, put_t, put_int, put_lst, put_tup, own_tmp, fix_own, shr_tmp, ret_nx, ret_rt, add_ii, add_ll, add_tt, sub_ii, mul_ii, mul_li, mul_ti, div_ii, mod_ii, pow_ii, ints_ii, eq_ii, ne_ii, is_non, is_int, is_tup, is_intB, not_non, not_tup, ix_l, ix_t, sl_l, sl_t, sl_s, rev_l, neg_i, len_l, len_t, int_i, abs_i, tup_l, tup_t, lst_l, lst_t, sum_l, toInts_int, zip_tt, rng_1, rng_2, rng_3, isi_int_int, isi_str_int, isi_bool_int, isi_tup_int, isi_tup_tup, isiC_int, isiC_tup, isiA_int, List.getElem?_cons_zero, List.getElem?_cons_succ, List.set_cons_zero, List.set_cons_succ, List.map_cons, List.map_nil, List.replicate_succ, List.replicate_zero, List.cons_append, List.nil_append, List.length_cons, List.length_nil, Nat.reduceAdd, Nat.reduceSub, Nat.reduceEqDiff, decide_eq_true_eq, Bool.not_eq_true', Bool.not_false, Bool.not_true, decide_eq_false_iff_not, true_and, and_true, true_or, or_true, reduceIte, Bool.false_eq_true, Int.reduceLT, Int.reduceLE, Nat.reduceLT, Nat.reduceLeDiff, Int.reduceEq, Int.reduceNe]
    refine ⟨by rw [lim_is]; omega, ?_⟩
    have e4 : (iL ys).reverse = iL ys.reverse := (List.map_reverse ..).symm
    rw [e4]
    exact hp _ ⟨ys.reverse, mix, rfl, by rw [List.length_reverse]; exact hy⟩
end K74

set_option Elab.async false
set_option linter.all false
set_option maxRecDepth 100000
set_option maxHeartbeats 8000000
namespace K74
open PySem PySem.Spec L2 Mir
def Gd (ds : List Dv) : Prop := ∀ d ∈ ds, Pl d ∧ sz d ≤ 1000000
def GB (bs : List (List Int)) : Prop := ∀ b ∈ bs, Oc b ∧ b.length ≤ 300
theorem gd_app {ds : List Dv} {d : Dv} (h : Gd ds) (h1 : Pl d) (h2 : sz d ≤ 1000000) : Gd (ds ++ [d]) := fun x hx => by
  rcases List.mem_append.mp hx with hx | hx
  · exact h x hx
  · rw [List.mem_singleton.mp hx]; exact ⟨h1, h2⟩
theorem gb_app {bs : List (List Int)} {b : List Int} (h : GB bs) (h1 : Oc b) (h2 : b.length ≤ 300) : GB (bs ++ [b]) := fun x hx => by
  rcases List.mem_append.mp hx with hx | hx
  · exact h x hx
  · rw [List.mem_singleton.mp hx]; exact ⟨h1, h2⟩
theorem gb_take {bs : List (List Int)} {m : Nat} (h : GB bs) : GB (bs.take m) := fun x hx => h x (List.mem_of_mem_take hx)
theorem dbl_app (ds : List Dv) (d : Dv) : dbl ds ++ [.tup [d, d]] = dbl (ds ++ [d]) := by unfold dbl; rw [List.map_append] <;> rfl
theorem dbl_len (ds : List Dv) : (dbl ds).length = ds.length := by unfold dbl; exact List.length_map ..
def rowsD (bs : List (List Int)) : List Dv := bs.map fun b => .tup [.lst (iL b), .lst (iL (frm b))]
theorem rows_app (bs : List (List Int)) (b : List Int) : rowsD bs ++ [.tup [.lst (iL b), .lst (iL (frm b))]] = rowsD (bs ++ [b]) := by unfold rowsD; rw [List.map_append] <;> rfl
theorem rows_len (bs : List (List Int)) : (rowsD bs).length = bs.length := by unfold rowsD; exact List.length_map ..
theorem rows_take (bs : List (List Int)) (m : Nat) : (rowsD bs).take m = rowsD (bs.take m) := (List.map_take ..).symm
theorem pls_iL : ∀ xs : List Int, Pls (iL xs)
  | [] => trivial
  | x :: r => ⟨trivial, pls_iL r⟩
theorem szs_iL : ∀ xs : List Int, szs (iL xs) = xs.length
  | [] => rfl
  | x :: r => by
    show sz (.int x) + szs (iL r) = r.length + 1
    rw [szs_iL r]
    simp only [sz]
    omega
theorem pl_tL (xs : List Int) : Pl (.tup (iL xs)) := pls_iL xs
theorem sz_tL (xs : List Int) : sz (.tup (iL xs)) = 1 + xs.length := by
  simp only [sz]
  rw [szs_iL]
theorem frm_len300 {b : List Int} (h : b.length ≤ 300) : (frm b).length ≤ 304 := by
  have := flat_len (bs := [b]) (by simpa using h)
  rw [flat_cons, List.length_append] at this
  simp at this
  omega
theorem law_l1 (s0 e3 e8 e9 e10 e11 e12 e13 e14 e15 e16 e17 : Option Sl) : ∀ (n : Nat) (lo : Nat) (bs : List (List Int)) (ds : List Dv) (e2 e6 e7 : Option Sl) (h : List Cell) (P : Fl → Mem → Prop), Dl h → Gd ds → GB bs → ds.length + n ≤ 100 → bs.length + n ≤ 100 →
    (∀ (bs' : List (List Int)) (ds' : List Dv) (e2 e6 e7 : Option Sl) (h : List Cell), Dl h → Gd ds' → GB bs' → bs'.length = bs.length + n → ds'.length ≤ ds.length + n → P .nx ⟨[s0, some (.val (.ref 1)), e2, e3, some (.own (dbl ds')), some (.own (rowsD bs')), e6, e7, e8, e9, e10, e11, e12, e13, e14, e15, e16, e17], h⟩) →
    R (forS (putN 2) F_law2 (rngD lo 1 n)) ⟨[s0, some (.val (.ref 1)), e2, e3, some (.own (dbl ds)), some (.own (rowsD bs)), e6, e7, e8, e9, e10, e11, e12, e13, e14, e15, e16, e17], h⟩ P
  | 0, lo, bs, ds, e2, e6, e7, h, P, hd, hg, hb, _, _, hp => hp bs ds e2 e6 e7 h hd hg hb rfl (Nat.le_refl _)
  | n + 1, lo, bs, ds, e2, e6, e7, h, P, hd, hg, hb, hl1, hl2, hp => by
    show R (forS _ _ (.int lo :: rngD ((lo : Int) + 1) 1 n)) _ P
    rw [r_for1]
    generalize hF : forS (putN 2) F_law2 (rngD ((lo : Int) + 1) 1 n) = rst
    unfold F_law2
    simp only [r_bind, r_pure, r_c, r_var, r_bin, r_u, r_test, r_frz, r_nil, r_cons, r_guard, r_tup, r_lst, r_nopart, r_part, r_sl, r_and, r_or, r_not, r_mite, r_andV, r_notV, r_pop, r_app, r_shr', r_call, rf_fun, r_snil, then_nx, then_rt, r_seq, r_drop, r_set, r_own', r_fix', r_to, r_ret, r_if, r_for, r_for0, r_sub, r_par3, r_par, r_frzT, r_frzF, r_it, r_enum, r_rng, r_comp, op_some, op_none, op_ite, op_map, pk_non, pk_bl, pk_int, pk_str, pk_tup, pk_lst, pk_tmp, pk_scr, pk_own, pkO_some, pk_ref, pkR_some, rd_val, rd_own, fz_non, fz_bl, fz_int, fz_str, fz_tup, fz_lst, fz_tmp, fz_ref, fz_scr, gl_own, gO_some, gl_ref, gR_some, sl_own, sl_ref, ab_bl, ai_int, it_tup, it_lst, it_tmp, it_scr, put_n, put_p, put_t, put_int, put_lst, put_tup, own_tmp, fix_own, shr_tmp, ret_nx, ret_rt, add_ii, add_ll, add_tt, sub_ii, mul_ii, mul_li, mul_ti, div_ii, mod_ii, pow_ii, ints_ii, eq_ii, ne_ii, is_non, is_int, is_tup, is_intB, not_non, not_tup, ix_l, ix_t, sl_l, sl_t, sl_s, rev_l, neg_i, len_l, len_t, int_i, abs_i, tup_l, tup_t, lst_l, lst_t, sum_l, toInts_int, zip_tt, rng_1, rng_2, rng_3, isi_int_int, isi_str_int, isi_bool_int, isi_tup_int, isi_tup_tup, isiC_int, isiC_tup, isiA_int, List.getElem?_cons_zero, List.getElem?_cons_succ, List.set_cons_zero, List.set_cons_succ, List.map_cons, List.map_nil, List.replicate_succ, List.replicate_zero, List.cons_append, List.nil_append, List.length_cons, List.length_nil, Nat.reduceAdd, Nat.reduceSub, Nat.reduceEqDiff, decide_eq_true_eq, Bool.not_eq_true', Bool.not_false, Bool.not_true, decide_eq_false_iff_not, true_and, and_true, true_or, or_true, reduceIte, Bool.false_eq_true, Int.reduceLT, Int.reduceLE, Nat.reduceLT, Nat.reduceLeDiff, Int.reduceEq, Int.reduceNe]
    refine body_ok hd fun b h1 hb1 hb2 hd1 => ?_
    simp only [r_bind, r_pure, r_c, r_var, r_bin, r_u, r_test, r_frz, r_nil, r_cons, r_guard, r_tup, r_lst, r_nopart, r_part, r_sl, r_and, r_or, r_not, r_mite, r_andV, r_notV, r_pop, r_app, r_shr', r_call, rf_fun, r_snil, then_nx, then_rt, r_seq, r_drop, r_set, r_own', r_fix', r_to, r_ret, r_if, r_for, r_for0, r_sub, r_par3, r_par, r_frzT, r_frzF, r_it, r_enum, r_rng, r_comp, op_some, op_none, op_ite, op_map, pk_non, pk_bl, pk_int, pk_str, pk_tup, pk_lst, pk_tmp, pk_scr, pk_own, pkO_some, pk_ref, pkR_some, rd_val, rd_own, fz_non, fz_bl, fz_int, fz_str, fz_tup, fz_lst, fz_tmp, fz_ref, fz_scr, gl_own, gO_some, gl_ref, gR_some, sl_own, sl_ref, ab_bl, ai_int, it_tup, it_lst, it_tmp, it_scr, put_n, put_p, put_t, put_int, put_lst, put_tup, own_tmp, fix_own, shr_tmp, ret_nx, ret_rt, add_ii, add_ll, add_tt, sub_ii, mul_ii, mul_li, mul_ti, div_ii, mod_ii, pow_ii, ints_ii, eq_ii, ne_ii, is_non, is_int, is_tup, is_intB, not_non, not_tup, ix_l, ix_t, sl_l, sl_t, sl_s, rev_l, neg_i, len_l, len_t, int_i, abs_i, tup_l, tup_t, lst_l, lst_t, sum_l, toInts_int, zip_tt, rng_1, rng_2, rng_3, isi_int_int, isi_str_int, isi_bool_int, isi_tup_int, isi_tup_tup, isiC_int, isiC_tup, isiA_int, List.getElem?_cons_zero, List.getElem?_cons_succ, List.set_cons_zero, List.set_cons_succ, List.map_cons, List.map_nil, List.replicate_succ, List.replicate_zero, List.cons_append, List.nil_append, List.length_cons, List.length_nil, Nat.reduceAdd, Nat.reduceSub, Nat.reduceEqDiff, decide_eq_true_eq, Bool.not_eq_true', Bool.not_false, Bool.not_true, decide_eq_false_iff_not, true_and, and_true, true_or, or_true, reduceIte, Bool.false_eq_true, Int.reduceLT, Int.reduceLE, Nat.reduceLT, Nat.reduceLeDiff, Int.reduceEq, Int.reduceNe]
    refine framed_ok hb1 (by omega) ?_
    simp only [r_bind, r_pure, r_c, r_var, r_bin, r_u, r_test, r_frz, r_nil, r_cons, r_guard, r_tup, r_lst, r_nopart, r_part, r_sl, r_and, r_or, r_not, r_mite, r_andV, r_notV, r_pop, r_app, r_shr', r_call, rf_fun, r_snil, then_nx, then_rt, r_seq, r_drop, r_set, r_own', r_fix', r_to, r_ret, r_if, r_for, r_for0, r_sub, r_par3, r_par, r_frzT, r_frzF, r_it, r_enum, r_rng, r_comp, op_some, op_none, op_ite, op_map, pk_non, pk_bl, pk_int, pk_str, pk_tup, pk_lst, pk_tmp, pk_scr, pk_own, pkO_some, pk_ref, pkR_some, rd_val, rd_own, fz_non, fz_bl, fz_int, fz_str, fz_tup, fz_lst, fz_tmp, fz_ref, fz_scr, gl_own, gO_some, gl_ref, gR_some, sl_own, sl_ref, ab_bl, ai_int, it_tup, it_lst, it_tmp, it_scr, put_n, put_p, put_t, put_int, put_lst, put_tup, own_tmp, fix_own, shr_tmp, ret_nx, ret_rt, add_ii, add_ll, add_tt, sub_ii, mul_ii, mul_li, mul_ti, div_ii, mod_ii, pow_ii, ints_ii, eq_ii, ne_ii, is_non, is_int, is_tup, is_intB, not_non, not_tup, ix_l, ix_t, sl_l, sl_t, sl_s, rev_l, neg_i, len_l, len_t, int_i, abs_i, tup_l, tup_t, lst_l, lst_t, sum_l, toInts_int, zip_tt, rng_1, rng_2, rng_3, isi_int_int, isi_str_int, isi_bool_int, isi_tup_int, isi_tup_tup, isiC_int, isiC_tup, isiA_int, List.getElem?_cons_zero, List.getElem?_cons_succ, List.set_cons_zero, List.set_cons_succ, List.map_cons, List.map_nil, List.replicate_succ, List.replicate_zero, List.cons_append, List.nil_append, List.length_cons, List.length_nil, Nat.reduceAdd, Nat.reduceSub, Nat.reduceEqDiff, decide_eq_true_eq, Bool.not_eq_true', Bool.not_false, Bool.not_true, decide_eq_false_iff_not, true_and, and_true, true_or, or_true, reduceIte, Bool.false_eq_true, Int.reduceLT, Int.reduceLE, Nat.reduceLT, Nat.reduceLeDiff, Int.reduceEq, Int.reduceNe]
    have key : ∀ Q : Prop, Q → (if (lo : Int) < 2 then Q else Q) := fun Q q => by split <;> exact q
    refine key _ ?_
    refine frame_ok hb1 (by omega) ?_
    simp only [r_bind, r_pure, r_c, r_var, r_bin, r_u, r_test, r_frz, r_nil, r_cons, r_guard, r_tup, r_lst, r_nopart, r_part, r_sl, r_and, r_or, r_not, r_mite, r_andV, r_notV, r_pop, r_app, r_shr', r_call, rf_fun, r_snil, then_nx, then_rt, r_seq, r_drop, r_set, r_own', r_fix', r_to, r_ret, r_if, r_for, r_for0, r_sub, r_par3, r_par, r_frzT, r_frzF, r_it, r_enum, r_rng, r_comp, op_some, op_none, op_ite, op_map, pk_non, pk_bl, pk_int, pk_str, pk_tup, pk_lst, pk_tmp, pk_scr, pk_own, pkO_some, pk_ref, pkR_some, rd_val, rd_own, fz_non, fz_bl, fz_int, fz_str, fz_tup, fz_lst, fz_tmp, fz_ref, fz_scr, gl_own, gO_some, gl_ref, gR_some, sl_own, sl_ref, ab_bl, ai_int, it_tup, it_lst, it_tmp, it_scr, put_n, put_p, put_t, put_int, put_lst, put_tup, own_tmp, fix_own, shr_tmp, ret_nx, ret_rt, add_ii, add_ll, add_tt, sub_ii, mul_ii, mul_li, mul_ti, div_ii, mod_ii, pow_ii, ints_ii, eq_ii, ne_ii, is_non, is_int, is_tup, is_intB, not_non, not_tup, ix_l, ix_t, sl_l, sl_t, sl_s, rev_l, neg_i, len_l, len_t, int_i, abs_i, tup_l, tup_t, lst_l, lst_t, sum_l, toInts_int, zip_tt, rng_1, rng_2, rng_3, isi_int_int, isi_str_int, isi_bool_int, isi_tup_int, isi_tup_tup, isiC_int, isiC_tup, isiA_int, List.getElem?_cons_zero, List.getElem?_cons_succ, List.set_cons_zero, List.set_cons_succ, List.map_cons, List.map_nil, List.replicate_succ, List.replicate_zero, List.cons_append, List.nil_append, List.length_cons, List.length_nil, Nat.reduceAdd, Nat.reduceSub, Nat.reduceEqDiff, decide_eq_true_eq, Bool.not_eq_true', Bool.not_false, Bool.not_true, decide_eq_false_iff_not, true_and, and_true, true_or, or_true, reduceIte, Bool.false_eq_true, Int.reduceLT, Int.reduceLE, Nat.reduceLT, Nat.reduceLeDiff, Int.reduceEq, Int.reduceNe, dbl_app, rows_app, dbl_len, rows_len]
    have h304 := frm_len300 hb2
    refine ⟨by rw [lim_is]; omega, by rw [lim_is]; omega, by rw [lim_is]; omega, by rw [lim_is]; omega, ?_⟩
    subst hF
    have e5 : ((lo : Int) + 1) = ((lo + 1 : Nat) : Int) := by omega
    rw [e5]
    refine law_l1 s0 e3 e8 e9 e10 e11 e12 e13 e14 e15 e16 e17 n (lo + 1) (bs ++ [b]) (ds ++ [.tup (iL (frm b))]) _ _ _ h1 P hd1 (gd_app hg (pl_tL _) (by rw [sz_tL]; omega)) (gb_app hb hb1 hb2) (by rw [List.length_append, List.length_singleton]; omega) (by rw [List.length_append, List.length_singleton]; omega) fun bs' ds' e2 e6 e7 h' q1 q2 q3 q4 q5 => hp bs' ds' e2 e6 e7 h' q1 q2 q3 (by rw [List.length_append, List.length_singleton] at q4; omega) (by rw [List.length_append, List.length_singleton] at q5; omega)
theorem join_loop (h : List Cell) (a : Option Sl) : ∀ (rs : List (List Int)) (acc : List Int) (c : Option Sl) (P : Fl → Mem → Prop), acc.length + rs.flatten.length < 900000 → (∀ c, P .nx ⟨[a, some (.val (.lst (iL (acc ++ rs.flatten)))), c], h⟩) →
    R (forS (putN 2) F_law_joined1 (rs.map fun r => .lst (iL r))) ⟨[a, some (.val (.lst (iL acc))), c], h⟩ P
  | [], acc, c, P, _, hp => by
    have := hp c
    rw [List.flatten_nil, List.append_nil] at this
    exact this
  | r :: rs, acc, c, P, hl, hp => by
    rw [List.flatten_cons, List.length_append] at hl
    show R (forS _ _ (.lst (iL r) :: rs.map fun r => .lst (iL r))) _ P
    rw [r_for1]
    conv in F_law_joined1 => unfold F_law_joined1
    simp only [r_bind, r_pure, r_c, r_var, r_bin, r_u, r_test, r_frz, r_nil, r_cons, r_guard, r_tup, r_lst, r_nopart, r_part, r_sl, r_and, r_or, r_not, r_mite, r_andV, r_notV, r_pop, r_app, r_shr', r_call, rf_fun, r_snil, then_nx, then_rt, r_seq, r_drop, r_set, r_own', r_fix', r_to, r_ret, r_if, r_for, r_for0, r_sub, r_par3, r_par, r_frzT, r_frzF, r_it, r_enum, r_rng, r_comp, op_some, op_none, op_ite, op_map, pk_non, pk_bl, pk_int, pk_str, pk_tup, pk_lst, pk_tmp, pk_scr, pk_own, pkO_some, pk_ref, pkR_some, rd_val, rd_own, fz_non, fz_bl, fz_int, fz_str, fz_tup, fz_lst, fz_tmp, fz_ref, fz_scr, gl_own, gO_some, gl_ref, gR_some, sl_own, sl_ref, ab_bl, ai_int, it_tup, it_lst, it_tmp, it_scr, put_n, put_p, put_t, put_int, put_lst, put_tup, own_tmp, fix_own, shr_tmp, ret_nx, ret_rt, add_ii, add_ll, add_tt, sub_ii, mul_ii, mul_li, mul_ti, div_ii, mod_ii, pow_ii, ints_ii, eq_ii, ne_ii, is_non, is_int, is_tup, is_intB, not_non, not_tup, ix_l, ix_t, sl_l, sl_t, sl_s, rev_l, neg_i, len_l, len_t, int_i, abs_i, tup_l, tup_t, lst_l, lst_t, sum_l, toInts_int, zip_tt, rng_1, rng_2, rng_3, isi_int_int, isi_str_int, isi_bool_int, isi_tup_int, isi_tup_tup, isiC_int, isiC_tup, isiA_int, List.getElem?_cons_zero, List.getElem?_cons_succ, List.set_cons_zero, List.set_cons_succ, List.map_cons, List.map_nil, List.replicate_succ, List.replicate_zero, List.cons_append, List.nil_append, List.length_cons, List.length_nil, Nat.reduceAdd, Nat.reduceSub, Nat.reduceEqDiff, decide_eq_true_eq, Bool.not_eq_true', Bool.not_false, Bool.not_true, decide_eq_false_iff_not, true_and, and_true, true_or, or_true, reduceIte, Bool.false_eq_true, Int.reduceLT, Int.reduceLE, Nat.reduceLT, Nat.reduceLeDiff, Int.reduceEq, Int.reduceNe, iL_len]
    refine ⟨by rw [lim_is]; omega, ?_⟩
    rw [← iL_app]
    refine join_loop h a rs (acc ++ r) _ P (by rw [List.length_append]; omega) fun c => ?_
    have := hp c
    rw [List.flatten_cons, ← List.append_assoc] at this
    exact this
theorem join_ok {h : List Cell} {P : Dv → List Cell → Prop} {bs : List (List Int)} (hl : (flat bs).length < 900000) (hp : P (.lst (iL (flat bs))) h) : RF (M_law_joined [.lst (bs.map fun b => .lst (iL (frm b)))] h) P := by
  unfold M_law_joined B_law_joined
  simp only [r_bind, r_pure, r_c, r_var, r_bin, r_u, r_test, r_frz, r_nil, r_cons, r_guard, r_tup, r_lst, r_nopart, r_part, r_sl, r_and, r_or, r_not, r_mite, r_andV, r_notV, r_pop, r_app, r_shr', r_call, rf_fun, r_snil, then_nx, then_rt, r_seq, r_drop, r_set, r_own', r_fix', r_to, r_ret, r_if, r_for, r_for0, r_sub, r_par3, r_par, r_frzT, r_frzF, r_it, r_enum, r_rng, r_comp, op_some, op_none, op_ite, op_map, pk_non, pk_bl, pk_int, pk_str, pk_tup, pk_lst, pk_tmp, pk_scr, pk_own, pkO_some, pk_ref, pkR_some, rd_val, rd_own, fz_non, fz_bl, fz_int, fz_str, fz_tup, fz_lst, fz_tmp, fz_ref, fz_scr, gl_own, gO_some, gl_ref, gR_some, sl_own, sl_ref, ab_bl, ai_int, it_tup, it_lst, it_tmp, it_scr, put_n, put_p, put_t, put_int, put_lst, put_tup, own_tmp, fix_own, shr_tmp, ret_nx, ret_rt, add_ii, add_ll, add_tt, sub_ii, mul_ii, mul_li, mul_ti, div_ii, mod_ii, pow_ii, ints_ii, eq_ii, ne_ii, is_non, is_int, is_tup, is_intB, not_non, not_tup, ix_l, ix_t, sl_l, sl_t, sl_s, rev_l, neg_i, len_l, len_t, int_i, abs_i, tup_l, tup_t, lst_l, lst_t, sum_l, toInts_int, zip_tt, rng_1, rng_2, rng_3, isi_int_int, isi_str_int, isi_bool_int, isi_tup_int, isi_tup_tup, isiC_int, isiC_tup, isiA_int, List.getElem?_cons_zero, List.getElem?_cons_succ, List.set_cons_zero, List.set_cons_succ, List.map_cons, List.map_nil, List.replicate_succ, List.replicate_zero, List.cons_append, List.nil_append, List.length_cons, List.length_nil, Nat.reduceAdd, Nat.reduceSub, Nat.reduceEqDiff, decide_eq_true_eq, Bool.not_eq_true', Bool.not_false, Bool.not_true, decide_eq_false_iff_not, true_and, and_true, true_or, or_true, reduceIte, Bool.false_eq_true, Int.reduceLT, Int.reduceLE, Nat.reduceLT, Nat.reduceLeDiff, Int.reduceEq, Int.reduceNe]
  refine ⟨Nat.zero_le _, ?_⟩
  have e : (bs.map fun b => Dv.lst (iL (frm b))) = (bs.map frm).map fun r => Dv.lst (iL r) := by rw [List.map_map] <;> rfl
  rw [e]
  refine join_loop h _ (bs.map frm) [] none _ (by rw [List.length_nil, Nat.zero_add]; exact hl) fun c => ?_
  simp only [r_bind, r_pure, r_c, r_var, r_bin, r_u, r_test, r_frz, r_nil, r_cons, r_guard, r_tup, r_lst, r_nopart, r_part, r_sl, r_and, r_or, r_not, r_mite, r_andV, r_notV, r_pop, r_app, r_shr', r_call, rf_fun, r_snil, then_nx, then_rt, r_seq, r_drop, r_set, r_own', r_fix', r_to, r_ret, r_if, r_for, r_for0, r_sub, r_par3, r_par, r_frzT, r_frzF, r_it, r_enum, r_rng, r_comp, op_some, op_none, op_ite, op_map, pk_non, pk_bl, pk_int, pk_str, pk_tup, pk_lst, pk_tmp, pk_scr, pk_own, pkO_some, pk_ref, pkR_some, rd_val, rd_own, fz_non, fz_bl, fz_int, fz_str, fz_tup, fz_lst, fz_tmp, fz_ref, fz_scr, gl_own, gO_some, gl_ref, gR_some, sl_own, sl_ref, ab_bl, ai_int, it_tup, it_lst, it_tmp, it_scr, put_n, put_p, put_t, put_int, put_lst, put_tup, own_tmp, fix_own, shr_tmp, ret_nx, ret_rt, add_ii, add_ll, add_tt, sub_ii, mul_ii, mul_li, mul_ti, div_ii, mod_ii, pow_ii, ints_ii, eq_ii, ne_ii, is_non, is_int, is_tup, is_intB, not_non, not_tup, ix_l, ix_t, sl_l, sl_t, sl_s, rev_l, neg_i, len_l, len_t, int_i, abs_i, tup_l, tup_t, lst_l, lst_t, sum_l, toInts_int, zip_tt, rng_1, rng_2, rng_3, isi_int_int, isi_str_int, isi_bool_int, isi_tup_int, isi_tup_tup, isiC_int, isiC_tup, isiA_int, List.getElem?_cons_zero, List.getElem?_cons_succ, List.set_cons_zero, List.set_cons_succ, List.map_cons, List.map_nil, List.replicate_succ, List.replicate_zero, List.cons_append, List.nil_append, List.length_cons, List.length_nil, Nat.reduceAdd, Nat.reduceSub, Nat.reduceEqDiff, decide_eq_true_eq, Bool.not_eq_true', Bool.not_false, Bool.not_true, decide_eq_false_iff_not, true_and, and_true, true_or, or_true, reduceIte, Bool.false_eq_true, Int.reduceLT, Int.reduceLE, Nat.reduceLT, Nat.reduceLeDiff, Int.reduceEq, Int.reduceNe]
  exact hp
theorem octv_comp (e : Mir.Env) (i v : Nat) (he : ∀ d : Dv, ((hideE [v] e).set v (some (.val d)))[i]? = some (some (.val (.ref 1)))) : ∀ (k : Nat) (lo : Int) (acc : List Int) (h1 : List Cell) (P : List Dv × List Cell → Prop), Dl h1 → Oc acc → acc.length + k ≤ 300 → (∀ xs h', Oc xs → xs.length ≤ acc.length + k → Dl h' → P (iL xs, h')) →
    OP (compL (putN v) [v] (Mo.pure true) (mCall M_law_octet 1 (mCons (mVar i) mNil)) e (rngD lo 1 k) (iL acc) h1) P
  | 0, lo, acc, h1, P, hd1, ha, hl, hp => hp acc h1 ha (Nat.le_refl _) hd1
  | k + 1, lo, acc, h1, P, hd1, ha, hl, hp => by
    show OP (compL _ _ _ _ _ (.int lo :: rngD (lo + 1) 1 k) _ _) P
    rw [comp_cons]
    simp only [r_bind, r_pure, r_c, r_var, r_bin, r_u, r_test, r_frz, r_nil, r_cons, r_guard, r_tup, r_lst, r_nopart, r_part, r_sl, r_and, r_or, r_not, r_mite, r_andV, r_notV, r_pop, r_app, r_shr', r_call, rf_fun, r_snil, then_nx, then_rt, r_seq, r_drop, r_set, r_own', r_fix', r_to, r_ret, r_if, r_for, r_for0, r_sub, r_par3, r_par, r_frzT, r_frzF, r_it, r_enum, r_rng, r_comp, op_some, op_none, op_ite, op_map, pk_non, pk_bl, pk_int, pk_str, pk_tup, pk_lst, pk_tmp, pk_scr, pk_own, pkO_some, pk_ref, pkR_some, rd_val, rd_own, fz_non, fz_bl, fz_int, fz_str, fz_tup, fz_lst, fz_tmp, fz_ref, fz_scr, gl_own, gO_some, gl_ref, gR_some, sl_own, sl_ref, ab_bl, ai_int, it_tup, it_lst, it_tmp, it_scr, put_n, put_p, put_t, put_int, put_lst, put_tup, own_tmp, fix_own, shr_tmp, ret_nx, ret_rt, add_ii, add_ll, add_tt, sub_ii, mul_ii, mul_li, mul_ti, div_ii, mod_ii, pow_ii, ints_ii, eq_ii, ne_ii, is_non, is_int, is_tup, is_intB, not_non, not_tup, ix_l, ix_t, sl_l, sl_t, sl_s, rev_l, neg_i, len_l, len_t, int_i, abs_i, tup_l, tup_t, lst_l, lst_t, sum_l, toInts_int, zip_tt, rng_1, rng_2, rng_3, isi_int_int, isi_str_int, isi_bool_int, isi_tup_int, isi_tup_tup, isiC_int, isiC_tup, isiA_int, List.getElem?_cons_zero, List.getElem?_cons_succ, List.set_cons_zero, List.set_cons_succ, List.map_cons, List.map_nil, List.replicate_succ, List.replicate_zero, List.cons_append, List.nil_append, List.length_cons, List.length_nil, Nat.reduceAdd, Nat.reduceSub, Nat.reduceEqDiff, decide_eq_true_eq, Bool.not_eq_true', Bool.not_false, Bool.not_true, decide_eq_false_iff_not, true_and, and_true, true_or, or_true, reduceIte, Bool.false_eq_true, Int.reduceLT, Int.reduceLE, Nat.reduceLT, Nat.reduceLeDiff, Int.reduceEq, Int.reduceNe, he]
    refine oct_ok hd1 fun x h2 hx0 hx1 hd2 => ?_
    simp only [r_bind, r_pure, r_c, r_var, r_bin, r_u, r_test, r_frz, r_nil, r_cons, r_guard, r_tup, r_lst, r_nopart, r_part, r_sl, r_and, r_or, r_not, r_mite, r_andV, r_notV, r_pop, r_app, r_shr', r_call, rf_fun, r_snil, then_nx, then_rt, r_seq, r_drop, r_set, r_own', r_fix', r_to, r_ret, r_if, r_for, r_for0, r_sub, r_par3, r_par, r_frzT, r_frzF, r_it, r_enum, r_rng, r_comp, op_some, op_none, op_ite, op_map, pk_non, pk_bl, pk_int, pk_str, pk_tup, pk_lst, pk_tmp, pk_scr, pk_own, pkO_some, pk_ref, pkR_some, rd_val, rd_own, fz_non, fz_bl, fz_int, fz_str, fz_tup, fz_lst, fz_tmp, fz_ref, fz_scr, gl_own, gO_some, gl_ref, gR_some, sl_own, sl_ref, ab_bl, ai_int, it_tup, it_lst, it_tmp, it_scr, put_n, put_p, put_t, put_int, put_lst, put_tup, own_tmp, fix_own, shr_tmp, ret_nx, ret_rt, add_ii, add_ll, add_tt, sub_ii, mul_ii, mul_li, mul_ti, div_ii, mod_ii, pow_ii, ints_ii, eq_ii, ne_ii, is_non, is_int, is_tup, is_intB, not_non, not_tup, ix_l, ix_t, sl_l, sl_t, sl_s, rev_l, neg_i, len_l, len_t, int_i, abs_i, tup_l, tup_t, lst_l, lst_t, sum_l, toInts_int, zip_tt, rng_1, rng_2, rng_3, isi_int_int, isi_str_int, isi_bool_int, isi_tup_int, isi_tup_tup, isiC_int, isiC_tup, isiA_int, List.getElem?_cons_zero, List.getElem?_cons_succ, List.set_cons_zero, List.set_cons_succ, List.map_cons, List.map_nil, List.replicate_succ, List.replicate_zero, List.cons_append, List.nil_append, List.length_cons, List.length_nil, Nat.reduceAdd, Nat.reduceSub, Nat.reduceEqDiff, decide_eq_true_eq, Bool.not_eq_true', Bool.not_false, Bool.not_true, decide_eq_false_iff_not, true_and, and_true, true_or, or_true, reduceIte, Bool.false_eq_true, Int.reduceLT, Int.reduceLE, Nat.reduceLT, Nat.reduceLeDiff, Int.reduceEq, Int.reduceNe]
    refine ⟨by rw [iL_len, lim_is]; omega, ?_⟩
    have e2 : iL acc ++ [Dv.int x] = iL (acc ++ [x]) := by rw [iL_app] <;> rfl
    rw [e2]
    exact octv_comp e i v he k (lo + 1) _ h2 P hd2 (oc_app ha (oc_one hx0 hx1)) (by rw [List.length_append, List.length_singleton]; omega) fun xs h' q1 q2 q3 => hp xs h' q1 (by rw [List.length_append, List.length_singleton] at q2; omega) q3
theorem frS_sz {rest b : List Int} {k : Nat} (ho : Oc rest) (h : frS rest = some (b, k)) : b.length + 3 ≤ k := by
  unfold frS at h
  cases hr : numL rest with
  | none => rw [hr] at h; cases h
  | some q =>
    obtain ⟨v, k'⟩ := q
    rw [hr] at h
    dsimp only at h
    obtain ⟨hv, hk1, hk2⟩ := numL_facts ho hr
    split at h
    · cases h
    · split at h
      · cases h
        rw [List.length_take, List.length_drop]
        omega
      · cases h
def tups (bs : List (List Int)) : List Dv := bs.map fun b => .tup (iL b)
theorem pls_tups : ∀ bs : List (List Int), Pls (tups bs)
  | [] => trivial
  | b :: r => ⟨pl_tL b, pls_tups r⟩
theorem frs_sz : ∀ (f : Nat) (rest : List Int), Oc rest → szs (tups (frsS f rest).1) ≤ rest.length
  | 0, _, _ => Nat.zero_le _
  | f + 1, rest, ho => by
    unfold frsS
    cases hr : frS rest with
    | none => exact Nat.zero_le _
    | some q =>
      obtain ⟨b, k⟩ := q
      have hk := frS_facts ho hr
      have hs := frS_sz ho hr
      have := frs_sz f (rest.drop k) (oc_drop ho)
      rw [List.length_drop] at this
      show sz (.tup (iL b)) + szs (tups (frsS f (rest.drop k)).1) ≤ _
      rw [sz_tL]
      omega
theorem frsD_good {os : List Int} (ho : Oc os) (hl : os.length < 900000) (f : Nat) : Pl (frsD (frsS f os)) ∧ sz (frsD (frsS f os)) ≤ 1000000 := by
  refine ⟨⟨pls_tups _, trivial, trivial⟩, ?_⟩
  have := frs_sz f os ho
  unfold frsD
  simp only [sz, szs]
  unfold tups at this
  omega
end K74

set_option Elab.async false
set_option linter.all false
set_option maxRecDepth 100000
set_option maxHeartbeats 8000000
namespace K74
open PySem PySem.Spec L2 Mir
/-- row of each -/
theorem rows_row {e : Mir.Env} {h : List Cell} {bs : List (List Int)} {P : List Dv × List Cell → Prop} (he : (hideE [6, 7] e).length = 18) (hl : bs.length < 1000) (hp : P (bs.map fun b => .lst (iL (frm b)), h)) :
    OP (compL (putP 6 7) [6, 7] (Mo.pure true) (mVar 7) e (rowsD bs) [] h) P := by
  have e1 : (rowsD bs).map (fun d => match d with | .tup [a, b] => b | d => d) = bs.map fun b => Dv.lst (iL (frm b)) := by
    unfold rowsD
    rw [List.map_map]
    rfl
  refine comp_map (f := fun d => match d with | .tup [a, b] => b | d => d) (fun d hd => ?_) (by rw [rows_len, List.length_nil, lim_is]; omega) (by rw [List.nil_append, e1]; exact hp)
  obtain ⟨b, _, rfl⟩ := List.mem_map.mp hd
  simp only [r_bind, r_pure, r_c, r_var, r_bin, r_u, r_test, r_frz, r_nil, r_cons, r_guard, r_tup, r_lst, r_nopart, r_part, r_sl, r_and, r_or, r_not, r_mite, r_andV, r_notV, r_pop, r_app, r_shr', r_call, rf_fun, r_snil, then_nx, then_rt, r_seq, r_drop, r_set, r_own', r_fix', r_to, r_ret, r_if, r_for, r_for0, r_sub, r_par3, r_par, r_frzT, r_frzF, r_it, r_enum, r_rng, r_comp, op_some, op_none, op_ite, op_map, pk_non, pk_bl, pk_int, pk_str, pk_tup, pk_lst, pk_tmp, pk_scr, pk_own, pkO_some, pk_ref, pkR_some, rd_val, rd_own, fz_non, fz_bl, fz_int, fz_str, fz_tup, fz_lst, fz_tmp, fz_ref, fz_scr, gl_own, gO_some, gl_ref, gR_some, sl_own, sl_ref, ab_bl, ai_int, it_tup, it_lst, it_tmp, it_scr, put_n, put_p, put_t, put_int, put_lst, put_tup, own_tmp, fix_own, shr_tmp, ret_nx, ret_rt, add_ii, add_ll, add_tt, sub_ii, mul_ii, mul_li, mul_ti, div_ii, mod_ii, pow_ii, ints_ii, eq_ii, ne_ii, is_non, is_int, is_tup, is_intB, not_non, not_tup, ix_l, ix_t, sl_l, sl_t, sl_s, rev_l, neg_i, len_l, len_t, int_i, abs_i, tup_l, tup_t, lst_l, lst_t, sum_l, toInts_int, zip_tt, rng_1, rng_2, rng_3, isi_int_int, isi_str_int, isi_bool_int, isi_tup_int, isi_tup_tup, isiC_int, isiC_tup, isiA_int, List.getElem?_cons_zero, List.getElem?_cons_succ, List.set_cons_zero, List.set_cons_succ, List.map_cons, List.map_nil, List.replicate_succ, List.replicate_zero, List.cons_append, List.nil_append, List.length_cons, List.length_nil, Nat.reduceAdd, Nat.reduceSub, Nat.reduceEqDiff, decide_eq_true_eq, Bool.not_eq_true', Bool.not_false, Bool.not_true, decide_eq_false_iff_not, true_and, and_true, true_or, or_true, reduceIte, Bool.false_eq_true, Int.reduceLT, Int.reduceLE, Nat.reduceLT, Nat.reduceLeDiff, Int.reduceEq, Int.reduceNe]
  rw [get_set_eq (by rw [List.length_set, he]; omega)]
  simp only [r_bind, r_pure, r_c, r_var, r_bin, r_u, r_test, r_frz, r_nil, r_cons, r_guard, r_tup, r_lst, r_nopart, r_part, r_sl, r_and, r_or, r_not, r_mite, r_andV, r_notV, r_pop, r_app, r_shr', r_call, rf_fun, r_snil, then_nx, then_rt, r_seq, r_drop, r_set, r_own', r_fix', r_to, r_ret, r_if, r_for, r_for0, r_sub, r_par3, r_par, r_frzT, r_frzF, r_it, r_enum, r_rng, r_comp, op_some, op_none, op_ite, op_map, pk_non, pk_bl, pk_int, pk_str, pk_tup, pk_lst, pk_tmp, pk_scr, pk_own, pkO_some, pk_ref, pkR_some, rd_val, rd_own, fz_non, fz_bl, fz_int, fz_str, fz_tup, fz_lst, fz_tmp, fz_ref, fz_scr, gl_own, gO_some, gl_ref, gR_some, sl_own, sl_ref, ab_bl, ai_int, it_tup, it_lst, it_tmp, it_scr, put_n, put_p, put_t, put_int, put_lst, put_tup, own_tmp, fix_own, shr_tmp, ret_nx, ret_rt, add_ii, add_ll, add_tt, sub_ii, mul_ii, mul_li, mul_ti, div_ii, mod_ii, pow_ii, ints_ii, eq_ii, ne_ii, is_non, is_int, is_tup, is_intB, not_non, not_tup, ix_l, ix_t, sl_l, sl_t, sl_s, rev_l, neg_i, len_l, len_t, int_i, abs_i, tup_l, tup_t, lst_l, lst_t, sum_l, toInts_int, zip_tt, rng_1, rng_2, rng_3, isi_int_int, isi_str_int, isi_bool_int, isi_tup_int, isi_tup_tup, isiC_int, isiC_tup, isiA_int, List.getElem?_cons_zero, List.getElem?_cons_succ, List.set_cons_zero, List.set_cons_succ, List.map_cons, List.map_nil, List.replicate_succ, List.replicate_zero, List.cons_append, List.nil_append, List.length_cons, List.length_nil, Nat.reduceAdd, Nat.reduceSub, Nat.reduceEqDiff, decide_eq_true_eq, Bool.not_eq_true', Bool.not_false, Bool.not_true, decide_eq_false_iff_not, true_and, and_true, true_or, or_true, reduceIte, Bool.false_eq_true, Int.reduceLT, Int.reduceLE, Nat.reduceLT, Nat.reduceLeDiff, Int.reduceEq, Int.reduceNe]
theorem rows_body {e : Mir.Env} {h : List Cell} {bs : List (List Int)} {P : List Dv × List Cell → Prop} (he : (hideE [6, 7] e).length = 18) (hl : bs.length < 1000) (hp : P (tups bs, h)) :
    OP (compL (putP 6 7) [6, 7] (Mo.pure true) (mU gTuple (mVar 6)) e (rowsD bs) [] h) P := by
  have e1 : (rowsD bs).map (fun d => match d with | .tup [.lst a, b] => Dv.tup a | d => d) = tups bs := by
    unfold rowsD tups
    rw [List.map_map]
    rfl
  refine comp_map (f := fun d => match d with | .tup [.lst a, b] => Dv.tup a | d => d) (fun d hd => ?_) (by rw [rows_len, List.length_nil, lim_is]; omega) (by rw [List.nil_append, e1]; exact hp)
  obtain ⟨b, _, rfl⟩ := List.mem_map.mp hd
  simp only [r_bind, r_pure, r_c, r_var, r_bin, r_u, r_test, r_frz, r_nil, r_cons, r_guard, r_tup, r_lst, r_nopart, r_part, r_sl, r_and, r_or, r_not, r_mite, r_andV, r_notV, r_pop, r_app, r_shr', r_call, rf_fun, r_snil, then_nx, then_rt, r_seq, r_drop, r_set, r_own', r_fix', r_to, r_ret, r_if, r_for, r_for0, r_sub, r_par3, r_par, r_frzT, r_frzF, r_it, r_enum, r_rng, r_comp, op_some, op_none, op_ite, op_map, pk_non, pk_bl, pk_int, pk_str, pk_tup, pk_lst, pk_tmp, pk_scr, pk_own, pkO_some, pk_ref, pkR_some, rd_val, rd_own, fz_non, fz_bl, fz_int, fz_str, fz_tup, fz_lst, fz_tmp, fz_ref, fz_scr, gl_own, gO_some, gl_ref, gR_some, sl_own, sl_ref, ab_bl, ai_int, it_tup, it_lst, it_tmp, it_scr, put_n, put_p, put_t, put_int, put_lst, put_tup, own_tmp, fix_own, shr_tmp, ret_nx, ret_rt, add_ii, add_ll, add_tt, sub_ii, mul_ii, mul_li, mul_ti, div_ii, mod_ii, pow_ii, ints_ii, eq_ii, ne_ii, is_non, is_int, is_tup, is_intB, not_non, not_tup, ix_l, ix_t, sl_l, sl_t, sl_s, rev_l, neg_i, len_l, len_t, int_i, abs_i, tup_l, tup_t, lst_l, lst_t, sum_l, toInts_int, zip_tt, rng_1, rng_2, rng_3, isi_int_int, isi_str_int, isi_bool_int, isi_tup_int, isi_tup_tup, isiC_int, isiC_tup, isiA_int, List.getElem?_cons_zero, List.getElem?_cons_succ, List.set_cons_zero, List.set_cons_succ, List.map_cons, List.map_nil, List.replicate_succ, List.replicate_zero, List.cons_append, List.nil_append, List.length_cons, List.length_nil, Nat.reduceAdd, Nat.reduceSub, Nat.reduceEqDiff, decide_eq_true_eq, Bool.not_eq_true', Bool.not_false, Bool.not_true, decide_eq_false_iff_not, true_and, and_true, true_or, or_true, reduceIte, Bool.false_eq_true, Int.reduceLT, Int.reduceLE, Nat.reduceLT, Nat.reduceLeDiff, Int.reduceEq, Int.reduceNe]
  rw [get_set_ne (by decide), get_set_eq (by rw [he]; omega)]
  simp only [r_bind, r_pure, r_c, r_var, r_bin, r_u, r_test, r_frz, r_nil, r_cons, r_guard, r_tup, r_lst, r_nopart, r_part, r_sl, r_and, r_or, r_not, r_mite, r_andV, r_notV, r_pop, r_app, r_shr', r_call, rf_fun, r_snil, then_nx, then_rt, r_seq, r_drop, r_set, r_own', r_fix', r_to, r_ret, r_if, r_for, r_for0, r_sub, r_par3, r_par, r_frzT, r_frzF, r_it, r_enum, r_rng, r_comp, op_some, op_none, op_ite, op_map, pk_non, pk_bl, pk_int, pk_str, pk_tup, pk_lst, pk_tmp, pk_scr, pk_own, pkO_some, pk_ref, pkR_some, rd_val, rd_own, fz_non, fz_bl, fz_int, fz_str, fz_tup, fz_lst, fz_tmp, fz_ref, fz_scr, gl_own, gO_some, gl_ref, gR_some, sl_own, sl_ref, ab_bl, ai_int, it_tup, it_lst, it_tmp, it_scr, put_n, put_p, put_t, put_int, put_lst, put_tup, own_tmp, fix_own, shr_tmp, ret_nx, ret_rt, add_ii, add_ll, add_tt, sub_ii, mul_ii, mul_li, mul_ti, div_ii, mod_ii, pow_ii, ints_ii, eq_ii, ne_ii, is_non, is_int, is_tup, is_intB, not_non, not_tup, ix_l, ix_t, sl_l, sl_t, sl_s, rev_l, neg_i, len_l, len_t, int_i, abs_i, tup_l, tup_t, lst_l, lst_t, sum_l, toInts_int, zip_tt, rng_1, rng_2, rng_3, isi_int_int, isi_str_int, isi_bool_int, isi_tup_int, isi_tup_tup, isiC_int, isiC_tup, isiA_int, List.getElem?_cons_zero, List.getElem?_cons_succ, List.set_cons_zero, List.set_cons_succ, List.map_cons, List.map_nil, List.replicate_succ, List.replicate_zero, List.cons_append, List.nil_append, List.length_cons, List.length_nil, Nat.reduceAdd, Nat.reduceSub, Nat.reduceEqDiff, decide_eq_true_eq, Bool.not_eq_true', Bool.not_false, Bool.not_true, decide_eq_false_iff_not, true_and, and_true, true_or, or_true, reduceIte, Bool.false_eq_true, Int.reduceLT, Int.reduceLE, Nat.reduceLT, Nat.reduceLeDiff, Int.reduceEq, Int.reduceNe]
theorem frsD_eq {cs : List (List Int)} {n : Nat} : Dv.tup [Dv.tup (tups cs), Dv.int (n : Int)] = frsD (cs, n) := rfl
theorem fz_frsD {r : List (List Int) × Nat} : frz (frsD r) = some (frsD r) := rfl
theorem wrong_all {d : Dv} (hd : d ∈ [Dv.lst [.int 0, .int 0, .int 1], .lst [.int 1, .int 0, .int 1, .int 0], .lst [.int 0, .int 1, .int 0], .lst [.int 128, .int 0, .int 0, .int 0], .lst [.int 1, .int 5, .int 0, .int 5], .lst [.int 255], .lst [.int 3, .int 1, .int 1, .int 1, .int 6], .lst [.int 2, .int 1, .int 1, .int 3, .int 1]]) :
    ∃ w : List Int, d = .lst (iL w) ∧ Oc w ∧ w.length ≤ 5 := by
  have oc : ∀ w : List Int, (w.all fun x => decide (0 ≤ x ∧ x < 256)) = true → Oc w := fun w h x hx => by
    have := List.all_eq_true.mp h x hx
    exact of_decide_eq_true this
  simp only [List.mem_cons, List.not_mem_nil, or_false] at hd
  rcases hd with rfl | rfl | rfl | rfl | rfl | rfl | rfl | rfl
  · exact ⟨[0, 0, 1], rfl, oc _ (by decide), by decide⟩
  · exact ⟨[1, 0, 1, 0], rfl, oc _ (by decide), by decide⟩
  · exact ⟨[0, 1, 0], rfl, oc _ (by decide), by decide⟩
  · exact ⟨[128, 0, 0, 0], rfl, oc _ (by decide), by decide⟩
  · exact ⟨[1, 5, 0, 5], rfl, oc _ (by decide), by decide⟩
  · exact ⟨[255], rfl, oc _ (by decide), by decide⟩
  · exact ⟨[3, 1, 1, 1, 6], rfl, oc _ (by decide), by decide⟩
  · exact ⟨[2, 1, 1, 3, 1], rfl, oc _ (by decide), by decide⟩
theorem law_l2 (s0 : Option Sl) (bs : List (List Int)) (hb : GB bs) (hb1 : 1 ≤ bs.length) (hb2 : bs.length ≤ 7) (e15 e16 e17 : Option Sl) : ∀ (n : Nat) (lo : Nat) (ds : List Dv) (e2 e6 e7 e8 e9 e10 e11 e12 e13 e14 : Option Sl) (h : List Cell) (P : Fl → Mem → Prop), Dl h → Gd ds → ds.length + 4 * n ≤ 100 →
    (∀ (ds' : List Dv) (e2 e6 e7 e8 e9 e10 e11 e12 e13 e14 : Option Sl) (h : List Cell), Dl h → Gd ds' → ds'.length ≤ ds.length + 4 * n → P .nx ⟨[s0, some (.val (.ref 1)), e2, some (.val (.lst (iL (flat bs)))), some (.own (dbl ds')), some (.val (.lst (rowsD bs))), e6, e7, e8, e9, e10, e11, e12, e13, e14, e15, e16, e17], h⟩) →
    R (forS (putN 2) F_law1 (rngD lo 1 n)) ⟨[s0, some (.val (.ref 1)), e2, some (.val (.lst (iL (flat bs)))), some (.own (dbl ds)), some (.val (.lst (rowsD bs))), e6, e7, e8, e9, e10, e11, e12, e13, e14, e15, e16, e17], h⟩ P
  | 0, lo, ds, e2, e6, e7, e8, e9, e10, e11, e12, e13, e14, h, P, hd, hg, _, hp => hp ds e2 e6 e7 e8 e9 e10 e11 e12 e13 e14 h hd hg (Nat.le_refl _)
  | n + 1, lo, ds, e2, e6, e7, e8, e9, e10, e11, e12, e13, e14, h, P, hd, hg, hl1, hp => by
    show R (forS _ _ (.int lo :: rngD ((lo : Int) + 1) 1 n)) _ P
    rw [r_for1]
    generalize hF : forS (putN 2) F_law1 (rngD ((lo : Int) + 1) 1 n) = rst
    have hfl : ∀ cs : List (List Int), GB cs → (flat cs).length ≤ 304 * cs.length := fun cs h => flat_len fun b hb => (h b hb).2
    have hfo : ∀ cs : List (List Int), GB cs → Oc (flat cs) := fun cs h => flat_oc fun b hb => (h b hb).1
    have hfl0 := hfl bs hb
    unfold F_law1
    simp only [r_bind, r_pure, r_c, r_var, r_bin, r_u, r_test, r_frz, r_nil, r_cons, r_guard, r_tup, r_lst, r_nopart, r_part, r_sl, r_and, r_or, r_not, r_mite, r_andV, r_notV, r_pop, r_app, r_shr', r_call, rf_fun, r_snil, then_nx, then_rt, r_seq, r_drop, r_set, r_own', r_fix', r_to, r_ret, r_if, r_for, r_for0, r_sub, r_par3, r_par, r_frzT, r_frzF, r_it, r_enum, r_rng, r_comp, op_some, op_none, op_ite, op_map, pk_non, pk_bl, pk_int, pk_str, pk_tup, pk_lst, pk_tmp, pk_scr, pk_own, pkO_some, pk_ref, pkR_some, rd_val, rd_own, fz_non, fz_bl, fz_int, fz_str, fz_tup, fz_lst, fz_tmp, fz_ref, fz_scr, gl_own, gO_some, gl_ref, gR_some, sl_own, sl_ref, ab_bl, ai_int, it_tup, it_lst, it_tmp, it_scr, put_n, put_p, put_t, put_int, put_lst, put_tup, own_tmp, fix_own, shr_tmp, ret_nx, ret_rt, add_ii, add_ll, add_tt, sub_ii, mul_ii, mul_li, mul_ti, div_ii, mod_ii, pow_ii, ints_ii, eq_ii, ne_ii, is_non, is_int, is_tup, is_intB, not_non, not_tup, ix_l, ix_t, sl_l, sl_t, sl_s, rev_l, neg_i, len_l, len_t, int_i, abs_i, tup_l, tup_t, lst_l, lst_t, sum_l, toInts_int, zip_tt, rng_1, rng_2, rng_3, isi_int_int, isi_str_int, isi_bool_int, isi_tup_int, isi_tup_tup, isiC_int, isiC_tup, isiA_int, List.getElem?_cons_zero, List.getElem?_cons_succ, List.set_cons_zero, List.set_cons_succ, List.map_cons, List.map_nil, List.replicate_succ, List.replicate_zero, List.cons_append, List.nil_append, List.length_cons, List.length_nil, Nat.reduceAdd, Nat.reduceSub, Nat.reduceEqDiff, decide_eq_true_eq, Bool.not_eq_true', Bool.not_false, Bool.not_true, decide_eq_false_iff_not, true_and, and_true, true_or, or_true, reduceIte, Bool.false_eq_true, Int.reduceLT, Int.reduceLE, Nat.reduceLT, Nat.reduceLeDiff, Int.reduceEq, Int.reduceNe, rows_len]
    refine any_ok hd (by omega) (by omega) fun k1 h1 hk1 hk1' hd1 => ?_
    obtain ⟨m, rfl⟩ : ∃ m : Nat, k1 = m := ⟨k1.toNat, by omega⟩
    have hm : m < bs.length := by omega
    have hrow : (rowsD bs)[m]? = some (.tup [.lst (iL bs[m]), .lst (iL (frm bs[m]))]) := by
      unfold rowsD
      rw [List.getElem?_map, List.getElem?_eq_getElem hm]
      rfl
    have hbm := hb bs[m] (List.getElem_mem hm)
    have hbt : GB (bs.take m) := gb_take hb
    have hlt : (bs.take m).length = m := by rw [List.length_take]; omega
    have hflt := hfl _ hbt
    have e304 := frm_len300 hbm.2
    have hsucc : bs.take (m + 1) = bs.take m ++ [bs[m]] := (List.take_append_getElem hm).symm
    have hfs : flat (bs.take (m + 1)) = flat (bs.take m) ++ frm bs[m] := by
      rw [hsucc, flat_app]
      congr 1
      simp [flat]
    have em1 : (m : Int) + 1 = ((m + 1 : Nat) : Int) := by omega
    simp only [r_bind, r_pure, r_c, r_var, r_bin, r_u, r_test, r_frz, r_nil, r_cons, r_guard, r_tup, r_lst, r_nopart, r_part, r_sl, r_and, r_or, r_not, r_mite, r_andV, r_notV, r_pop, r_app, r_shr', r_call, rf_fun, r_snil, then_nx, then_rt, r_seq, r_drop, r_set, r_own', r_fix', r_to, r_ret, r_if, r_for, r_for0, r_sub, r_par3, r_par, r_frzT, r_frzF, r_it, r_enum, r_rng, r_comp, op_some, op_none, op_ite, op_map, pk_non, pk_bl, pk_int, pk_str, pk_tup, pk_lst, pk_tmp, pk_scr, pk_own, pkO_some, pk_ref, pkR_some, rd_val, rd_own, fz_non, fz_bl, fz_int, fz_str, fz_tup, fz_lst, fz_tmp, fz_ref, fz_scr, gl_own, gO_some, gl_ref, gR_some, sl_own, sl_ref, ab_bl, ai_int, it_tup, it_lst, it_tmp, it_scr, put_n, put_p, put_t, put_int, put_lst, put_tup, own_tmp, fix_own, shr_tmp, ret_nx, ret_rt, add_ii, add_ll, add_tt, sub_ii, mul_ii, mul_li, mul_ti, div_ii, mod_ii, pow_ii, ints_ii, eq_ii, ne_ii, is_non, is_int, is_tup, is_intB, not_non, not_tup, ix_l, ix_t, sl_l, sl_t, sl_s, rev_l, neg_i, len_l, len_t, int_i, abs_i, tup_l, tup_t, lst_l, lst_t, sum_l, toInts_int, zip_tt, rng_1, rng_2, rng_3, isi_int_int, isi_str_int, isi_bool_int, isi_tup_int, isi_tup_tup, isiC_int, isiC_tup, isiA_int, List.getElem?_cons_zero, List.getElem?_cons_succ, List.set_cons_zero, List.set_cons_succ, List.map_cons, List.map_nil, List.replicate_succ, List.replicate_zero, List.cons_append, List.nil_append, List.length_cons, List.length_nil, Nat.reduceAdd, Nat.reduceSub, Nat.reduceEqDiff, decide_eq_true_eq, Bool.not_eq_true', Bool.not_false, Bool.not_true, decide_eq_false_iff_not, true_and, and_true, true_or, or_true, reduceIte, Bool.false_eq_true, Int.reduceLT, Int.reduceLE, Nat.reduceLT, Nat.reduceLeDiff, Int.reduceEq, Int.reduceNe, cut_on, rows_take]
    refine rows_row rfl (by omega) ?_
    simp only [r_bind, r_pure, r_c, r_var, r_bin, r_u, r_test, r_frz, r_nil, r_cons, r_guard, r_tup, r_lst, r_nopart, r_part, r_sl, r_and, r_or, r_not, r_mite, r_andV, r_notV, r_pop, r_app, r_shr', r_call, rf_fun, r_snil, then_nx, then_rt, r_seq, r_drop, r_set, r_own', r_fix', r_to, r_ret, r_if, r_for, r_for0, r_sub, r_par3, r_par, r_frzT, r_frzF, r_it, r_enum, r_rng, r_comp, op_some, op_none, op_ite, op_map, pk_non, pk_bl, pk_int, pk_str, pk_tup, pk_lst, pk_tmp, pk_scr, pk_own, pkO_some, pk_ref, pkR_some, rd_val, rd_own, fz_non, fz_bl, fz_int, fz_str, fz_tup, fz_lst, fz_tmp, fz_ref, fz_scr, gl_own, gO_some, gl_ref, gR_some, sl_own, sl_ref, ab_bl, ai_int, it_tup, it_lst, it_tmp, it_scr, put_n, put_p, put_t, put_int, put_lst, put_tup, own_tmp, fix_own, shr_tmp, ret_nx, ret_rt, add_ii, add_ll, add_tt, sub_ii, mul_ii, mul_li, mul_ti, div_ii, mod_ii, pow_ii, ints_ii, eq_ii, ne_ii, is_non, is_int, is_tup, is_intB, not_non, not_tup, ix_l, ix_t, sl_l, sl_t, sl_s, rev_l, neg_i, len_l, len_t, int_i, abs_i, tup_l, tup_t, lst_l, lst_t, sum_l, toInts_int, zip_tt, rng_1, rng_2, rng_3, isi_int_int, isi_str_int, isi_bool_int, isi_tup_int, isi_tup_tup, isiC_int, isiC_tup, isiA_int, List.getElem?_cons_zero, List.getElem?_cons_succ, List.set_cons_zero, List.set_cons_succ, List.map_cons, List.map_nil, List.replicate_succ, List.replicate_zero, List.cons_append, List.nil_append, List.length_cons, List.length_nil, Nat.reduceAdd, Nat.reduceSub, Nat.reduceEqDiff, decide_eq_true_eq, Bool.not_eq_true', Bool.not_false, Bool.not_true, decide_eq_false_iff_not, true_and, and_true, true_or, or_true, reduceIte, Bool.false_eq_true, Int.reduceLT, Int.reduceLE, Nat.reduceLT, Nat.reduceLeDiff, Int.reduceEq, Int.reduceNe]
    refine join_ok (by omega) ?_
    simp only [r_bind, r_pure, r_c, r_var, r_bin, r_u, r_test, r_frz, r_nil, r_cons, r_guard, r_tup, r_lst, r_nopart, r_part, r_sl, r_and, r_or, r_not, r_mite, r_andV, r_notV, r_pop, r_app, r_shr', r_call, rf_fun, r_snil, then_nx, then_rt, r_seq, r_drop, r_set, r_own', r_fix', r_to, r_ret, r_if, r_for, r_for0, r_sub, r_par3, r_par, r_frzT, r_frzF, r_it, r_enum, r_rng, r_comp, op_some, op_none, op_ite, op_map, pk_non, pk_bl, pk_int, pk_str, pk_tup, pk_lst, pk_tmp, pk_scr, pk_own, pkO_some, pk_ref, pkR_some, rd_val, rd_own, fz_non, fz_bl, fz_int, fz_str, fz_tup, fz_lst, fz_tmp, fz_ref, fz_scr, gl_own, gO_some, gl_ref, gR_some, sl_own, sl_ref, ab_bl, ai_int, it_tup, it_lst, it_tmp, it_scr, put_n, put_p, put_t, put_int, put_lst, put_tup, own_tmp, fix_own, shr_tmp, ret_nx, ret_rt, add_ii, add_ll, add_tt, sub_ii, mul_ii, mul_li, mul_ti, div_ii, mod_ii, pow_ii, ints_ii, eq_ii, ne_ii, is_non, is_int, is_tup, is_intB, not_non, not_tup, ix_l, ix_t, sl_l, sl_t, sl_s, rev_l, neg_i, len_l, len_t, int_i, abs_i, tup_l, tup_t, lst_l, lst_t, sum_l, toInts_int, zip_tt, rng_1, rng_2, rng_3, isi_int_int, isi_str_int, isi_bool_int, isi_tup_int, isi_tup_tup, isiC_int, isiC_tup, isiA_int, List.getElem?_cons_zero, List.getElem?_cons_succ, List.set_cons_zero, List.set_cons_succ, List.map_cons, List.map_nil, List.replicate_succ, List.replicate_zero, List.cons_append, List.nil_append, List.length_cons, List.length_nil, Nat.reduceAdd, Nat.reduceSub, Nat.reduceEqDiff, decide_eq_true_eq, Bool.not_eq_true', Bool.not_false, Bool.not_true, decide_eq_false_iff_not, true_and, and_true, true_or, or_true, reduceIte, Bool.false_eq_true, Int.reduceLT, Int.reduceLE, Nat.reduceLT, Nat.reduceLeDiff, Int.reduceEq, Int.reduceNe, at_nat, hrow, at_1, iL_len]
    have hfrl := frm_len bs[m]
    refine any_ok hd1 (by omega) (by omega) fun k2 h2 hk2 hk2' hd2 => ?_
    obtain ⟨j, rfl⟩ : ∃ j : Nat, k2 = j := ⟨k2.toNat, by omega⟩
    have hofl : Oc (flat (bs.take m)) := hfo _ hbt
    have hofm : Oc (frm bs[m]) := frm_oc hbm.1
    simp only [r_bind, r_pure, r_c, r_var, r_bin, r_u, r_test, r_frz, r_nil, r_cons, r_guard, r_tup, r_lst, r_nopart, r_part, r_sl, r_and, r_or, r_not, r_mite, r_andV, r_notV, r_pop, r_app, r_shr', r_call, rf_fun, r_snil, then_nx, then_rt, r_seq, r_drop, r_set, r_own', r_fix', r_to, r_ret, r_if, r_for, r_for0, r_sub, r_par3, r_par, r_frzT, r_frzF, r_it, r_enum, r_rng, r_comp, op_some, op_none, op_ite, op_map, pk_non, pk_bl, pk_int, pk_str, pk_tup, pk_lst, pk_tmp, pk_scr, pk_own, pkO_some, pk_ref, pkR_some, rd_val, rd_own, fz_non, fz_bl, fz_int, fz_str, fz_tup, fz_lst, fz_tmp, fz_ref, fz_scr, gl_own, gO_some, gl_ref, gR_some, sl_own, sl_ref, ab_bl, ai_int, it_tup, it_lst, it_tmp, it_scr, put_n, put_p, put_t, put_int, put_lst, put_tup, own_tmp, fix_own, shr_tmp, ret_nx, ret_rt, add_ii, add_ll, add_tt, sub_ii, mul_ii, mul_li, mul_ti, div_ii, mod_ii, pow_ii, ints_ii, eq_ii, ne_ii, is_non, is_int, is_tup, is_intB, not_non, not_tup, ix_l, ix_t, sl_l, sl_t, sl_s, rev_l, neg_i, len_l, len_t, int_i, abs_i, tup_l, tup_t, lst_l, lst_t, sum_l, toInts_int, zip_tt, rng_1, rng_2, rng_3, isi_int_int, isi_str_int, isi_bool_int, isi_tup_int, isi_tup_tup, isiC_int, isiC_tup, isiA_int, List.getElem?_cons_zero, List.getElem?_cons_succ, List.set_cons_zero, List.set_cons_succ, List.map_cons, List.map_nil, List.replicate_succ, List.replicate_zero, List.cons_append, List.nil_append, List.length_cons, List.length_nil, Nat.reduceAdd, Nat.reduceSub, Nat.reduceEqDiff, decide_eq_true_eq, Bool.not_eq_true', Bool.not_false, Bool.not_true, decide_eq_false_iff_not, true_and, and_true, true_or, or_true, reduceIte, Bool.false_eq_true, Int.reduceLT, Int.reduceLE, Nat.reduceLT, Nat.reduceLeDiff, Int.reduceEq, Int.reduceNe, cut_on, iL_take, ← iL_app, lim_is, em1, rows_take]
    have hljt : ((frm bs[m]).take j).length ≤ 304 := by rw [List.length_take]; omega
    refine ⟨by rw [iL_len]; omega, frames_ok (oc_app hofl (oc_take hofm)) (by rw [List.length_append]; omega) ?_⟩
    rw [flat_take _ _ (frS_cut _ _ (by omega))]
    simp only [r_bind, r_pure, r_c, r_var, r_bin, r_u, r_test, r_frz, r_nil, r_cons, r_guard, r_tup, r_lst, r_nopart, r_part, r_sl, r_and, r_or, r_not, r_mite, r_andV, r_notV, r_pop, r_app, r_shr', r_call, rf_fun, r_snil, then_nx, then_rt, r_seq, r_drop, r_set, r_own', r_fix', r_to, r_ret, r_if, r_for, r_for0, r_sub, r_par3, r_par, r_frzT, r_frzF, r_it, r_enum, r_rng, r_comp, op_some, op_none, op_ite, op_map, pk_non, pk_bl, pk_int, pk_str, pk_tup, pk_lst, pk_tmp, pk_scr, pk_own, pkO_some, pk_ref, pkR_some, rd_val, rd_own, fz_non, fz_bl, fz_int, fz_str, fz_tup, fz_lst, fz_tmp, fz_ref, fz_scr, gl_own, gO_some, gl_ref, gR_some, sl_own, sl_ref, ab_bl, ai_int, it_tup, it_lst, it_tmp, it_scr, put_n, put_p, put_t, put_int, put_lst, put_tup, own_tmp, fix_own, shr_tmp, ret_nx, ret_rt, add_ii, add_ll, add_tt, sub_ii, mul_ii, mul_li, mul_ti, div_ii, mod_ii, pow_ii, ints_ii, eq_ii, ne_ii, is_non, is_int, is_tup, is_intB, not_non, not_tup, ix_l, ix_t, sl_l, sl_t, sl_s, rev_l, neg_i, len_l, len_t, int_i, abs_i, tup_l, tup_t, lst_l, lst_t, sum_l, toInts_int, zip_tt, rng_1, rng_2, rng_3, isi_int_int, isi_str_int, isi_bool_int, isi_tup_int, isi_tup_tup, isiC_int, isiC_tup, isiA_int, List.getElem?_cons_zero, List.getElem?_cons_succ, List.set_cons_zero, List.set_cons_succ, List.map_cons, List.map_nil, List.replicate_succ, List.replicate_zero, List.cons_append, List.nil_append, List.length_cons, List.length_nil, Nat.reduceAdd, Nat.reduceSub, Nat.reduceEqDiff, decide_eq_true_eq, Bool.not_eq_true', Bool.not_false, Bool.not_true, decide_eq_false_iff_not, true_and, and_true, true_or, or_true, reduceIte, Bool.false_eq_true, Int.reduceLT, Int.reduceLE, Nat.reduceLT, Nat.reduceLeDiff, Int.reduceEq, Int.reduceNe, fz_frsD]
    refine rows_body rfl (by omega) ?_
    simp only [r_bind, r_pure, r_c, r_var, r_bin, r_u, r_test, r_frz, r_nil, r_cons, r_guard, r_tup, r_lst, r_nopart, r_part, r_sl, r_and, r_or, r_not, r_mite, r_andV, r_notV, r_pop, r_app, r_shr', r_call, rf_fun, r_snil, then_nx, then_rt, r_seq, r_drop, r_set, r_own', r_fix', r_to, r_ret, r_if, r_for, r_for0, r_sub, r_par3, r_par, r_frzT, r_frzF, r_it, r_enum, r_rng, r_comp, op_some, op_none, op_ite, op_map, pk_non, pk_bl, pk_int, pk_str, pk_tup, pk_lst, pk_tmp, pk_scr, pk_own, pkO_some, pk_ref, pkR_some, rd_val, rd_own, fz_non, fz_bl, fz_int, fz_str, fz_tup, fz_lst, fz_tmp, fz_ref, fz_scr, gl_own, gO_some, gl_ref, gR_some, sl_own, sl_ref, ab_bl, ai_int, it_tup, it_lst, it_tmp, it_scr, put_n, put_p, put_t, put_int, put_lst, put_tup, own_tmp, fix_own, shr_tmp, ret_nx, ret_rt, add_ii, add_ll, add_tt, sub_ii, mul_ii, mul_li, mul_ti, div_ii, mod_ii, pow_ii, ints_ii, eq_ii, ne_ii, is_non, is_int, is_tup, is_intB, not_non, not_tup, ix_l, ix_t, sl_l, sl_t, sl_s, rev_l, neg_i, len_l, len_t, int_i, abs_i, tup_l, tup_t, lst_l, lst_t, sum_l, toInts_int, zip_tt, rng_1, rng_2, rng_3, isi_int_int, isi_str_int, isi_bool_int, isi_tup_int, isi_tup_tup, isiC_int, isiC_tup, isiA_int, List.getElem?_cons_zero, List.getElem?_cons_succ, List.set_cons_zero, List.set_cons_succ, List.map_cons, List.map_nil, List.replicate_succ, List.replicate_zero, List.cons_append, List.nil_append, List.length_cons, List.length_nil, Nat.reduceAdd, Nat.reduceSub, Nat.reduceEqDiff, decide_eq_true_eq, Bool.not_eq_true', Bool.not_false, Bool.not_true, decide_eq_false_iff_not, true_and, and_true, true_or, or_true, reduceIte, Bool.false_eq_true, Int.reduceLT, Int.reduceLE, Nat.reduceLT, Nat.reduceLeDiff, Int.reduceEq, Int.reduceNe, frsD_eq, dbl_app, dbl_len, lim_is]
    refine ⟨by omega, by omega, frames_ok (oc_app hofl hofm) (by rw [List.length_append]; omega) ?_⟩
    rw [← hfs]
    have hft := flat_take (bs.take (m + 1)) [] frS_nil
    rw [List.append_nil] at hft
    rw [hft]
    simp only [r_bind, r_pure, r_c, r_var, r_bin, r_u, r_test, r_frz, r_nil, r_cons, r_guard, r_tup, r_lst, r_nopart, r_part, r_sl, r_and, r_or, r_not, r_mite, r_andV, r_notV, r_pop, r_app, r_shr', r_call, rf_fun, r_snil, then_nx, then_rt, r_seq, r_drop, r_set, r_own', r_fix', r_to, r_ret, r_if, r_for, r_for0, r_sub, r_par3, r_par, r_frzT, r_frzF, r_it, r_enum, r_rng, r_comp, op_some, op_none, op_ite, op_map, pk_non, pk_bl, pk_int, pk_str, pk_tup, pk_lst, pk_tmp, pk_scr, pk_own, pkO_some, pk_ref, pkR_some, rd_val, rd_own, fz_non, fz_bl, fz_int, fz_str, fz_tup, fz_lst, fz_tmp, fz_ref, fz_scr, gl_own, gO_some, gl_ref, gR_some, sl_own, sl_ref, ab_bl, ai_int, it_tup, it_lst, it_tmp, it_scr, put_n, put_p, put_t, put_int, put_lst, put_tup, own_tmp, fix_own, shr_tmp, ret_nx, ret_rt, add_ii, add_ll, add_tt, sub_ii, mul_ii, mul_li, mul_ti, div_ii, mod_ii, pow_ii, ints_ii, eq_ii, ne_ii, is_non, is_int, is_tup, is_intB, not_non, not_tup, ix_l, ix_t, sl_l, sl_t, sl_s, rev_l, neg_i, len_l, len_t, int_i, abs_i, tup_l, tup_t, lst_l, lst_t, sum_l, toInts_int, zip_tt, rng_1, rng_2, rng_3, isi_int_int, isi_str_int, isi_bool_int, isi_tup_int, isi_tup_tup, isiC_int, isiC_tup, isiA_int, List.getElem?_cons_zero, List.getElem?_cons_succ, List.set_cons_zero, List.set_cons_succ, List.map_cons, List.map_nil, List.replicate_succ, List.replicate_zero, List.cons_append, List.nil_append, List.length_cons, List.length_nil, Nat.reduceAdd, Nat.reduceSub, Nat.reduceEqDiff, decide_eq_true_eq, Bool.not_eq_true', Bool.not_false, Bool.not_true, decide_eq_false_iff_not, true_and, and_true, true_or, or_true, reduceIte, Bool.false_eq_true, Int.reduceLT, Int.reduceLE, Nat.reduceLT, Nat.reduceLeDiff, Int.reduceEq, Int.reduceNe, fz_frsD]
    refine rows_body rfl (by rw [List.length_take]; omega) ?_
    simp only [r_bind, r_pure, r_c, r_var, r_bin, r_u, r_test, r_frz, r_nil, r_cons, r_guard, r_tup, r_lst, r_nopart, r_part, r_sl, r_and, r_or, r_not, r_mite, r_andV, r_notV, r_pop, r_app, r_shr', r_call, rf_fun, r_snil, then_nx, then_rt, r_seq, r_drop, r_set, r_own', r_fix', r_to, r_ret, r_if, r_for, r_for0, r_sub, r_par3, r_par, r_frzT, r_frzF, r_it, r_enum, r_rng, r_comp, op_some, op_none, op_ite, op_map, pk_non, pk_bl, pk_int, pk_str, pk_tup, pk_lst, pk_tmp, pk_scr, pk_own, pkO_some, pk_ref, pkR_some, rd_val, rd_own, fz_non, fz_bl, fz_int, fz_str, fz_tup, fz_lst, fz_tmp, fz_ref, fz_scr, gl_own, gO_some, gl_ref, gR_some, sl_own, sl_ref, ab_bl, ai_int, it_tup, it_lst, it_tmp, it_scr, put_n, put_p, put_t, put_int, put_lst, put_tup, own_tmp, fix_own, shr_tmp, ret_nx, ret_rt, add_ii, add_ll, add_tt, sub_ii, mul_ii, mul_li, mul_ti, div_ii, mod_ii, pow_ii, ints_ii, eq_ii, ne_ii, is_non, is_int, is_tup, is_intB, not_non, not_tup, ix_l, ix_t, sl_l, sl_t, sl_s, rev_l, neg_i, len_l, len_t, int_i, abs_i, tup_l, tup_t, lst_l, lst_t, sum_l, toInts_int, zip_tt, rng_1, rng_2, rng_3, isi_int_int, isi_str_int, isi_bool_int, isi_tup_int, isi_tup_tup, isiC_int, isiC_tup, isiA_int, List.getElem?_cons_zero, List.getElem?_cons_succ, List.set_cons_zero, List.set_cons_succ, List.map_cons, List.map_nil, List.replicate_succ, List.replicate_zero, List.cons_append, List.nil_append, List.length_cons, List.length_nil, Nat.reduceAdd, Nat.reduceSub, Nat.reduceEqDiff, decide_eq_true_eq, Bool.not_eq_true', Bool.not_false, Bool.not_true, decide_eq_false_iff_not, true_and, and_true, true_or, or_true, reduceIte, Bool.false_eq_true, Int.reduceLT, Int.reduceLE, Nat.reduceLT, Nat.reduceLeDiff, Int.reduceEq, Int.reduceNe, frsD_eq, dbl_app, dbl_len, lim_is, List.length_append, iL_len]
    refine ⟨by omega, by omega, bent_ok hd2 (hfo bs hb) (by omega) fun xs h3 hx1 hx2 hd3 => ?_⟩
    simp only [r_bind, r_pure, r_c, r_var, r_bin, r_u, r_test, r_frz, r_nil, r_cons, r_guard, r_tup, r_lst, r_nopart, r_part, r_sl, r_and, r_or, r_not, r_mite, r_andV, r_notV, r_pop, r_app, r_shr', r_call, rf_fun, r_snil, then_nx, then_rt, r_seq, r_drop, r_set, r_own', r_fix', r_to, r_ret, r_if, r_for, r_for0, r_sub, r_par3, r_par, r_frzT, r_frzF, r_it, r_enum, r_rng, r_comp, op_some, op_none, op_ite, op_map, pk_non, pk_bl, pk_int, pk_str, pk_tup, pk_lst, pk_tmp, pk_scr, pk_own, pkO_some, pk_ref, pkR_some, rd_val, rd_own, fz_non, fz_bl, fz_int, fz_str, fz_tup, fz_lst, fz_tmp, fz_ref, fz_scr, gl_own, gO_some, gl_ref, gR_some, sl_own, sl_ref, ab_bl, ai_int, it_tup, it_lst, it_tmp, it_scr, put_n, put_p, put_t, put_int, put_lst, put_tup, own_tmp, fix_own, shr_tmp, ret_nx, ret_rt, add_ii, add_ll, add_tt, sub_ii, mul_ii, mul_li, mul_ti, div_ii, mod_ii, pow_ii, ints_ii, eq_ii, ne_ii, is_non, is_int, is_tup, is_intB, not_non, not_tup, ix_l, ix_t, sl_l, sl_t, sl_s, rev_l, neg_i, len_l, len_t, int_i, abs_i, tup_l, tup_t, lst_l, lst_t, sum_l, toInts_int, zip_tt, rng_1, rng_2, rng_3, isi_int_int, isi_str_int, isi_bool_int, isi_tup_int, isi_tup_tup, isiC_int, isiC_tup, isiA_int, List.getElem?_cons_zero, List.getElem?_cons_succ, List.set_cons_zero, List.set_cons_succ, List.map_cons, List.map_nil, List.replicate_succ, List.replicate_zero, List.cons_append, List.nil_append, List.length_cons, List.length_nil, Nat.reduceAdd, Nat.reduceSub, Nat.reduceEqDiff, decide_eq_true_eq, Bool.not_eq_true', Bool.not_false, Bool.not_true, decide_eq_false_iff_not, true_and, and_true, true_or, or_true, reduceIte, Bool.false_eq_true, Int.reduceLT, Int.reduceLE, Nat.reduceLT, Nat.reduceLeDiff, Int.reduceEq, Int.reduceNe]
    refine frames_ok hx1 (by omega) ?_
    simp only [r_bind, r_pure, r_c, r_var, r_bin, r_u, r_test, r_frz, r_nil, r_cons, r_guard, r_tup, r_lst, r_nopart, r_part, r_sl, r_and, r_or, r_not, r_mite, r_andV, r_notV, r_pop, r_app, r_shr', r_call, rf_fun, r_snil, then_nx, then_rt, r_seq, r_drop, r_set, r_own', r_fix', r_to, r_ret, r_if, r_for, r_for0, r_sub, r_par3, r_par, r_frzT, r_frzF, r_it, r_enum, r_rng, r_comp, op_some, op_none, op_ite, op_map, pk_non, pk_bl, pk_int, pk_str, pk_tup, pk_lst, pk_tmp, pk_scr, pk_own, pkO_some, pk_ref, pkR_some, rd_val, rd_own, fz_non, fz_bl, fz_int, fz_str, fz_tup, fz_lst, fz_tmp, fz_ref, fz_scr, gl_own, gO_some, gl_ref, gR_some, sl_own, sl_ref, ab_bl, ai_int, it_tup, it_lst, it_tmp, it_scr, put_n, put_p, put_t, put_int, put_lst, put_tup, own_tmp, fix_own, shr_tmp, ret_nx, ret_rt, add_ii, add_ll, add_tt, sub_ii, mul_ii, mul_li, mul_ti, div_ii, mod_ii, pow_ii, ints_ii, eq_ii, ne_ii, is_non, is_int, is_tup, is_intB, not_non, not_tup, ix_l, ix_t, sl_l, sl_t, sl_s, rev_l, neg_i, len_l, len_t, int_i, abs_i, tup_l, tup_t, lst_l, lst_t, sum_l, toInts_int, zip_tt, rng_1, rng_2, rng_3, isi_int_int, isi_str_int, isi_bool_int, isi_tup_int, isi_tup_tup, isiC_int, isiC_tup, isiA_int, List.getElem?_cons_zero, List.getElem?_cons_succ, List.set_cons_zero, List.set_cons_succ, List.map_cons, List.map_nil, List.replicate_succ, List.replicate_zero, List.cons_append, List.nil_append, List.length_cons, List.length_nil, Nat.reduceAdd, Nat.reduceSub, Nat.reduceEqDiff, decide_eq_true_eq, Bool.not_eq_true', Bool.not_false, Bool.not_true, decide_eq_false_iff_not, true_and, and_true, true_or, or_true, reduceIte, Bool.false_eq_true, Int.reduceLT, Int.reduceLE, Nat.reduceLT, Nat.reduceLeDiff, Int.reduceEq, Int.reduceNe, fz_frsD]
    refine due_ok hx1 (by omega) ?_
    simp only [r_bind, r_pure, r_c, r_var, r_bin, r_u, r_test, r_frz, r_nil, r_cons, r_guard, r_tup, r_lst, r_nopart, r_part, r_sl, r_and, r_or, r_not, r_mite, r_andV, r_notV, r_pop, r_app, r_shr', r_call, rf_fun, r_snil, then_nx, then_rt, r_seq, r_drop, r_set, r_own', r_fix', r_to, r_ret, r_if, r_for, r_for0, r_sub, r_par3, r_par, r_frzT, r_frzF, r_it, r_enum, r_rng, r_comp, op_some, op_none, op_ite, op_map, pk_non, pk_bl, pk_int, pk_str, pk_tup, pk_lst, pk_tmp, pk_scr, pk_own, pkO_some, pk_ref, pkR_some, rd_val, rd_own, fz_non, fz_bl, fz_int, fz_str, fz_tup, fz_lst, fz_tmp, fz_ref, fz_scr, gl_own, gO_some, gl_ref, gR_some, sl_own, sl_ref, ab_bl, ai_int, it_tup, it_lst, it_tmp, it_scr, put_n, put_p, put_t, put_int, put_lst, put_tup, own_tmp, fix_own, shr_tmp, ret_nx, ret_rt, add_ii, add_ll, add_tt, sub_ii, mul_ii, mul_li, mul_ti, div_ii, mod_ii, pow_ii, ints_ii, eq_ii, ne_ii, is_non, is_int, is_tup, is_intB, not_non, not_tup, ix_l, ix_t, sl_l, sl_t, sl_s, rev_l, neg_i, len_l, len_t, int_i, abs_i, tup_l, tup_t, lst_l, lst_t, sum_l, toInts_int, zip_tt, rng_1, rng_2, rng_3, isi_int_int, isi_str_int, isi_bool_int, isi_tup_int, isi_tup_tup, isiC_int, isiC_tup, isiA_int, List.getElem?_cons_zero, List.getElem?_cons_succ, List.set_cons_zero, List.set_cons_succ, List.map_cons, List.map_nil, List.replicate_succ, List.replicate_zero, List.cons_append, List.nil_append, List.length_cons, List.length_nil, Nat.reduceAdd, Nat.reduceSub, Nat.reduceEqDiff, decide_eq_true_eq, Bool.not_eq_true', Bool.not_false, Bool.not_true, decide_eq_false_iff_not, true_and, and_true, true_or, or_true, reduceIte, Bool.false_eq_true, Int.reduceLT, Int.reduceLE, Nat.reduceLT, Nat.reduceLeDiff, Int.reduceEq, Int.reduceNe, fz_frsD, dbl_app, dbl_len, lim_is, List.length_append]
    refine ⟨by omega, of_ok hd3 (by decide) (by decide) fun d h4 hdm hd4 => ?_⟩
    obtain ⟨w, rfl, hw1, hw2⟩ := wrong_all hdm
    simp only [r_bind, r_pure, r_c, r_var, r_bin, r_u, r_test, r_frz, r_nil, r_cons, r_guard, r_tup, r_lst, r_nopart, r_part, r_sl, r_and, r_or, r_not, r_mite, r_andV, r_notV, r_pop, r_app, r_shr', r_call, rf_fun, r_snil, then_nx, then_rt, r_seq, r_drop, r_set, r_own', r_fix', r_to, r_ret, r_if, r_for, r_for0, r_sub, r_par3, r_par, r_frzT, r_frzF, r_it, r_enum, r_rng, r_comp, op_some, op_none, op_ite, op_map, pk_non, pk_bl, pk_int, pk_str, pk_tup, pk_lst, pk_tmp, pk_scr, pk_own, pkO_some, pk_ref, pkR_some, rd_val, rd_own, fz_non, fz_bl, fz_int, fz_str, fz_tup, fz_lst, fz_tmp, fz_ref, fz_scr, gl_own, gO_some, gl_ref, gR_some, sl_own, sl_ref, ab_bl, ai_int, it_tup, it_lst, it_tmp, it_scr, put_n, put_p, put_t, put_int, put_lst, put_tup, own_tmp, fix_own, shr_tmp, ret_nx, ret_rt, add_ii, add_ll, add_tt, sub_ii, mul_ii, mul_li, mul_ti, div_ii, mod_ii, pow_ii, ints_ii, eq_ii, ne_ii, is_non, is_int, is_tup, is_intB, not_non, not_tup, ix_l, ix_t, sl_l, sl_t, sl_s, rev_l, neg_i, len_l, len_t, int_i, abs_i, tup_l, tup_t, lst_l, lst_t, sum_l, toInts_int, zip_tt, rng_1, rng_2, rng_3, isi_int_int, isi_str_int, isi_bool_int, isi_tup_int, isi_tup_tup, isiC_int, isiC_tup, isiA_int, List.getElem?_cons_zero, List.getElem?_cons_succ, List.set_cons_zero, List.set_cons_succ, List.map_cons, List.map_nil, List.replicate_succ, List.replicate_zero, List.cons_append, List.nil_append, List.length_cons, List.length_nil, Nat.reduceAdd, Nat.reduceSub, Nat.reduceEqDiff, decide_eq_true_eq, Bool.not_eq_true', Bool.not_false, Bool.not_true, decide_eq_false_iff_not, true_and, and_true, true_or, or_true, reduceIte, Bool.false_eq_true, Int.reduceLT, Int.reduceLE, Nat.reduceLT, Nat.reduceLeDiff, Int.reduceEq, Int.reduceNe, fz_frsD, dbl_app, dbl_len, lim_is, List.length_append, iL_len, ← iL_app]
    refine ⟨by omega, by omega, any_ok hd4 (by decide) (by decide) fun k5 h5 hk5 hk5' hd5 => ?_⟩
    simp only [r_bind, r_pure, r_c, r_var, r_bin, r_u, r_test, r_frz, r_nil, r_cons, r_guard, r_tup, r_lst, r_nopart, r_part, r_sl, r_and, r_or, r_not, r_mite, r_andV, r_notV, r_pop, r_app, r_shr', r_call, rf_fun, r_snil, then_nx, then_rt, r_seq, r_drop, r_set, r_own', r_fix', r_to, r_ret, r_if, r_for, r_for0, r_sub, r_par3, r_par, r_frzT, r_frzF, r_it, r_enum, r_rng, r_comp, op_some, op_none, op_ite, op_map, pk_non, pk_bl, pk_int, pk_str, pk_tup, pk_lst, pk_tmp, pk_scr, pk_own, pkO_some, pk_ref, pkR_some, rd_val, rd_own, fz_non, fz_bl, fz_int, fz_str, fz_tup, fz_lst, fz_tmp, fz_ref, fz_scr, gl_own, gO_some, gl_ref, gR_some, sl_own, sl_ref, ab_bl, ai_int, it_tup, it_lst, it_tmp, it_scr, put_n, put_p, put_t, put_int, put_lst, put_tup, own_tmp, fix_own, shr_tmp, ret_nx, ret_rt, add_ii, add_ll, add_tt, sub_ii, mul_ii, mul_li, mul_ti, div_ii, mod_ii, pow_ii, ints_ii, eq_ii, ne_ii, is_non, is_int, is_tup, is_intB, not_non, not_tup, ix_l, ix_t, sl_l, sl_t, sl_s, rev_l, neg_i, len_l, len_t, int_i, abs_i, tup_l, tup_t, lst_l, lst_t, sum_l, toInts_int, zip_tt, rng_1, rng_2, rng_3, isi_int_int, isi_str_int, isi_bool_int, isi_tup_int, isi_tup_tup, isiC_int, isiC_tup, isiA_int, List.getElem?_cons_zero, List.getElem?_cons_succ, List.set_cons_zero, List.set_cons_succ, List.map_cons, List.map_nil, List.replicate_succ, List.replicate_zero, List.cons_append, List.nil_append, List.length_cons, List.length_nil, Nat.reduceAdd, Nat.reduceSub, Nat.reduceEqDiff, decide_eq_true_eq, Bool.not_eq_true', Bool.not_false, Bool.not_true, decide_eq_false_iff_not, true_and, and_true, true_or, or_true, reduceIte, Bool.false_eq_true, Int.reduceLT, Int.reduceLE, Nat.reduceLT, Nat.reduceLeDiff, Int.reduceEq, Int.reduceNe]
    refine ⟨⟨by unfold B62; omega, by unfold B62; omega⟩, ?_⟩
    refine octv_comp _ 1 17 (fun d => rfl) k5.toNat 0 [] h5 _ hd5 (fun x hx => by cases hx) (by rw [List.length_nil]; omega) fun ys h6 hy1 hy2 hd6 => ?_
    rw [List.length_nil] at hy2
    simp only [r_bind, r_pure, r_c, r_var, r_bin, r_u, r_test, r_frz, r_nil, r_cons, r_guard, r_tup, r_lst, r_nopart, r_part, r_sl, r_and, r_or, r_not, r_mite, r_andV, r_notV, r_pop, r_app, r_shr', r_call, rf_fun, r_snil, then_nx, then_rt, r_seq, r_drop, r_set, r_own', r_fix', r_to, r_ret, r_if, r_for, r_for0, r_sub, r_par3, r_par, r_frzT, r_frzF, r_it, r_enum, r_rng, r_comp, op_some, op_none, op_ite, op_map, pk_non, pk_bl, pk_int, pk_str, pk_tup, pk_lst, pk_tmp, pk_scr, pk_own, pkO_some, pk_ref, pkR_some, rd_val, rd_own, fz_non, fz_bl, fz_int, fz_str, fz_tup, fz_lst, fz_tmp, fz_ref, fz_scr, gl_own, gO_some, gl_ref, gR_some, sl_own, sl_ref, ab_bl, ai_int, it_tup, it_lst, it_tmp, it_scr, put_n, put_p, put_t, put_int, put_lst, put_tup, own_tmp, fix_own, shr_tmp, ret_nx, ret_rt, add_ii, add_ll, add_tt, sub_ii, mul_ii, mul_li, mul_ti, div_ii, mod_ii, pow_ii, ints_ii, eq_ii, ne_ii, is_non, is_int, is_tup, is_intB, not_non, not_tup, ix_l, ix_t, sl_l, sl_t, sl_s, rev_l, neg_i, len_l, len_t, int_i, abs_i, tup_l, tup_t, lst_l, lst_t, sum_l, toInts_int, zip_tt, rng_1, rng_2, rng_3, isi_int_int, isi_str_int, isi_bool_int, isi_tup_int, isi_tup_tup, isiC_int, isiC_tup, isiA_int, List.getElem?_cons_zero, List.getElem?_cons_succ, List.set_cons_zero, List.set_cons_succ, List.map_cons, List.map_nil, List.replicate_succ, List.replicate_zero, List.cons_append, List.nil_append, List.length_cons, List.length_nil, Nat.reduceAdd, Nat.reduceSub, Nat.reduceEqDiff, decide_eq_true_eq, Bool.not_eq_true', Bool.not_false, Bool.not_true, decide_eq_false_iff_not, true_and, and_true, true_or, or_true, reduceIte, Bool.false_eq_true, Int.reduceLT, Int.reduceLE, Nat.reduceLT, Nat.reduceLeDiff, Int.reduceEq, Int.reduceNe, fz_frsD, dbl_app, dbl_len, lim_is, List.length_append, iL_len, ← iL_app]
    have hmix : Oc (flat (bs.take m) ++ w ++ frm bs[m] ++ ys) := oc_app (oc_app (oc_app hofl hw1) hofm) hy1
    have hmixl : (flat (bs.take m) ++ w ++ frm bs[m] ++ ys).length < 30000 := by
      rw [List.length_append, List.length_append, List.length_append]
      omega
    refine ⟨by omega, frames_ok hmix (by omega) ?_⟩
    simp only [r_bind, r_pure, r_c, r_var, r_bin, r_u, r_test, r_frz, r_nil, r_cons, r_guard, r_tup, r_lst, r_nopart, r_part, r_sl, r_and, r_or, r_not, r_mite, r_andV, r_notV, r_pop, r_app, r_shr', r_call, rf_fun, r_snil, then_nx, then_rt, r_seq, r_drop, r_set, r_own', r_fix', r_to, r_ret, r_if, r_for, r_for0, r_sub, r_par3, r_par, r_frzT, r_frzF, r_it, r_enum, r_rng, r_comp, op_some, op_none, op_ite, op_map, pk_non, pk_bl, pk_int, pk_str, pk_tup, pk_lst, pk_tmp, pk_scr, pk_own, pkO_some, pk_ref, pkR_some, rd_val, rd_own, fz_non, fz_bl, fz_int, fz_str, fz_tup, fz_lst, fz_tmp, fz_ref, fz_scr, gl_own, gO_some, gl_ref, gR_some, sl_own, sl_ref, ab_bl, ai_int, it_tup, it_lst, it_tmp, it_scr, put_n, put_p, put_t, put_int, put_lst, put_tup, own_tmp, fix_own, shr_tmp, ret_nx, ret_rt, add_ii, add_ll, add_tt, sub_ii, mul_ii, mul_li, mul_ti, div_ii, mod_ii, pow_ii, ints_ii, eq_ii, ne_ii, is_non, is_int, is_tup, is_intB, not_non, not_tup, ix_l, ix_t, sl_l, sl_t, sl_s, rev_l, neg_i, len_l, len_t, int_i, abs_i, tup_l, tup_t, lst_l, lst_t, sum_l, toInts_int, zip_tt, rng_1, rng_2, rng_3, isi_int_int, isi_str_int, isi_bool_int, isi_tup_int, isi_tup_tup, isiC_int, isiC_tup, isiA_int, List.getElem?_cons_zero, List.getElem?_cons_succ, List.set_cons_zero, List.set_cons_succ, List.map_cons, List.map_nil, List.replicate_succ, List.replicate_zero, List.cons_append, List.nil_append, List.length_cons, List.length_nil, Nat.reduceAdd, Nat.reduceSub, Nat.reduceEqDiff, decide_eq_true_eq, Bool.not_eq_true', Bool.not_false, Bool.not_true, decide_eq_false_iff_not, true_and, and_true, true_or, or_true, reduceIte, Bool.false_eq_true, Int.reduceLT, Int.reduceLE, Nat.reduceLT, Nat.reduceLeDiff, Int.reduceEq, Int.reduceNe, fz_frsD]
    refine due_ok hmix (by omega) ?_
    simp only [r_bind, r_pure, r_c, r_var, r_bin, r_u, r_test, r_frz, r_nil, r_cons, r_guard, r_tup, r_lst, r_nopart, r_part, r_sl, r_and, r_or, r_not, r_mite, r_andV, r_notV, r_pop, r_app, r_shr', r_call, rf_fun, r_snil, then_nx, then_rt, r_seq, r_drop, r_set, r_own', r_fix', r_to, r_ret, r_if, r_for, r_for0, r_sub, r_par3, r_par, r_frzT, r_frzF, r_it, r_enum, r_rng, r_comp, op_some, op_none, op_ite, op_map, pk_non, pk_bl, pk_int, pk_str, pk_tup, pk_lst, pk_tmp, pk_scr, pk_own, pkO_some, pk_ref, pkR_some, rd_val, rd_own, fz_non, fz_bl, fz_int, fz_str, fz_tup, fz_lst, fz_tmp, fz_ref, fz_scr, gl_own, gO_some, gl_ref, gR_some, sl_own, sl_ref, ab_bl, ai_int, it_tup, it_lst, it_tmp, it_scr, put_n, put_p, put_t, put_int, put_lst, put_tup, own_tmp, fix_own, shr_tmp, ret_nx, ret_rt, add_ii, add_ll, add_tt, sub_ii, mul_ii, mul_li, mul_ti, div_ii, mod_ii, pow_ii, ints_ii, eq_ii, ne_ii, is_non, is_int, is_tup, is_intB, not_non, not_tup, ix_l, ix_t, sl_l, sl_t, sl_s, rev_l, neg_i, len_l, len_t, int_i, abs_i, tup_l, tup_t, lst_l, lst_t, sum_l, toInts_int, zip_tt, rng_1, rng_2, rng_3, isi_int_int, isi_str_int, isi_bool_int, isi_tup_int, isi_tup_tup, isiC_int, isiC_tup, isiA_int, List.getElem?_cons_zero, List.getElem?_cons_succ, List.set_cons_zero, List.set_cons_succ, List.map_cons, List.map_nil, List.replicate_succ, List.replicate_zero, List.cons_append, List.nil_append, List.length_cons, List.length_nil, Nat.reduceAdd, Nat.reduceSub, Nat.reduceEqDiff, decide_eq_true_eq, Bool.not_eq_true', Bool.not_false, Bool.not_true, decide_eq_false_iff_not, true_and, and_true, true_or, or_true, reduceIte, Bool.false_eq_true, Int.reduceLT, Int.reduceLE, Nat.reduceLT, Nat.reduceLeDiff, Int.reduceEq, Int.reduceNe, fz_frsD, dbl_app, dbl_len, lim_is, List.length_append]
    refine ⟨by omega, ?_⟩
    subst hF
    have e5 : ((lo : Int) + 1) = ((lo + 1 : Nat) : Int) := by omega
    rw [e5]
    have g1 := frsD_good (os := flat (bs.take m) ++ (frm bs[m]).take j) (oc_app hofl (oc_take hofm)) (by rw [List.length_append]; omega) ((flat (bs.take m) ++ (frm bs[m]).take j).length + 1)
    rw [flat_take _ _ (frS_cut _ _ (by omega))] at g1
    have g2 := frsD_good (os := flat (bs.take (m + 1))) (hfo _ (gb_take hb)) (by rw [hfs, List.length_append]; omega) ((flat (bs.take (m + 1))).length + 1)
    rw [hft] at g2
    have g3 := frsD_good hx1 (by omega) (xs.length + 1)
    have g4 := frsD_good hmix (by omega) ((flat (bs.take m)).length + w.length + (frm bs[m]).length + ys.length + 1)
    refine law_l2 s0 bs hb hb1 hb2 e15 e16 e17 n (lo + 1) _ _ _ _ _ _ _ _ _ _ _ h6 P hd6 (gd_app (gd_app (gd_app (gd_app hg g1.1 g1.2) g2.1 g2.2) g3.1 g3.2) g4.1 g4.2) (by simp only [List.length_append, List.length_singleton]; omega) fun ds' e2 e6 e7 e8 e9 e10 e11 e12 e13 e14 h q1 q2 q3 => hp ds' e2 e6 e7 e8 e9 e10 e11 e12 e13 e14 h q1 q2 (by simp only [List.length_append, List.length_singleton] at q3; omega)
end K74

set_option Elab.async false
set_option linter.all false
set_option maxRecDepth 100000
set_option maxHeartbeats 8000000
namespace K74
open PySem PySem.Spec L2 Mir
theorem rep_flat (x : Int) : ∀ n : Nat, (List.replicate n [Dv.int x]).flatten = iL (List.replicate n x)
  | 0 => rfl
  | n + 1 => by
    rw [List.replicate_succ, List.replicate_succ, List.flatten_cons, rep_flat x n]
    rfl
theorem rep_oc {x : Int} (h0 : 0 ≤ x) (h1 : x < 256) (n : Nat) : Oc (List.replicate n x) := fun y hy => by
  rw [List.eq_of_mem_replicate hy]
  exact ⟨h0, h1⟩
theorem enc_len3 {n : Nat} (h : n < 2000000) : (encN n).length ≤ 3 := by
  by_cases h1 : n < 128
  · rw [enc_small h1]; simp
  · rw [enc_big h1]
    by_cases h2 : n / 128 < 128
    · rw [enc_small h2]; simp
    · rw [enc_big h2, enc_small (by omega)]; simp
theorem nil_frs : frsS (([] : List Int).length + 1) [] = ([], 0) := rfl
theorem nil_eq : Dv.tup [Dv.tup [], Dv.int 0] = frsD ([], 0) := rfl
theorem nil_good : Pl (frsD ([], 0)) ∧ sz (frsD ([], 0)) ≤ 1000000 := ⟨⟨trivial, trivial, trivial⟩, by decide⟩
theorem law_rf {P : Dv → List Cell → Prop} (ns : List Int) (hp : ∀ h, P (.bl true) h) : RF (M_law [.scr ns] []) P := by
  unfold M_law B_law
  simp only [r_bind, r_pure, r_c, r_var, r_bin, r_u, r_test, r_frz, r_nil, r_cons, r_guard, r_tup, r_lst, r_nopart, r_part, r_sl, r_and, r_or, r_not, r_mite, r_andV, r_notV, r_pop, r_app, r_shr', r_call, rf_fun, r_snil, then_nx, then_rt, r_seq, r_drop, r_set, r_own', r_fix', r_to, r_ret, r_if, r_for, r_for0, r_sub, r_par3, r_par, r_frzT, r_frzF, r_it, r_enum, r_rng, r_comp, op_some, op_none, op_ite, op_map, pk_non, pk_bl, pk_int, pk_str, pk_tup, pk_lst, pk_tmp, pk_scr, pk_own, pkO_some, pk_ref, pkR_some, rd_val, rd_own, fz_non, fz_bl, fz_int, fz_str, fz_tup, fz_lst, fz_tmp, fz_ref, fz_scr, gl_own, gO_some, gl_ref, gR_some, sl_own, sl_ref, ab_bl, ai_int, it_tup, it_lst, it_tmp, it_scr, put_n, put_p, put_t, put_int, put_lst, put_tup, own_tmp, fix_own, shr_tmp, ret_nx, ret_rt, add_ii, add_ll, add_tt, sub_ii, mul_ii, mul_li, mul_ti, div_ii, mod_ii, pow_ii, ints_ii, eq_ii, ne_ii, is_non, is_int, is_tup, is_intB, not_non, not_tup, ix_l, ix_t, sl_l, sl_t, sl_s, rev_l, neg_i, len_l, len_t, int_i, abs_i, tup_l, tup_t, lst_l, lst_t, sum_l, toInts_int, zip_tt, rng_1, rng_2, rng_3, isi_int_int, isi_str_int, isi_bool_int, isi_tup_int, isi_tup_tup, isiC_int, isiC_tup, isiA_int, List.getElem?_cons_zero, List.getElem?_cons_succ, List.set_cons_zero, List.set_cons_succ, List.map_cons, List.map_nil, List.replicate_succ, List.replicate_zero, List.cons_append, List.nil_append, List.length_cons, List.length_nil, Nat.reduceAdd, Nat.reduceSub, Nat.reduceEqDiff, decide_eq_true_eq, Bool.not_eq_true', Bool.not_false, Bool.not_true, decide_eq_false_iff_not, true_and, and_true, true_or, or_true, reduceIte, Bool.false_eq_true, Int.reduceLT, Int.reduceLE, Nat.reduceLT, Nat.reduceLeDiff, Int.reduceEq, Int.reduceNe]
  refine deal_ok fun h0 hd0 => ?_
  simp only [r_bind, r_pure, r_c, r_var, r_bin, r_u, r_test, r_frz, r_nil, r_cons, r_guard, r_tup, r_lst, r_nopart, r_part, r_sl, r_and, r_or, r_not, r_mite, r_andV, r_notV, r_pop, r_app, r_shr', r_call, rf_fun, r_snil, then_nx, then_rt, r_seq, r_drop, r_set, r_own', r_fix', r_to, r_ret, r_if, r_for, r_for0, r_sub, r_par3, r_par, r_frzT, r_frzF, r_it, r_enum, r_rng, r_comp, op_some, op_none, op_ite, op_map, pk_non, pk_bl, pk_int, pk_str, pk_tup, pk_lst, pk_tmp, pk_scr, pk_own, pkO_some, pk_ref, pkR_some, rd_val, rd_own, fz_non, fz_bl, fz_int, fz_str, fz_tup, fz_lst, fz_tmp, fz_ref, fz_scr, gl_own, gO_some, gl_ref, gR_some, sl_own, sl_ref, ab_bl, ai_int, it_tup, it_lst, it_tmp, it_scr, put_n, put_p, put_t, put_int, put_lst, put_tup, own_tmp, fix_own, shr_tmp, ret_nx, ret_rt, add_ii, add_ll, add_tt, sub_ii, mul_ii, mul_li, mul_ti, div_ii, mod_ii, pow_ii, ints_ii, eq_ii, ne_ii, is_non, is_int, is_tup, is_intB, not_non, not_tup, ix_l, ix_t, sl_l, sl_t, sl_s, rev_l, neg_i, len_l, len_t, int_i, abs_i, tup_l, tup_t, lst_l, lst_t, sum_l, toInts_int, zip_tt, rng_1, rng_2, rng_3, isi_int_int, isi_str_int, isi_bool_int, isi_tup_int, isi_tup_tup, isiC_int, isiC_tup, isiA_int, List.getElem?_cons_zero, List.getElem?_cons_succ, List.set_cons_zero, List.set_cons_succ, List.map_cons, List.map_nil, List.replicate_succ, List.replicate_zero, List.cons_append, List.nil_append, List.length_cons, List.length_nil, Nat.reduceAdd, Nat.reduceSub, Nat.reduceEqDiff, decide_eq_true_eq, Bool.not_eq_true', Bool.not_false, Bool.not_true, decide_eq_false_iff_not, true_and, and_true, true_or, or_true, reduceIte, Bool.false_eq_true, Int.reduceLT, Int.reduceLE, Nat.reduceLT, Nat.reduceLeDiff, Int.reduceEq, Int.reduceNe, lim_is]
  refine ofI_ok (xs := [1, 2, 4, 7]) hd0 (by decide) (by decide) fun k1 h1 hk1 hd1 => ?_
  have hk0 : 1 ≤ k1 ∧ k1 ≤ 7 := by
    simp only [List.mem_cons, List.not_mem_nil, or_false] at hk1
    omega
  obtain ⟨n, rfl⟩ : ∃ n : Nat, k1 = n := ⟨k1.toNat, by omega⟩
  simp only [r_bind, r_pure, r_c, r_var, r_bin, r_u, r_test, r_frz, r_nil, r_cons, r_guard, r_tup, r_lst, r_nopart, r_part, r_sl, r_and, r_or, r_not, r_mite, r_andV, r_notV, r_pop, r_app, r_shr', r_call, rf_fun, r_snil, then_nx, then_rt, r_seq, r_drop, r_set, r_own', r_fix', r_to, r_ret, r_if, r_for, r_for0, r_sub, r_par3, r_par, r_frzT, r_frzF, r_it, r_enum, r_rng, r_comp, op_some, op_none, op_ite, op_map, pk_non, pk_bl, pk_int, pk_str, pk_tup, pk_lst, pk_tmp, pk_scr, pk_own, pkO_some, pk_ref, pkR_some, rd_val, rd_own, fz_non, fz_bl, fz_int, fz_str, fz_tup, fz_lst, fz_tmp, fz_ref, fz_scr, gl_own, gO_some, gl_ref, gR_some, sl_own, sl_ref, ab_bl, ai_int, it_tup, it_lst, it_tmp, it_scr, put_n, put_p, put_t, put_int, put_lst, put_tup, own_tmp, fix_own, shr_tmp, ret_nx, ret_rt, add_ii, add_ll, add_tt, sub_ii, mul_ii, mul_li, mul_ti, div_ii, mod_ii, pow_ii, ints_ii, eq_ii, ne_ii, is_non, is_int, is_tup, is_intB, not_non, not_tup, ix_l, ix_t, sl_l, sl_t, sl_s, rev_l, neg_i, len_l, len_t, int_i, abs_i, tup_l, tup_t, lst_l, lst_t, sum_l, toInts_int, zip_tt, rng_1, rng_2, rng_3, isi_int_int, isi_str_int, isi_bool_int, isi_tup_int, isi_tup_tup, isiC_int, isiC_tup, isiA_int, List.getElem?_cons_zero, List.getElem?_cons_succ, List.set_cons_zero, List.set_cons_succ, List.map_cons, List.map_nil, List.replicate_succ, List.replicate_zero, List.cons_append, List.nil_append, List.length_cons, List.length_nil, Nat.reduceAdd, Nat.reduceSub, Nat.reduceEqDiff, decide_eq_true_eq, Bool.not_eq_true', Bool.not_false, Bool.not_true, decide_eq_false_iff_not, true_and, and_true, true_or, or_true, reduceIte, Bool.false_eq_true, Int.reduceLT, Int.reduceLE, Nat.reduceLT, Nat.reduceLeDiff, Int.reduceEq, Int.reduceNe]
  refine ⟨⟨by unfold B62; omega, by unfold B62; omega⟩, ?_⟩
  rw [Int.toNat_natCast]
  refine law_l1 _ _ _ _ _ _ _ _ _ _ _ _ n 0 [] [] none none none h1 _ hd1 (fun d hd => by cases hd) (fun b hb => by cases hb) (by rw [List.length_nil]; omega) (by rw [List.length_nil]; omega) fun bs ds e2 e6 e7 h2 hd2 hg2 hb hbl hdl => ?_
  rw [List.length_nil, Nat.zero_add] at hbl hdl
  have hfl0 := flat_len (bs := bs) fun b hb' => (hb b hb').2
  have hfo : Oc (flat bs) := flat_oc fun b hb' => (hb b hb').1
  simp only [r_bind, r_pure, r_c, r_var, r_bin, r_u, r_test, r_frz, r_nil, r_cons, r_guard, r_tup, r_lst, r_nopart, r_part, r_sl, r_and, r_or, r_not, r_mite, r_andV, r_notV, r_pop, r_app, r_shr', r_call, rf_fun, r_snil, then_nx, then_rt, r_seq, r_drop, r_set, r_own', r_fix', r_to, r_ret, r_if, r_for, r_for0, r_sub, r_par3, r_par, r_frzT, r_frzF, r_it, r_enum, r_rng, r_comp, op_some, op_none, op_ite, op_map, pk_non, pk_bl, pk_int, pk_str, pk_tup, pk_lst, pk_tmp, pk_scr, pk_own, pkO_some, pk_ref, pkR_some, rd_val, rd_own, fz_non, fz_bl, fz_int, fz_str, fz_tup, fz_lst, fz_tmp, fz_ref, fz_scr, gl_own, gO_some, gl_ref, gR_some, sl_own, sl_ref, ab_bl, ai_int, it_tup, it_lst, it_tmp, it_scr, put_n, put_p, put_t, put_int, put_lst, put_tup, own_tmp, fix_own, shr_tmp, ret_nx, ret_rt, add_ii, add_ll, add_tt, sub_ii, mul_ii, mul_li, mul_ti, div_ii, mod_ii, pow_ii, ints_ii, eq_ii, ne_ii, is_non, is_int, is_tup, is_intB, not_non, not_tup, ix_l, ix_t, sl_l, sl_t, sl_s, rev_l, neg_i, len_l, len_t, int_i, abs_i, tup_l, tup_t, lst_l, lst_t, sum_l, toInts_int, zip_tt, rng_1, rng_2, rng_3, isi_int_int, isi_str_int, isi_bool_int, isi_tup_int, isi_tup_tup, isiC_int, isiC_tup, isiA_int, List.getElem?_cons_zero, List.getElem?_cons_succ, List.set_cons_zero, List.set_cons_succ, List.map_cons, List.map_nil, List.replicate_succ, List.replicate_zero, List.cons_append, List.nil_append, List.length_cons, List.length_nil, Nat.reduceAdd, Nat.reduceSub, Nat.reduceEqDiff, decide_eq_true_eq, Bool.not_eq_true', Bool.not_false, Bool.not_true, decide_eq_false_iff_not, true_and, and_true, true_or, or_true, reduceIte, Bool.false_eq_true, Int.reduceLT, Int.reduceLE, Nat.reduceLT, Nat.reduceLeDiff, Int.reduceEq, Int.reduceNe]
  refine rows_row rfl (by omega) ?_
  simp only [r_bind, r_pure, r_c, r_var, r_bin, r_u, r_test, r_frz, r_nil, r_cons, r_guard, r_tup, r_lst, r_nopart, r_part, r_sl, r_and, r_or, r_not, r_mite, r_andV, r_notV, r_pop, r_app, r_shr', r_call, rf_fun, r_snil, then_nx, then_rt, r_seq, r_drop, r_set, r_own', r_fix', r_to, r_ret, r_if, r_for, r_for0, r_sub, r_par3, r_par, r_frzT, r_frzF, r_it, r_enum, r_rng, r_comp, op_some, op_none, op_ite, op_map, pk_non, pk_bl, pk_int, pk_str, pk_tup, pk_lst, pk_tmp, pk_scr, pk_own, pkO_some, pk_ref, pkR_some, rd_val, rd_own, fz_non, fz_bl, fz_int, fz_str, fz_tup, fz_lst, fz_tmp, fz_ref, fz_scr, gl_own, gO_some, gl_ref, gR_some, sl_own, sl_ref, ab_bl, ai_int, it_tup, it_lst, it_tmp, it_scr, put_n, put_p, put_t, put_int, put_lst, put_tup, own_tmp, fix_own, shr_tmp, ret_nx, ret_rt, add_ii, add_ll, add_tt, sub_ii, mul_ii, mul_li, mul_ti, div_ii, mod_ii, pow_ii, ints_ii, eq_ii, ne_ii, is_non, is_int, is_tup, is_intB, not_non, not_tup, ix_l, ix_t, sl_l, sl_t, sl_s, rev_l, neg_i, len_l, len_t, int_i, abs_i, tup_l, tup_t, lst_l, lst_t, sum_l, toInts_int, zip_tt, rng_1, rng_2, rng_3, isi_int_int, isi_str_int, isi_bool_int, isi_tup_int, isi_tup_tup, isiC_int, isiC_tup, isiA_int, List.getElem?_cons_zero, List.getElem?_cons_succ, List.set_cons_zero, List.set_cons_succ, List.map_cons, List.map_nil, List.replicate_succ, List.replicate_zero, List.cons_append, List.nil_append, List.length_cons, List.length_nil, Nat.reduceAdd, Nat.reduceSub, Nat.reduceEqDiff, decide_eq_true_eq, Bool.not_eq_true', Bool.not_false, Bool.not_true, decide_eq_false_iff_not, true_and, and_true, true_or, or_true, reduceIte, Bool.false_eq_true, Int.reduceLT, Int.reduceLE, Nat.reduceLT, Nat.reduceLeDiff, Int.reduceEq, Int.reduceNe]
  refine join_ok (by omega) ?_
  simp only [r_bind, r_pure, r_c, r_var, r_bin, r_u, r_test, r_frz, r_nil, r_cons, r_guard, r_tup, r_lst, r_nopart, r_part, r_sl, r_and, r_or, r_not, r_mite, r_andV, r_notV, r_pop, r_app, r_shr', r_call, rf_fun, r_snil, then_nx, then_rt, r_seq, r_drop, r_set, r_own', r_fix', r_to, r_ret, r_if, r_for, r_for0, r_sub, r_par3, r_par, r_frzT, r_frzF, r_it, r_enum, r_rng, r_comp, op_some, op_none, op_ite, op_map, pk_non, pk_bl, pk_int, pk_str, pk_tup, pk_lst, pk_tmp, pk_scr, pk_own, pkO_some, pk_ref, pkR_some, rd_val, rd_own, fz_non, fz_bl, fz_int, fz_str, fz_tup, fz_lst, fz_tmp, fz_ref, fz_scr, gl_own, gO_some, gl_ref, gR_some, sl_own, sl_ref, ab_bl, ai_int, it_tup, it_lst, it_tmp, it_scr, put_n, put_p, put_t, put_int, put_lst, put_tup, own_tmp, fix_own, shr_tmp, ret_nx, ret_rt, add_ii, add_ll, add_tt, sub_ii, mul_ii, mul_li, mul_ti, div_ii, mod_ii, pow_ii, ints_ii, eq_ii, ne_ii, is_non, is_int, is_tup, is_intB, not_non, not_tup, ix_l, ix_t, sl_l, sl_t, sl_s, rev_l, neg_i, len_l, len_t, int_i, abs_i, tup_l, tup_t, lst_l, lst_t, sum_l, toInts_int, zip_tt, rng_1, rng_2, rng_3, isi_int_int, isi_str_int, isi_bool_int, isi_tup_int, isi_tup_tup, isiC_int, isiC_tup, isiA_int, List.getElem?_cons_zero, List.getElem?_cons_succ, List.set_cons_zero, List.set_cons_succ, List.map_cons, List.map_nil, List.replicate_succ, List.replicate_zero, List.cons_append, List.nil_append, List.length_cons, List.length_nil, Nat.reduceAdd, Nat.reduceSub, Nat.reduceEqDiff, decide_eq_true_eq, Bool.not_eq_true', Bool.not_false, Bool.not_true, decide_eq_false_iff_not, true_and, and_true, true_or, or_true, reduceIte, Bool.false_eq_true, Int.reduceLT, Int.reduceLE, Nat.reduceLT, Nat.reduceLeDiff, Int.reduceEq, Int.reduceNe]
  refine frames_ok hfo (by omega) ?_
  have hft := flat_take bs [] frS_nil
  rw [List.append_nil] at hft
  rw [hft]
  simp only [r_bind, r_pure, r_c, r_var, r_bin, r_u, r_test, r_frz, r_nil, r_cons, r_guard, r_tup, r_lst, r_nopart, r_part, r_sl, r_and, r_or, r_not, r_mite, r_andV, r_notV, r_pop, r_app, r_shr', r_call, rf_fun, r_snil, then_nx, then_rt, r_seq, r_drop, r_set, r_own', r_fix', r_to, r_ret, r_if, r_for, r_for0, r_sub, r_par3, r_par, r_frzT, r_frzF, r_it, r_enum, r_rng, r_comp, op_some, op_none, op_ite, op_map, pk_non, pk_bl, pk_int, pk_str, pk_tup, pk_lst, pk_tmp, pk_scr, pk_own, pkO_some, pk_ref, pkR_some, rd_val, rd_own, fz_non, fz_bl, fz_int, fz_str, fz_tup, fz_lst, fz_tmp, fz_ref, fz_scr, gl_own, gO_some, gl_ref, gR_some, sl_own, sl_ref, ab_bl, ai_int, it_tup, it_lst, it_tmp, it_scr, put_n, put_p, put_t, put_int, put_lst, put_tup, own_tmp, fix_own, shr_tmp, ret_nx, ret_rt, add_ii, add_ll, add_tt, sub_ii, mul_ii, mul_li, mul_ti, div_ii, mod_ii, pow_ii, ints_ii, eq_ii, ne_ii, is_non, is_int, is_tup, is_intB, not_non, not_tup, ix_l, ix_t, sl_l, sl_t, sl_s, rev_l, neg_i, len_l, len_t, int_i, abs_i, tup_l, tup_t, lst_l, lst_t, sum_l, toInts_int, zip_tt, rng_1, rng_2, rng_3, isi_int_int, isi_str_int, isi_bool_int, isi_tup_int, isi_tup_tup, isiC_int, isiC_tup, isiA_int, List.getElem?_cons_zero, List.getElem?_cons_succ, List.set_cons_zero, List.set_cons_succ, List.map_cons, List.map_nil, List.replicate_succ, List.replicate_zero, List.cons_append, List.nil_append, List.length_cons, List.length_nil, Nat.reduceAdd, Nat.reduceSub, Nat.reduceEqDiff, decide_eq_true_eq, Bool.not_eq_true', Bool.not_false, Bool.not_true, decide_eq_false_iff_not, true_and, and_true, true_or, or_true, reduceIte, Bool.false_eq_true, Int.reduceLT, Int.reduceLE, Nat.reduceLT, Nat.reduceLeDiff, Int.reduceEq, Int.reduceNe, fz_frsD]
  refine rows_body rfl (by omega) ?_
  simp only [r_bind, r_pure, r_c, r_var, r_bin, r_u, r_test, r_frz, r_nil, r_cons, r_guard, r_tup, r_lst, r_nopart, r_part, r_sl, r_and, r_or, r_not, r_mite, r_andV, r_notV, r_pop, r_app, r_shr', r_call, rf_fun, r_snil, then_nx, then_rt, r_seq, r_drop, r_set, r_own', r_fix', r_to, r_ret, r_if, r_for, r_for0, r_sub, r_par3, r_par, r_frzT, r_frzF, r_it, r_enum, r_rng, r_comp, op_some, op_none, op_ite, op_map, pk_non, pk_bl, pk_int, pk_str, pk_tup, pk_lst, pk_tmp, pk_scr, pk_own, pkO_some, pk_ref, pkR_some, rd_val, rd_own, fz_non, fz_bl, fz_int, fz_str, fz_tup, fz_lst, fz_tmp, fz_ref, fz_scr, gl_own, gO_some, gl_ref, gR_some, sl_own, sl_ref, ab_bl, ai_int, it_tup, it_lst, it_tmp, it_scr, put_n, put_p, put_t, put_int, put_lst, put_tup, own_tmp, fix_own, shr_tmp, ret_nx, ret_rt, add_ii, add_ll, add_tt, sub_ii, mul_ii, mul_li, mul_ti, div_ii, mod_ii, pow_ii, ints_ii, eq_ii, ne_ii, is_non, is_int, is_tup, is_intB, not_non, not_tup, ix_l, ix_t, sl_l, sl_t, sl_s, rev_l, neg_i, len_l, len_t, int_i, abs_i, tup_l, tup_t, lst_l, lst_t, sum_l, toInts_int, zip_tt, rng_1, rng_2, rng_3, isi_int_int, isi_str_int, isi_bool_int, isi_tup_int, isi_tup_tup, isiC_int, isiC_tup, isiA_int, List.getElem?_cons_zero, List.getElem?_cons_succ, List.set_cons_zero, List.set_cons_succ, List.map_cons, List.map_nil, List.replicate_succ, List.replicate_zero, List.cons_append, List.nil_append, List.length_cons, List.length_nil, Nat.reduceAdd, Nat.reduceSub, Nat.reduceEqDiff, decide_eq_true_eq, Bool.not_eq_true', Bool.not_false, Bool.not_true, decide_eq_false_iff_not, true_and, and_true, true_or, or_true, reduceIte, Bool.false_eq_true, Int.reduceLT, Int.reduceLE, Nat.reduceLT, Nat.reduceLeDiff, Int.reduceEq, Int.reduceNe, frsD_eq, dbl_app, dbl_len, lim_is, iL_len]
  refine ⟨by omega, ⟨by unfold B62; omega, by unfold B62; omega⟩, ?_⟩
  have g1 := frsD_good hfo (by omega) ((flat bs).length + 1)
  rw [hft] at g1
  refine law_l2 _ bs hb (by omega) (by omega) _ _ _ 3 0 (ds ++ [frsD (bs, (flat bs).length)]) _ _ _ _ _ _ _ _ _ _ h2 _ hd2 (gd_app hg2 g1.1 g1.2) (by rw [List.length_append, List.length_singleton]; omega) fun ds2 e2 e6 e7 e8 e9 e10 e11 e12 e13 e14 h3 hd3 hg3 hl3 => ?_
  rw [List.length_append, List.length_singleton] at hl3
  simp only [r_bind, r_pure, r_c, r_var, r_bin, r_u, r_test, r_frz, r_nil, r_cons, r_guard, r_tup, r_lst, r_nopart, r_part, r_sl, r_and, r_or, r_not, r_mite, r_andV, r_notV, r_pop, r_app, r_shr', r_call, rf_fun, r_snil, then_nx, then_rt, r_seq, r_drop, r_set, r_own', r_fix', r_to, r_ret, r_if, r_for, r_for0, r_sub, r_par3, r_par, r_frzT, r_frzF, r_it, r_enum, r_rng, r_comp, op_some, op_none, op_ite, op_map, pk_non, pk_bl, pk_int, pk_str, pk_tup, pk_lst, pk_tmp, pk_scr, pk_own, pkO_some, pk_ref, pkR_some, rd_val, rd_own, fz_non, fz_bl, fz_int, fz_str, fz_tup, fz_lst, fz_tmp, fz_ref, fz_scr, gl_own, gO_some, gl_ref, gR_some, sl_own, sl_ref, ab_bl, ai_int, it_tup, it_lst, it_tmp, it_scr, put_n, put_p, put_t, put_int, put_lst, put_tup, own_tmp, fix_own, shr_tmp, ret_nx, ret_rt, add_ii, add_ll, add_tt, sub_ii, mul_ii, mul_li, mul_ti, div_ii, mod_ii, pow_ii, ints_ii, eq_ii, ne_ii, is_non, is_int, is_tup, is_intB, not_non, not_tup, ix_l, ix_t, sl_l, sl_t, sl_s, rev_l, neg_i, len_l, len_t, int_i, abs_i, tup_l, tup_t, lst_l, lst_t, sum_l, toInts_int, zip_tt, rng_1, rng_2, rng_3, isi_int_int, isi_str_int, isi_bool_int, isi_tup_int, isi_tup_tup, isiC_int, isiC_tup, isiA_int, List.getElem?_cons_zero, List.getElem?_cons_succ, List.set_cons_zero, List.set_cons_succ, List.map_cons, List.map_nil, List.replicate_succ, List.replicate_zero, List.cons_append, List.nil_append, List.length_cons, List.length_nil, Nat.reduceAdd, Nat.reduceSub, Nat.reduceEqDiff, decide_eq_true_eq, Bool.not_eq_true', Bool.not_false, Bool.not_true, decide_eq_false_iff_not, true_and, and_true, true_or, or_true, reduceIte, Bool.false_eq_true, Int.reduceLT, Int.reduceLE, Nat.reduceLT, Nat.reduceLeDiff, Int.reduceEq, Int.reduceNe]
  refine any_ok hd3 (by decide) (by decide) fun k4 h4 hk4 hk4' hd4 => ?_
  simp only [r_bind, r_pure, r_c, r_var, r_bin, r_u, r_test, r_frz, r_nil, r_cons, r_guard, r_tup, r_lst, r_nopart, r_part, r_sl, r_and, r_or, r_not, r_mite, r_andV, r_notV, r_pop, r_app, r_shr', r_call, rf_fun, r_snil, then_nx, then_rt, r_seq, r_drop, r_set, r_own', r_fix', r_to, r_ret, r_if, r_for, r_for0, r_sub, r_par3, r_par, r_frzT, r_frzF, r_it, r_enum, r_rng, r_comp, op_some, op_none, op_ite, op_map, pk_non, pk_bl, pk_int, pk_str, pk_tup, pk_lst, pk_tmp, pk_scr, pk_own, pkO_some, pk_ref, pkR_some, rd_val, rd_own, fz_non, fz_bl, fz_int, fz_str, fz_tup, fz_lst, fz_tmp, fz_ref, fz_scr, gl_own, gO_some, gl_ref, gR_some, sl_own, sl_ref, ab_bl, ai_int, it_tup, it_lst, it_tmp, it_scr, put_n, put_p, put_t, put_int, put_lst, put_tup, own_tmp, fix_own, shr_tmp, ret_nx, ret_rt, add_ii, add_ll, add_tt, sub_ii, mul_ii, mul_li, mul_ti, div_ii, mod_ii, pow_ii, ints_ii, eq_ii, ne_ii, is_non, is_int, is_tup, is_intB, not_non, not_tup, ix_l, ix_t, sl_l, sl_t, sl_s, rev_l, neg_i, len_l, len_t, int_i, abs_i, tup_l, tup_t, lst_l, lst_t, sum_l, toInts_int, zip_tt, rng_1, rng_2, rng_3, isi_int_int, isi_str_int, isi_bool_int, isi_tup_int, isi_tup_tup, isiC_int, isiC_tup, isiA_int, List.getElem?_cons_zero, List.getElem?_cons_succ, List.set_cons_zero, List.set_cons_succ, List.map_cons, List.map_nil, List.replicate_succ, List.replicate_zero, List.cons_append, List.nil_append, List.length_cons, List.length_nil, Nat.reduceAdd, Nat.reduceSub, Nat.reduceEqDiff, decide_eq_true_eq, Bool.not_eq_true', Bool.not_false, Bool.not_true, decide_eq_false_iff_not, true_and, and_true, true_or, or_true, reduceIte, Bool.false_eq_true, Int.reduceLT, Int.reduceLE, Nat.reduceLT, Nat.reduceLeDiff, Int.reduceEq, Int.reduceNe]
  by_cases hk : k4 = 0
  · rw [if_pos hk]
    refine ⟨by rw [lim_is]; omega, ?_⟩
    refine ofI_ok (xs := [16384, 16383, 20000]) hd4 (by decide) (by decide) fun k5 h5 hk5 hd5 => ?_
    have hk50 : 16383 ≤ k5 ∧ k5 ≤ 20000 := by
      simp only [List.mem_cons, List.not_mem_nil, or_false] at hk5
      omega
    obtain ⟨m, rfl⟩ : ∃ m : Nat, k5 = m := ⟨k5.toNat, by omega⟩
    simp only [r_bind, r_pure, r_c, r_var, r_bin, r_u, r_test, r_frz, r_nil, r_cons, r_guard, r_tup, r_lst, r_nopart, r_part, r_sl, r_and, r_or, r_not, r_mite, r_andV, r_notV, r_pop, r_app, r_shr', r_call, rf_fun, r_snil, then_nx, then_rt, r_seq, r_drop, r_set, r_own', r_fix', r_to, r_ret, r_if, r_for, r_for0, r_sub, r_par3, r_par, r_frzT, r_frzF, r_it, r_enum, r_rng, r_comp, op_some, op_none, op_ite, op_map, pk_non, pk_bl, pk_int, pk_str, pk_tup, pk_lst, pk_tmp, pk_scr, pk_own, pkO_some, pk_ref, pkR_some, rd_val, rd_own, fz_non, fz_bl, fz_int, fz_str, fz_tup, fz_lst, fz_tmp, fz_ref, fz_scr, gl_own, gO_some, gl_ref, gR_some, sl_own, sl_ref, ab_bl, ai_int, it_tup, it_lst, it_tmp, it_scr, put_n, put_p, put_t, put_int, put_lst, put_tup, own_tmp, fix_own, shr_tmp, ret_nx, ret_rt, add_ii, add_ll, add_tt, sub_ii, mul_ii, mul_li, mul_ti, div_ii, mod_ii, pow_ii, ints_ii, eq_ii, ne_ii, is_non, is_int, is_tup, is_intB, not_non, not_tup, ix_l, ix_t, sl_l, sl_t, sl_s, rev_l, neg_i, len_l, len_t, int_i, abs_i, tup_l, tup_t, lst_l, lst_t, sum_l, toInts_int, zip_tt, rng_1, rng_2, rng_3, isi_int_int, isi_str_int, isi_bool_int, isi_tup_int, isi_tup_tup, isiC_int, isiC_tup, isiA_int, List.getElem?_cons_zero, List.getElem?_cons_succ, List.set_cons_zero, List.set_cons_succ, List.map_cons, List.map_nil, List.replicate_succ, List.replicate_zero, List.cons_append, List.nil_append, List.length_cons, List.length_nil, Nat.reduceAdd, Nat.reduceSub, Nat.reduceEqDiff, decide_eq_true_eq, Bool.not_eq_true', Bool.not_false, Bool.not_true, decide_eq_false_iff_not, true_and, and_true, true_or, or_true, reduceIte, Bool.false_eq_true, Int.reduceLT, Int.reduceLE, Nat.reduceLT, Nat.reduceLeDiff, Int.reduceEq, Int.reduceNe]
    refine oct_ok hd5 fun x h6 hx0 hx1 hd6 => ?_
    simp only [r_bind, r_pure, r_c, r_var, r_bin, r_u, r_test, r_frz, r_nil, r_cons, r_guard, r_tup, r_lst, r_nopart, r_part, r_sl, r_and, r_or, r_not, r_mite, r_andV, r_notV, r_pop, r_app, r_shr', r_call, rf_fun, r_snil, then_nx, then_rt, r_seq, r_drop, r_set, r_own', r_fix', r_to, r_ret, r_if, r_for, r_for0, r_sub, r_par3, r_par, r_frzT, r_frzF, r_it, r_enum, r_rng, r_comp, op_some, op_none, op_ite, op_map, pk_non, pk_bl, pk_int, pk_str, pk_tup, pk_lst, pk_tmp, pk_scr, pk_own, pkO_some, pk_ref, pkR_some, rd_val, rd_own, fz_non, fz_bl, fz_int, fz_str, fz_tup, fz_lst, fz_tmp, fz_ref, fz_scr, gl_own, gO_some, gl_ref, gR_some, sl_own, sl_ref, ab_bl, ai_int, it_tup, it_lst, it_tmp, it_scr, put_n, put_p, put_t, put_int, put_lst, put_tup, own_tmp, fix_own, shr_tmp, ret_nx, ret_rt, add_ii, add_ll, add_tt, sub_ii, mul_ii, mul_li, mul_ti, div_ii, mod_ii, pow_ii, ints_ii, eq_ii, ne_ii, is_non, is_int, is_tup, is_intB, not_non, not_tup, ix_l, ix_t, sl_l, sl_t, sl_s, rev_l, neg_i, len_l, len_t, int_i, abs_i, tup_l, tup_t, lst_l, lst_t, sum_l, toInts_int, zip_tt, rng_1, rng_2, rng_3, isi_int_int, isi_str_int, isi_bool_int, isi_tup_int, isi_tup_tup, isiC_int, isiC_tup, isiA_int, List.getElem?_cons_zero, List.getElem?_cons_succ, List.set_cons_zero, List.set_cons_succ, List.map_cons, List.map_nil, List.replicate_succ, List.replicate_zero, List.cons_append, List.nil_append, List.length_cons, List.length_nil, Nat.reduceAdd, Nat.reduceSub, Nat.reduceEqDiff, decide_eq_true_eq, Bool.not_eq_true', Bool.not_false, Bool.not_true, decide_eq_false_iff_not, true_and, and_true, true_or, or_true, reduceIte, Bool.false_eq_true, Int.reduceLT, Int.reduceLE, Nat.reduceLT, Nat.reduceLeDiff, Int.reduceEq, Int.reduceNe]
    rw [mul_r (by omega), mul_l (by omega)]
    simp only [r_bind, r_pure, r_c, r_var, r_bin, r_u, r_test, r_frz, r_nil, r_cons, r_guard, r_tup, r_lst, r_nopart, r_part, r_sl, r_and, r_or, r_not, r_mite, r_andV, r_notV, r_pop, r_app, r_shr', r_call, rf_fun, r_snil, then_nx, then_rt, r_seq, r_drop, r_set, r_own', r_fix', r_to, r_ret, r_if, r_for, r_for0, r_sub, r_par3, r_par, r_frzT, r_frzF, r_it, r_enum, r_rng, r_comp, op_some, op_none, op_ite, op_map, pk_non, pk_bl, pk_int, pk_str, pk_tup, pk_lst, pk_tmp, pk_scr, pk_own, pkO_some, pk_ref, pkR_some, rd_val, rd_own, fz_non, fz_bl, fz_int, fz_str, fz_tup, fz_lst, fz_tmp, fz_ref, fz_scr, gl_own, gO_some, gl_ref, gR_some, sl_own, sl_ref, ab_bl, ai_int, it_tup, it_lst, it_tmp, it_scr, put_n, put_p, put_t, put_int, put_lst, put_tup, own_tmp, fix_own, shr_tmp, ret_nx, ret_rt, add_ii, add_ll, add_tt, sub_ii, mul_ii, mul_li, mul_ti, div_ii, mod_ii, pow_ii, ints_ii, eq_ii, ne_ii, is_non, is_int, is_tup, is_intB, not_non, not_tup, ix_l, ix_t, sl_l, sl_t, sl_s, rev_l, neg_i, len_l, len_t, int_i, abs_i, tup_l, tup_t, lst_l, lst_t, sum_l, toInts_int, zip_tt, rng_1, rng_2, rng_3, isi_int_int, isi_str_int, isi_bool_int, isi_tup_int, isi_tup_tup, isiC_int, isiC_tup, isiA_int, List.getElem?_cons_zero, List.getElem?_cons_succ, List.set_cons_zero, List.set_cons_succ, List.map_cons, List.map_nil, List.replicate_succ, List.replicate_zero, List.cons_append, List.nil_append, List.length_cons, List.length_nil, Nat.reduceAdd, Nat.reduceSub, Nat.reduceEqDiff, decide_eq_true_eq, Bool.not_eq_true', Bool.not_false, Bool.not_true, decide_eq_false_iff_not, true_and, and_true, true_or, or_true, reduceIte, Bool.false_eq_true, Int.reduceLT, Int.reduceLE, Nat.reduceLT, Nat.reduceLeDiff, Int.reduceEq, Int.reduceNe]
    refine locts_ok (by omega) ?_
    simp only [r_bind, r_pure, r_c, r_var, r_bin, r_u, r_test, r_frz, r_nil, r_cons, r_guard, r_tup, r_lst, r_nopart, r_part, r_sl, r_and, r_or, r_not, r_mite, r_andV, r_notV, r_pop, r_app, r_shr', r_call, rf_fun, r_snil, then_nx, then_rt, r_seq, r_drop, r_set, r_own', r_fix', r_to, r_ret, r_if, r_for, r_for0, r_sub, r_par3, r_par, r_frzT, r_frzF, r_it, r_enum, r_rng, r_comp, op_some, op_none, op_ite, op_map, pk_non, pk_bl, pk_int, pk_str, pk_tup, pk_lst, pk_tmp, pk_scr, pk_own, pkO_some, pk_ref, pkR_some, rd_val, rd_own, fz_non, fz_bl, fz_int, fz_str, fz_tup, fz_lst, fz_tmp, fz_ref, fz_scr, gl_own, gO_some, gl_ref, gR_some, sl_own, sl_ref, ab_bl, ai_int, it_tup, it_lst, it_tmp, it_scr, put_n, put_p, put_t, put_int, put_lst, put_tup, own_tmp, fix_own, shr_tmp, ret_nx, ret_rt, add_ii, add_ll, add_tt, sub_ii, mul_ii, mul_li, mul_ti, div_ii, mod_ii, pow_ii, ints_ii, eq_ii, ne_ii, is_non, is_int, is_tup, is_intB, not_non, not_tup, ix_l, ix_t, sl_l, sl_t, sl_s, rev_l, neg_i, len_l, len_t, int_i, abs_i, tup_l, tup_t, lst_l, lst_t, sum_l, toInts_int, zip_tt, rng_1, rng_2, rng_3, isi_int_int, isi_str_int, isi_bool_int, isi_tup_int, isi_tup_tup, isiC_int, isiC_tup, isiA_int, List.getElem?_cons_zero, List.getElem?_cons_succ, List.set_cons_zero, List.set_cons_succ, List.map_cons, List.map_nil, List.replicate_succ, List.replicate_zero, List.cons_append, List.nil_append, List.length_cons, List.length_nil, Nat.reduceAdd, Nat.reduceSub, Nat.reduceEqDiff, decide_eq_true_eq, Bool.not_eq_true', Bool.not_false, Bool.not_true, decide_eq_false_iff_not, true_and, and_true, true_or, or_true, reduceIte, Bool.false_eq_true, Int.reduceLT, Int.reduceLE, Nat.reduceLT, Nat.reduceLeDiff, Int.reduceEq, Int.reduceNe, Int.toNat_natCast, rep_flat]
    have e3 := enc_len3 (n := m) (by omega)
    have hbl2 : (List.replicate m x).length = m := List.length_replicate
    have hbo := rep_oc hx0 hx1 m
    have hT : ∃ T : Int, T = (m : Int) * ((m : Int) + 1) / 2 ∧ 2 * T = ((m * (m + 1) : Nat) : Int) := by
      refine ⟨_, rfl, ?_⟩
      have h2 : (m * (m + 1)) % 2 = 0 := by
        rcases Nat.mod_two_eq_zero_or_one m with h | h
        · rw [Nat.mul_mod, h]; simp
        · rw [Nat.mul_mod, show (m + 1) % 2 = 0 by omega]; simp
      have h3 : (m : Int) * ((m : Int) + 1) = ((m * (m + 1) : Nat) : Int) := by
        rw [Int.natCast_mul]
        rfl
      rw [h3]
      omega
    obtain ⟨T, hTe, hT2⟩ := hT
    rw [← hTe, ← Sm_rep x m T hT2]
    have hfe : iL (encN m) ++ iL (List.replicate m x) ++ [Dv.int (Sm (List.replicate m x) % 256), Dv.int (Sm (List.replicate m x) / 256)] = iL (frm (List.replicate m x)) := by
      unfold frm
      rw [hbl2, iL_app, iL_app]
      rfl
    rw [hfe]
    have hfrl := frm_len (List.replicate m x)
    rw [hbl2] at hfrl
    simp only [List.length_append, iL_len, hbl2, lim_is]
    refine ⟨by omega, by omega, by omega, by omega, by omega, by omega, ⟨by omega, by omega⟩, frame_ok hbo (by rw [hbl2]; omega) ?_⟩
    have e00 : iL (frm (List.replicate m x)) ++ [Dv.int 0, Dv.int 0] = iL (frm (List.replicate m x) ++ [0, 0]) := by rw [iL_app] <;> rfl
    simp only [r_bind, r_pure, r_c, r_var, r_bin, r_u, r_test, r_frz, r_nil, r_cons, r_guard, r_tup, r_lst, r_nopart, r_part, r_sl, r_and, r_or, r_not, r_mite, r_andV, r_notV, r_pop, r_app, r_shr', r_call, rf_fun, r_snil, then_nx, then_rt, r_seq, r_drop, r_set, r_own', r_fix', r_to, r_ret, r_if, r_for, r_for0, r_sub, r_par3, r_par, r_frzT, r_frzF, r_it, r_enum, r_rng, r_comp, op_some, op_none, op_ite, op_map, pk_non, pk_bl, pk_int, pk_str, pk_tup, pk_lst, pk_tmp, pk_scr, pk_own, pkO_some, pk_ref, pkR_some, rd_val, rd_own, fz_non, fz_bl, fz_int, fz_str, fz_tup, fz_lst, fz_tmp, fz_ref, fz_scr, gl_own, gO_some, gl_ref, gR_some, sl_own, sl_ref, ab_bl, ai_int, it_tup, it_lst, it_tmp, it_scr, put_n, put_p, put_t, put_int, put_lst, put_tup, own_tmp, fix_own, shr_tmp, ret_nx, ret_rt, add_ii, add_ll, add_tt, sub_ii, mul_ii, mul_li, mul_ti, div_ii, mod_ii, pow_ii, ints_ii, eq_ii, ne_ii, is_non, is_int, is_tup, is_intB, not_non, not_tup, ix_l, ix_t, sl_l, sl_t, sl_s, rev_l, neg_i, len_l, len_t, int_i, abs_i, tup_l, tup_t, lst_l, lst_t, sum_l, toInts_int, zip_tt, rng_1, rng_2, rng_3, isi_int_int, isi_str_int, isi_bool_int, isi_tup_int, isi_tup_tup, isiC_int, isiC_tup, isiA_int, List.getElem?_cons_zero, List.getElem?_cons_succ, List.set_cons_zero, List.set_cons_succ, List.map_cons, List.map_nil, List.replicate_succ, List.replicate_zero, List.cons_append, List.nil_append, List.length_cons, List.length_nil, Nat.reduceAdd, Nat.reduceSub, Nat.reduceEqDiff, decide_eq_true_eq, Bool.not_eq_true', Bool.not_false, Bool.not_true, decide_eq_false_iff_not, true_and, and_true, true_or, or_true, reduceIte, Bool.false_eq_true, Int.reduceLT, Int.reduceLE, Nat.reduceLT, Nat.reduceLeDiff, Int.reduceEq, Int.reduceNe, dbl_app, dbl_len, iL_len, e00]
    refine ⟨by omega, by omega, frames_ok (oc_app (frm_oc hbo) (fun y hy => by simp at hy; omega)) (by rw [List.length_append, hfrl]; simp; omega) ?_⟩
    rw [frs_two (List.replicate m x) [0, 0] _ frS_00 (Nat.lt_succ_self _)]
    have e4 : Dv.tup [Dv.tup [Dv.tup (iL (List.replicate m x))], Dv.int ((frm (List.replicate m x)).length : Int)] = frsD ([List.replicate m x], (frm (List.replicate m x)).length) := rfl
    simp only [r_bind, r_pure, r_c, r_var, r_bin, r_u, r_test, r_frz, r_nil, r_cons, r_guard, r_tup, r_lst, r_nopart, r_part, r_sl, r_and, r_or, r_not, r_mite, r_andV, r_notV, r_pop, r_app, r_shr', r_call, rf_fun, r_snil, then_nx, then_rt, r_seq, r_drop, r_set, r_own', r_fix', r_to, r_ret, r_if, r_for, r_for0, r_sub, r_par3, r_par, r_frzT, r_frzF, r_it, r_enum, r_rng, r_comp, op_some, op_none, op_ite, op_map, pk_non, pk_bl, pk_int, pk_str, pk_tup, pk_lst, pk_tmp, pk_scr, pk_own, pkO_some, pk_ref, pkR_some, rd_val, rd_own, fz_non, fz_bl, fz_int, fz_str, fz_tup, fz_lst, fz_tmp, fz_ref, fz_scr, gl_own, gO_some, gl_ref, gR_some, sl_own, sl_ref, ab_bl, ai_int, it_tup, it_lst, it_tmp, it_scr, put_n, put_p, put_t, put_int, put_lst, put_tup, own_tmp, fix_own, shr_tmp, ret_nx, ret_rt, add_ii, add_ll, add_tt, sub_ii, mul_ii, mul_li, mul_ti, div_ii, mod_ii, pow_ii, ints_ii, eq_ii, ne_ii, is_non, is_int, is_tup, is_intB, not_non, not_tup, ix_l, ix_t, sl_l, sl_t, sl_s, rev_l, neg_i, len_l, len_t, int_i, abs_i, tup_l, tup_t, lst_l, lst_t, sum_l, toInts_int, zip_tt, rng_1, rng_2, rng_3, isi_int_int, isi_str_int, isi_bool_int, isi_tup_int, isi_tup_tup, isiC_int, isiC_tup, isiA_int, List.getElem?_cons_zero, List.getElem?_cons_succ, List.set_cons_zero, List.set_cons_succ, List.map_cons, List.map_nil, List.replicate_succ, List.replicate_zero, List.cons_append, List.nil_append, List.length_cons, List.length_nil, Nat.reduceAdd, Nat.reduceSub, Nat.reduceEqDiff, decide_eq_true_eq, Bool.not_eq_true', Bool.not_false, Bool.not_true, decide_eq_false_iff_not, true_and, and_true, true_or, or_true, reduceIte, Bool.false_eq_true, Int.reduceLT, Int.reduceLE, Nat.reduceLT, Nat.reduceLeDiff, Int.reduceEq, Int.reduceNe, fz_frsD, rep_flat, Int.toNat_natCast, e4, dbl_app, dbl_len, List.length_append]
    have q1 : Pl (.tup (iL (frm (List.replicate m x)))) := pl_tL _
    have q2 : sz (.tup (iL (frm (List.replicate m x)))) ≤ 1000000 := by rw [sz_tL, hfrl]; omega
    have q3 := frsD_good (os := frm (List.replicate m x) ++ [0, 0]) (oc_app (frm_oc hbo) (fun y hy => by simp at hy; omega)) (by rw [List.length_append, hfrl]; simp; omega) ((frm (List.replicate m x) ++ [0, 0]).length + 1)
    rw [frs_two (List.replicate m x) [0, 0] _ frS_00 (Nat.lt_succ_self _)] at q3
    refine ⟨⟨by omega, by omega⟩, by omega, ?_⟩
    refine frames_ok (os := []) (fun x hx => by cases hx) (by decide) ?_
    rw [nil_frs]
    simp only [r_bind, r_pure, r_c, r_var, r_bin, r_u, r_test, r_frz, r_nil, r_cons, r_guard, r_tup, r_lst, r_nopart, r_part, r_sl, r_and, r_or, r_not, r_mite, r_andV, r_notV, r_pop, r_app, r_shr', r_call, rf_fun, r_snil, then_nx, then_rt, r_seq, r_drop, r_set, r_own', r_fix', r_to, r_ret, r_if, r_for, r_for0, r_sub, r_par3, r_par, r_frzT, r_frzF, r_it, r_enum, r_rng, r_comp, op_some, op_none, op_ite, op_map, pk_non, pk_bl, pk_int, pk_str, pk_tup, pk_lst, pk_tmp, pk_scr, pk_own, pkO_some, pk_ref, pkR_some, rd_val, rd_own, fz_non, fz_bl, fz_int, fz_str, fz_tup, fz_lst, fz_tmp, fz_ref, fz_scr, gl_own, gO_some, gl_ref, gR_some, sl_own, sl_ref, ab_bl, ai_int, it_tup, it_lst, it_tmp, it_scr, put_n, put_p, put_t, put_int, put_lst, put_tup, own_tmp, fix_own, shr_tmp, ret_nx, ret_rt, add_ii, add_ll, add_tt, sub_ii, mul_ii, mul_li, mul_ti, div_ii, mod_ii, pow_ii, ints_ii, eq_ii, ne_ii, is_non, is_int, is_tup, is_intB, not_non, not_tup, ix_l, ix_t, sl_l, sl_t, sl_s, rev_l, neg_i, len_l, len_t, int_i, abs_i, tup_l, tup_t, lst_l, lst_t, sum_l, toInts_int, zip_tt, rng_1, rng_2, rng_3, isi_int_int, isi_str_int, isi_bool_int, isi_tup_int, isi_tup_tup, isiC_int, isiC_tup, isiA_int, List.getElem?_cons_zero, List.getElem?_cons_succ, List.set_cons_zero, List.set_cons_succ, List.map_cons, List.map_nil, List.replicate_succ, List.replicate_zero, List.cons_append, List.nil_append, List.length_cons, List.length_nil, Nat.reduceAdd, Nat.reduceSub, Nat.reduceEqDiff, decide_eq_true_eq, Bool.not_eq_true', Bool.not_false, Bool.not_true, decide_eq_false_iff_not, true_and, and_true, true_or, or_true, reduceIte, Bool.false_eq_true, Int.reduceLT, Int.reduceLE, Nat.reduceLT, Nat.reduceLeDiff, Int.reduceEq, Int.reduceNe, fz_frsD, nil_eq, dbl_app, dbl_len]
    refine ⟨by omega, ?_⟩
    refine all_ok (gd_app (gd_app (gd_app hg3 q1 q2) q3.1 q3.2) nil_good.1 nil_good.2) ?_
    simp only [r_bind, r_pure, r_c, r_var, r_bin, r_u, r_test, r_frz, r_nil, r_cons, r_guard, r_tup, r_lst, r_nopart, r_part, r_sl, r_and, r_or, r_not, r_mite, r_andV, r_notV, r_pop, r_app, r_shr', r_call, rf_fun, r_snil, then_nx, then_rt, r_seq, r_drop, r_set, r_own', r_fix', r_to, r_ret, r_if, r_for, r_for0, r_sub, r_par3, r_par, r_frzT, r_frzF, r_it, r_enum, r_rng, r_comp, op_some, op_none, op_ite, op_map, pk_non, pk_bl, pk_int, pk_str, pk_tup, pk_lst, pk_tmp, pk_scr, pk_own, pkO_some, pk_ref, pkR_some, rd_val, rd_own, fz_non, fz_bl, fz_int, fz_str, fz_tup, fz_lst, fz_tmp, fz_ref, fz_scr, gl_own, gO_some, gl_ref, gR_some, sl_own, sl_ref, ab_bl, ai_int, it_tup, it_lst, it_tmp, it_scr, put_n, put_p, put_t, put_int, put_lst, put_tup, own_tmp, fix_own, shr_tmp, ret_nx, ret_rt, add_ii, add_ll, add_tt, sub_ii, mul_ii, mul_li, mul_ti, div_ii, mod_ii, pow_ii, ints_ii, eq_ii, ne_ii, is_non, is_int, is_tup, is_intB, not_non, not_tup, ix_l, ix_t, sl_l, sl_t, sl_s, rev_l, neg_i, len_l, len_t, int_i, abs_i, tup_l, tup_t, lst_l, lst_t, sum_l, toInts_int, zip_tt, rng_1, rng_2, rng_3, isi_int_int, isi_str_int, isi_bool_int, isi_tup_int, isi_tup_tup, isiC_int, isiC_tup, isiA_int, List.getElem?_cons_zero, List.getElem?_cons_succ, List.set_cons_zero, List.set_cons_succ, List.map_cons, List.map_nil, List.replicate_succ, List.replicate_zero, List.cons_append, List.nil_append, List.length_cons, List.length_nil, Nat.reduceAdd, Nat.reduceSub, Nat.reduceEqDiff, decide_eq_true_eq, Bool.not_eq_true', Bool.not_false, Bool.not_true, decide_eq_false_iff_not, true_and, and_true, true_or, or_true, reduceIte, Bool.false_eq_true, Int.reduceLT, Int.reduceLE, Nat.reduceLT, Nat.reduceLeDiff, Int.reduceEq, Int.reduceNe]
    exact hp _
  · rw [if_neg hk]
    refine ⟨Nat.zero_le _, ?_⟩
    refine frames_ok (os := []) (fun x hx => by cases hx) (by decide) ?_
    rw [nil_frs]
    simp only [r_bind, r_pure, r_c, r_var, r_bin, r_u, r_test, r_frz, r_nil, r_cons, r_guard, r_tup, r_lst, r_nopart, r_part, r_sl, r_and, r_or, r_not, r_mite, r_andV, r_notV, r_pop, r_app, r_shr', r_call, rf_fun, r_snil, then_nx, then_rt, r_seq, r_drop, r_set, r_own', r_fix', r_to, r_ret, r_if, r_for, r_for0, r_sub, r_par3, r_par, r_frzT, r_frzF, r_it, r_enum, r_rng, r_comp, op_some, op_none, op_ite, op_map, pk_non, pk_bl, pk_int, pk_str, pk_tup, pk_lst, pk_tmp, pk_scr, pk_own, pkO_some, pk_ref, pkR_some, rd_val, rd_own, fz_non, fz_bl, fz_int, fz_str, fz_tup, fz_lst, fz_tmp, fz_ref, fz_scr, gl_own, gO_some, gl_ref, gR_some, sl_own, sl_ref, ab_bl, ai_int, it_tup, it_lst, it_tmp, it_scr, put_n, put_p, put_t, put_int, put_lst, put_tup, own_tmp, fix_own, shr_tmp, ret_nx, ret_rt, add_ii, add_ll, add_tt, sub_ii, mul_ii, mul_li, mul_ti, div_ii, mod_ii, pow_ii, ints_ii, eq_ii, ne_ii, is_non, is_int, is_tup, is_intB, not_non, not_tup, ix_l, ix_t, sl_l, sl_t, sl_s, rev_l, neg_i, len_l, len_t, int_i, abs_i, tup_l, tup_t, lst_l, lst_t, sum_l, toInts_int, zip_tt, rng_1, rng_2, rng_3, isi_int_int, isi_str_int, isi_bool_int, isi_tup_int, isi_tup_tup, isiC_int, isiC_tup, isiA_int, List.getElem?_cons_zero, List.getElem?_cons_succ, List.set_cons_zero, List.set_cons_succ, List.map_cons, List.map_nil, List.replicate_succ, List.replicate_zero, List.cons_append, List.nil_append, List.length_cons, List.length_nil, Nat.reduceAdd, Nat.reduceSub, Nat.reduceEqDiff, decide_eq_true_eq, Bool.not_eq_true', Bool.not_false, Bool.not_true, decide_eq_false_iff_not, true_and, and_true, true_or, or_true, reduceIte, Bool.false_eq_true, Int.reduceLT, Int.reduceLE, Nat.reduceLT, Nat.reduceLeDiff, Int.reduceEq, Int.reduceNe, fz_frsD, nil_eq, dbl_app, dbl_len]
    refine ⟨Nat.zero_le _, by rw [lim_is]; omega, by rw [lim_is]; omega, by rw [lim_is]; omega, ?_⟩
    refine all_ok (gd_app hg3 nil_good.1 nil_good.2) ?_
    simp only [r_bind, r_pure, r_c, r_var, r_bin, r_u, r_test, r_frz, r_nil, r_cons, r_guard, r_tup, r_lst, r_nopart, r_part, r_sl, r_and, r_or, r_not, r_mite, r_andV, r_notV, r_pop, r_app, r_shr', r_call, rf_fun, r_snil, then_nx, then_rt, r_seq, r_drop, r_set, r_own', r_fix', r_to, r_ret, r_if, r_for, r_for0, r_sub, r_par3, r_par, r_frzT, r_frzF, r_it, r_enum, r_rng, r_comp, op_some, op_none, op_ite, op_map, pk_non, pk_bl, pk_int, pk_str, pk_tup, pk_lst, pk_tmp, pk_scr, pk_own, pkO_some, pk_ref, pkR_some, rd_val, rd_own, fz_non, fz_bl, fz_int, fz_str, fz_tup, fz_lst, fz_tmp, fz_ref, fz_scr, gl_own, gO_some, gl_ref, gR_some, sl_own, sl_ref, ab_bl, ai_int, it_tup, it_lst, it_tmp, it_scr, put_n, put_p, put_t, put_int, put_lst, put_tup, own_tmp, fix_own, shr_tmp, ret_nx, ret_rt, add_ii, add_ll, add_tt, sub_ii, mul_ii, mul_li, mul_ti, div_ii, mod_ii, pow_ii, ints_ii, eq_ii, ne_ii, is_non, is_int, is_tup, is_intB, not_non, not_tup, ix_l, ix_t, sl_l, sl_t, sl_s, rev_l, neg_i, len_l, len_t, int_i, abs_i, tup_l, tup_t, lst_l, lst_t, sum_l, toInts_int, zip_tt, rng_1, rng_2, rng_3, isi_int_int, isi_str_int, isi_bool_int, isi_tup_int, isi_tup_tup, isiC_int, isiC_tup, isiA_int, List.getElem?_cons_zero, List.getElem?_cons_succ, List.set_cons_zero, List.set_cons_succ, List.map_cons, List.map_nil, List.replicate_succ, List.replicate_zero, List.cons_append, List.nil_append, List.length_cons, List.length_nil, Nat.reduceAdd, Nat.reduceSub, Nat.reduceEqDiff, decide_eq_true_eq, Bool.not_eq_true', Bool.not_false, Bool.not_true, decide_eq_false_iff_not, true_and, and_true, true_or, or_true, reduceIte, Bool.false_eq_true, Int.reduceLT, Int.reduceLE, Nat.reduceLT, Nat.reduceLeDiff, Int.reduceEq, Int.reduceNe]
    exact hp _
theorem law_true (ns : List Int) (hl : ns.length ≤ 63) : ∃ h, M_law [.scr ns] [] = .ok (.bl true) h := by
  have := law_rf (P := fun d h => d = .bl true) ns fun _ => rfl
  cases he : M_law [.scr ns] [] with
  | ok d h =>
    rw [he] at this
    exact ⟨h, by rw [show d = .bl true from this]⟩
  | ex e h => rw [he] at this; exact this.elim
  | no => rw [he] at this; exact this.elim
end K74

set_option Elab.async false
set_option linter.all false
set_option maxRecDepth 100000
set_option maxHeartbeats 4000000
/-! the walks -/
namespace K74
open PySem PySem.Spec L2 Mir
theorem se_gint {X : Cx} {E : XE} {x : Str} {i : Int} {pos : Pos} (h : ∃ t, X.mg x = some (.int i t)) (hg : Gl X x := by rfl) (hd : (x == ("__debug__" : Str)) = false := by decide) : PE X (.Name x pos) (tI X.K E (mC (.int i))) := by
  obtain ⟨t, h⟩ := h
  exact se_glob (v := .int i) hg h ⟨_, rfl⟩ (fun _ _ _ => .int _) hd
structure Cst (mg : Str → Option Value) : Prop where
  BASE : ∃ t, mg "BASE" = some (.int 128 t)
  OCTET : ∃ t, mg "OCTET" = some (.int 256 t)
  PRIME : ∃ t, mg "PRIME" = some (.int 65521 t)
  SUM_OCTETS : ∃ t, mg "SUM_OCTETS" = some (.int 2 t)
section
variable {P : Program} {w : World} {K : PySem.W.Frag} {mg : Str → Option Value} {base : Heap}
theorem wk_law_is_kind {f : Addr} (gb : Blt mg) (gc : Cst mg) (cdv : Value) (A : Around) (outer : List PySem.Env) (s : Shared) (H : Hp) (Q : VK) (E : XK) (hr : Room 0 (A.deeper (PyProof.Rows.envOfC "_law_is_kind" (defScope s_law_is_kind) s.heap.objs.size f cdv))) :
    PSs (cxOf CX0 P w K mg base N_law_is_kind "_law_is_kind" (defScope s_law_is_kind) f cdv A outer s H E).nox (defBody s_law_is_kind) (tS K B_law_is_kind) :=
  have nd : List.Nodup N_law_is_kind := sc_law_is_kind.nd
  (ss_cons (ss_if (st_cmp og_is (se_var 1) se_non (nomark _))
  (ss_cons (ss_ret (se_cmp og_is (se_var 0) se_non (nomark _)))
  ss_nil)
  ss_nil)
  (ss_cons (ss_if ((st_or (st_cmp og_is (se_var 1) se_bl (nomark _)) (st_or1 (st_cmp og_is (se_var 1) se_bl (nomark _))))).pt
  (ss_cons (ss_ret (se_if (st_val (se_var 1)) (se_cmp og_is (se_var 0) se_bl (nomark _)) (se_cmp og_is (se_var 0) se_bl (nomark _))))
  ss_nil)
  ss_nil)
  (ss_cons (ss_if (st_val (se_isi .str (se_var 1) gb.isinstance gb.str))
  (ss_cons (ss_ret (se_and (se_isi .str (se_var 0) gb.isinstance gb.str) (se_one (se_cmp (og_eq hr.units) (se_var 0) (se_var 1) (nomark _)))))
  ss_nil)
  ss_nil)
  (ss_cons (ss_ret (se_and (se_isi .int (se_var 0) gb.isinstance gb.int) (se_and (se_not (se_isi .bool (se_var 0) gb.isinstance gb.bool)) (se_one (se_cmp (og_eq hr.units) (se_var 0) (se_var 1) (nomark _))))))
  ss_nil))))
theorem kn_law_is_kind {f : Addr} {fd : FuncData} (F : Fun K "_law_is_kind" "_law_is_kind" s_law_is_kind f fd) (hm : mg "_law_is_kind" = some (.ref f)) (hb : Binds K fd ["told", "due"] []) (gb : Blt mg) (gc : Cst mg) : Kn P w K mg base 1 "_law_is_kind" 2 M_law_is_kind :=
  kn_mk F sc_law_is_kind rfl hm hb rfl (fun cdv A outer s H Q E hr => wk_law_is_kind gb gc  cdv A outer s H Q E hr)
theorem wk_law_same {f : Addr} (gb : Blt mg) (gc : Cst mg) (kn_law_is_kind : Kn P w K mg base 1 "_law_is_kind" 2 M_law_is_kind) {CAnswer : Addr} (cAnswer : mg "Answer" = some (.ref CAnswer)) (nAnswer : NoKd K CAnswer) (cdv : Value) (A : Around) (outer : List PySem.Env) (s : Shared) (H : Hp) (Q : VK) (E : XK) (hr : Room 1 (A.deeper (PyProof.Rows.envOfC "_law_same" (defScope s_law_same) s.heap.objs.size f cdv))) :
    PSs (cxOf CX0 P w K mg base N_law_same "_law_same" (defScope s_law_same) f cdv A outer s H E).nox (defBody s_law_same) (tS K B_law_same) :=
  have nd : List.Nodup N_law_same := sc_law_same.nd
  (ss_cons (ss_own 2 nd (se_lst (sa_cons (se_tup (sa_cons (se_var 0) (sa_cons (se_var 1) sa_nil))) sa_nil)))
  (ss_cons (ss_while PassesOwn.never (st_cmp og_gt (se_bi bg_len (se_var 2) gb.len) se_int (nomark _))
  (ss_cons (ss_to g_pair (pg_tup rfl (pgs_cons (pg_name (i := 3) nd rfl (Or.inl rfl)) (pgs_cons (pg_name (i := 4) nd rfl (Or.inl rfl)) pgs_nil))) (se_pop (se_var 2)))
  (ss_cons (ss_set 3 nd (se_if (st_val (se_isiC (se_var 3) gb.isinstance cAnswer nAnswer)) se_no (se_var 3)))
  (ss_cons (ss_if (st_val (se_isi .tuple (se_var 4) gb.isinstance gb.tuple))
  (ss_cons (ss_if ((st_or (st_not (st_val (se_isi .tuple (se_var 3) gb.isinstance gb.tuple))) (st_or1 (st_cmp (og_ne hr.units) (se_bi bg_len (se_var 3) gb.len) (se_bi bg_len (se_var 4) gb.len) (nomark _))))).pt
  (ss_cons (ss_ret se_bl)
  ss_nil)
  ss_nil)
  (ss_cons (ss_own 2 nd (se_bin og_add (se_var 2) (se_listZip rfl (se_var 3) (se_var 4) gb.list gb.zip)))
  ss_nil))
  (ss_cons (ss_if ((st_or (st_val (se_isiA (se_var 3) (pty_cons .tuple (pty_cons .list (pty_cons .dict pty_nil gb.dict) gb.list) gb.tuple) (by decide) gb.isinstance)) (st_or1 (st_not (st_val (se_kn kn_law_is_kind hr (sa_cons (se_var 3) (sa_cons (se_var 4) sa_nil)))))))).pt
  (ss_cons (ss_ret se_bl)
  ss_nil)
  ss_nil)
  ss_nil))
  ss_nil))))
  (ss_cons (ss_ret se_bl)
  ss_nil)))
theorem kn_law_same {f : Addr} {fd : FuncData} (F : Fun K "_law_same" "_law_same" s_law_same f fd) (hm : mg "_law_same" = some (.ref f)) (hb : Binds K fd ["told", "due"] []) (gb : Blt mg) (gc : Cst mg) (kn_law_is_kind : Kn P w K mg base 1 "_law_is_kind" 2 M_law_is_kind) {CAnswer : Addr} (cAnswer : mg "Answer" = some (.ref CAnswer)) (nAnswer : NoKd K CAnswer) : Kn P w K mg base 2 "_law_same" 2 M_law_same :=
  kn_mk F sc_law_same rfl hm hb rfl (fun cdv A outer s H Q E hr => wk_law_same gb gc kn_law_is_kind cAnswer nAnswer cdv A outer s H Q E hr)
theorem wk_law_all {f : Addr} (gb : Blt mg) (gc : Cst mg) (kn_law_same : Kn P w K mg base 2 "_law_same" 2 M_law_same) (cdv : Value) (A : Around) (outer : List PySem.Env) (s : Shared) (H : Hp) (Q : VK) (E : XK) (hr : Room 2 (A.deeper (PyProof.Rows.envOfC "_law_all" (defScope s_law_all) s.heap.objs.size f cdv))) :
    PSs (cxOf CX0 P w K mg base N_law_all "_law_all" (defScope s_law_all) f cdv A outer s H E).nox (defBody s_law_all) (tS K B_law_all) :=
  have nd : List.Nodup N_law_all := sc_law_all.nd
  (ss_cons (ss_ret (se_cmp (og_eq hr.units) (se_bi bg_len (se_lc (own := [("told", 1), ("due", 2)]) rfl nd (wi_val (se_var 0)) (blkOk_by (own := [("told", 1), ("due", 2)]) (N := N_law_all) (sc := defScope s_law_all) (by decide +kernel)) g_pair (fun _ _ _ _ _ => (pg_tup rfl (pgs_cons (pg_name (i := 1) nd rfl (Or.inl rfl)) (pgs_cons (pg_name (i := 2) nd rfl (Or.inl rfl)) pgs_nil)))) (fun _ _ _ _ _ => (pts_one (st_not (st_val (se_kn kn_law_same hr (sa_cons (se_var 1) (sa_cons (se_var 2) sa_nil))))))) (fun _ _ _ _ _ => (se_var 1))) gb.len) se_int (nomark _)))
  ss_nil)
theorem kn_law_all {f : Addr} {fd : FuncData} (F : Fun K "_law_all" "_law_all" s_law_all f fd) (hm : mg "_law_all" = some (.ref f)) (hb : Binds K fd ["pairs"] []) (gb : Blt mg) (gc : Cst mg) (kn_law_same : Kn P w K mg base 2 "_law_same" 2 M_law_same) : Kn P w K mg base 3 "_law_all" 1 M_law_all :=
  kn_mk F sc_law_all rfl hm hb rfl (fun cdv A outer s H Q E hr => wk_law_all gb gc kn_law_same cdv A outer s H Q E hr)
theorem wk_sum_of_octets {f : Addr} (gb : Blt mg) (gc : Cst mg) (cdv : Value) (A : Around) (outer : List PySem.Env) (s : Shared) (H : Hp) (Q : VK) (E : XK) (hr : Room 0 (A.deeper (PyProof.Rows.envOfC "sum_of_octets" (defScope s_sum_of_octets) s.heap.objs.size f cdv))) :
    PSs (cxOf CX0 P w K mg base N_sum_of_octets "sum_of_octets" (defScope s_sum_of_octets) f cdv A outer s H E).nox (defBody s_sum_of_octets) (tS K B_sum_of_octets) :=
  have nd : List.Nodup N_sum_of_octets := sc_sum_of_octets.nd
  (ss_cons (ss_set 1 nd se_int)
  (ss_cons (ss_for PassesOwn.never rfl (wi_enum rfl gb.enumerate (sa_cons (se_var 0) sa_nil)) g_pair (pg_tup rfl (pgs_cons (pg_name (i := 2) nd rfl (Or.inl rfl)) (pgs_cons (pg_name (i := 3) nd rfl (Or.inl rfl)) pgs_nil)))
  (ss_cons (ss_aug 1 nd (se_bin og_mul (se_bin og_add (se_var 2) se_int) (se_var 3)) ip_add)
  ss_nil))
  (ss_cons (ss_ret (se_bin og_mod (se_var 1) (se_gint gc.PRIME)))
  ss_nil)))
theorem kn_sum_of_octets {f : Addr} {fd : FuncData} (F : Fun K "sum_of_octets" "sum_of_octets" s_sum_of_octets f fd) (hm : mg "sum_of_octets" = some (.ref f)) (hb : Binds K fd ["octets"] []) (gb : Blt mg) (gc : Cst mg) : Kn P w K mg base 1 "sum_of_octets" 1 M_sum_of_octets :=
  kn_mk F sc_sum_of_octets rfl hm hb rfl (fun cdv A outer s H Q E hr => wk_sum_of_octets gb gc  cdv A outer s H Q E hr)
theorem wk_sum_pair {f : Addr} (gb : Blt mg) (gc : Cst mg) (kn_sum_of_octets : Kn P w K mg base 1 "sum_of_octets" 1 M_sum_of_octets) (cdv : Value) (A : Around) (outer : List PySem.Env) (s : Shared) (H : Hp) (Q : VK) (E : XK) (hr : Room 1 (A.deeper (PyProof.Rows.envOfC "sum_pair" (defScope s_sum_pair) s.heap.objs.size f cdv))) :
    PSs (cxOf CX0 P w K mg base N_sum_pair "sum_pair" (defScope s_sum_pair) f cdv A outer s H E).nox (defBody s_sum_pair) (tS K B_sum_pair) :=
  have nd : List.Nodup N_sum_pair := sc_sum_pair.nd
  (ss_cons (ss_set 1 nd (se_kn kn_sum_of_octets hr (sa_cons (se_var 0) sa_nil)))
  (ss_cons (ss_ret (se_tup (sa_cons (se_bin og_mod (se_var 1) (se_gint gc.OCTET)) (sa_cons (se_bin og_div (se_var 1) (se_gint gc.OCTET)) sa_nil))))
  ss_nil))
theorem kn_sum_pair {f : Addr} {fd : FuncData} (F : Fun K "sum_pair" "sum_pair" s_sum_pair f fd) (hm : mg "sum_pair" = some (.ref f)) (hb : Binds K fd ["body"] []) (gb : Blt mg) (gc : Cst mg) (kn_sum_of_octets : Kn P w K mg base 1 "sum_of_octets" 1 M_sum_of_octets) : Kn P w K mg base 2 "sum_pair" 1 M_sum_pair :=
  kn_mk F sc_sum_pair rfl hm hb rfl (fun cdv A outer s H Q E hr => wk_sum_pair gb gc kn_sum_of_octets cdv A outer s H Q E hr)
theorem wk_number_of {f : Addr} (gb : Blt mg) (gc : Cst mg) (cdv : Value) (A : Around) (outer : List PySem.Env) (s : Shared) (H : Hp) (Q : VK) (E : XK) (hr : Room 0 (A.deeper (PyProof.Rows.envOfC "number_of" (defScope s_number_of) s.heap.objs.size f cdv))) :
    PSs (cxOf CX0 P w K mg base N_number_of "number_of" (defScope s_number_of) f cdv A outer s H E).nox (defBody s_number_of) (tS K B_number_of) :=
  have nd : List.Nodup N_number_of := sc_number_of.nd
  (ss_cons (ss_to g_pair (pg_tup rfl (pgs_cons (pg_name (i := 1) nd rfl (Or.inr rfl)) (pgs_cons (pg_name (i := 2) nd rfl (Or.inr rfl)) pgs_nil))) (se_tup (sa_cons (se_ty bg_list (se_var 0) gb.list) (sa_cons (se_gint gc.BASE) sa_nil))))
  (ss_cons (ss_while PassesOwn.never (st_cmp og_gt (se_bi bg_len (se_var 1) gb.len) se_int (nomark _))
  (ss_cons (ss_ownLc (i := 3) (own := [("at", 4)]) rfl nd rfl (wi_rng3 rfl gb.range (sa_cons se_int (sa_cons (se_bin og_sub (se_bi bg_len (se_var 1) gb.len) se_int) (sa_cons se_int sa_nil)))) (blkOk_by (own := [("at", 4)]) (N := N_number_of) (sc := defScope s_number_of) (by decide +kernel)) g_name (fun _ _ _ _ _ => (pg_name (i := 4) nd rfl (Or.inl rfl))) (fun _ _ _ _ _ => pts_none) (fun _ _ _ _ _ => (se_bin og_add (se_ix (se_var 1) (se_var 4)) (se_bin og_mul (se_var 2) (se_ix (se_var 1) (se_bin og_add (se_var 4) se_int))))))
  (ss_cons (ss_if (st_cmp (og_eq hr.units) (se_bin og_mod (se_bi bg_len (se_var 1) gb.len) se_int) se_int (nomark _))
  (ss_cons (ss_drop (se_app (se_var 3) (se_ix (se_var 1) (se_bin og_sub (se_bi bg_len (se_var 1) gb.len) se_int))))
  ss_nil)
  ss_nil)
  (ss_fix (i := 3)
  (ss_cons (ss_set 1 nd (se_var 3))
  (ss_cons (ss_set 2 nd (se_bin og_mul (se_var 2) (se_var 2)))
  ss_nil))))))
  (ss_cons (ss_ret (se_ix (se_var 1) se_int))
  ss_nil)))
theorem kn_number_of {f : Addr} {fd : FuncData} (F : Fun K "number_of" "number_of" s_number_of f fd) (hm : mg "number_of" = some (.ref f)) (hb : Binds K fd ["figures"] []) (gb : Blt mg) (gc : Cst mg) : Kn P w K mg base 1 "number_of" 1 M_number_of :=
  kn_mk F sc_number_of rfl hm hb rfl (fun cdv A outer s H Q E hr => wk_number_of gb gc  cdv A outer s H Q E hr)
theorem wk_behind_number {f : Addr} (gb : Blt mg) (gc : Cst mg) (cdv : Value) (A : Around) (outer : List PySem.Env) (s : Shared) (H : Hp) (Q : VK) (E : XK) (hr : Room 0 (A.deeper (PyProof.Rows.envOfC "behind_number" (defScope s_behind_number) s.heap.objs.size f cdv))) :
    PSs (cxOf CX0 P w K mg base N_behind_number "behind_number" (defScope s_behind_number) f cdv A outer s H E).nox (defBody s_behind_number) (tS K B_behind_number) :=
  have nd : List.Nodup N_behind_number := sc_behind_number.nd
  (ss_cons (ss_if (st_cmp og_lt (se_var 1) se_int (nomark _))
  (ss_cons (ss_ret se_non)
  ss_nil)
  ss_nil)
  (ss_cons (ss_for PassesOwn.never rfl (wi_rng2 rfl gb.range (sa_cons (se_var 1) (sa_cons (se_bi bg_len (se_var 0) gb.len) sa_nil))) g_name (pg_name (i := 2) nd rfl (Or.inl rfl))
  (ss_cons (ss_if (st_cmp og_lt (se_ix (se_var 0) (se_var 2)) (se_gint gc.BASE) (nomark _))
  (ss_cons (ss_ret (se_bin og_add (se_var 2) se_int))
  ss_nil)
  ss_nil)
  ss_nil))
  (ss_cons (ss_ret se_non)
  ss_nil)))
theorem kn_behind_number {f : Addr} {fd : FuncData} (F : Fun K "behind_number" "behind_number" s_behind_number f fd) (hm : mg "behind_number" = some (.ref f)) (hb : Binds K fd ["octets", "at"] []) (gb : Blt mg) (gc : Cst mg) : Kn P w K mg base 1 "behind_number" 2 M_behind_number :=
  kn_mk F sc_behind_number rfl hm hb rfl (fun cdv A outer s H Q E hr => wk_behind_number gb gc  cdv A outer s H Q E hr)
theorem wk_number_in {f : Addr} (gb : Blt mg) (gc : Cst mg) (kn_number_of : Kn P w K mg base 1 "number_of" 1 M_number_of) (kn_behind_number : Kn P w K mg base 1 "behind_number" 2 M_behind_number) (cdv : Value) (A : Around) (outer : List PySem.Env) (s : Shared) (H : Hp) (Q : VK) (E : XK) (hr : Room 1 (A.deeper (PyProof.Rows.envOfC "number_in" (defScope s_number_in) s.heap.objs.size f cdv))) :
    PSs (cxOf CX0 P w K mg base N_number_in "number_in" (defScope s_number_in) f cdv A outer s H E).nox (defBody s_number_in) (tS K B_number_in) :=
  have nd : List.Nodup N_number_in := sc_number_in.nd
  (ss_cons (ss_set 2 nd (se_kn kn_behind_number hr (sa_cons (se_var 0) (sa_cons (se_var 1) sa_nil))))
  (ss_cons (ss_if ((st_or (st_cmp og_is (se_var 2) se_non (nomark _)) (st_or1 ((st_and (st_cmp og_gt (se_bin og_sub (se_var 2) (se_var 1)) se_int (nomark _)) (st_and1 (st_cmp (og_eq hr.units) (se_ix (se_var 0) (se_bin og_sub (se_var 2) se_int)) se_int (nomark _))))).pt))).pt
  (ss_cons (ss_ret se_non)
  ss_nil)
  ss_nil)
  (ss_cons (ss_set 3 nd (se_bin og_add (se_lc (own := [("octet", 4)]) rfl nd (wi_val (se_sl (se_var 0) (so_some (se_var 1)) (so_some (se_bin og_sub (se_var 2) se_int)))) (blkOk_by (own := [("octet", 4)]) (N := N_number_in) (sc := defScope s_number_in) (by decide +kernel)) g_name (fun _ _ _ _ _ => (pg_name (i := 4) nd rfl (Or.inl rfl))) (fun _ _ _ _ _ => pts_none) (fun _ _ _ _ _ => (se_bin og_sub (se_var 4) (se_gint gc.BASE)))) (se_lst (sa_cons (se_ix (se_var 0) (se_bin og_sub (se_var 2) se_int)) sa_nil))))
  (ss_cons (ss_ret (se_tup (sa_cons (se_kn kn_number_of hr (sa_cons (se_var 3) sa_nil)) (sa_cons (se_var 2) sa_nil))))
  ss_nil))))
theorem kn_number_in {f : Addr} {fd : FuncData} (F : Fun K "number_in" "number_in" s_number_in f fd) (hm : mg "number_in" = some (.ref f)) (hb : Binds K fd ["octets", "at"] []) (gb : Blt mg) (gc : Cst mg) (kn_number_of : Kn P w K mg base 1 "number_of" 1 M_number_of) (kn_behind_number : Kn P w K mg base 1 "behind_number" 2 M_behind_number) : Kn P w K mg base 2 "number_in" 2 M_number_in :=
  kn_mk F sc_number_in rfl hm hb rfl (fun cdv A outer s H Q E hr => wk_number_in gb gc kn_number_of kn_behind_number cdv A outer s H Q E hr)
theorem wk_frame_at {f : Addr} (gb : Blt mg) (gc : Cst mg) (kn_sum_pair : Kn P w K mg base 2 "sum_pair" 1 M_sum_pair) (kn_number_in : Kn P w K mg base 2 "number_in" 2 M_number_in) (cdv : Value) (A : Around) (outer : List PySem.Env) (s : Shared) (H : Hp) (Q : VK) (E : XK) (hr : Room 2 (A.deeper (PyProof.Rows.envOfC "frame_at" (defScope s_frame_at) s.heap.objs.size f cdv))) :
    PSs (cxOf CX0 P w K mg base N_frame_at "frame_at" (defScope s_frame_at) f cdv A outer s H E).nox (defBody s_frame_at) (tS K B_frame_at) :=
  have nd : List.Nodup N_frame_at := sc_frame_at.nd
  (ss_cons (ss_set 2 nd (se_kn kn_number_in hr (sa_cons (se_var 0) (sa_cons (se_var 1) sa_nil))))
  (ss_cons (ss_if ((st_or (st_cmp og_is (se_var 2) se_non (nomark _)) (st_or1 (st_cmp og_gt (se_bin og_add (se_ix (se_var 2) se_int) (se_gint gc.SUM_OCTETS)) (se_bin og_sub (se_bi bg_len (se_var 0) gb.len) (se_ix (se_var 2) se_int)) (nomark _))))).pt
  (ss_cons (ss_ret se_non)
  ss_nil)
  ss_nil)
  (ss_cons (ss_set 3 nd (se_bin og_add (se_ix (se_var 2) se_int) (se_ix (se_var 2) se_int)))
  (ss_cons (ss_set 4 nd (se_sl (se_var 0) (so_some (se_ix (se_var 2) se_int)) (so_some (se_var 3))))
  (ss_cons (ss_if (st_cmp (og_ne hr.units) (se_sl (se_var 0) (so_some (se_var 3)) (so_some (se_bin og_add (se_var 3) (se_gint gc.SUM_OCTETS)))) (se_kn kn_sum_pair hr (sa_cons (se_var 4) sa_nil)) (nomark _))
  (ss_cons (ss_ret se_non)
  ss_nil)
  ss_nil)
  (ss_cons (ss_ret (se_tup (sa_cons (se_var 4) (sa_cons (se_bin og_add (se_var 3) (se_gint gc.SUM_OCTETS)) sa_nil))))
  ss_nil))))))
theorem kn_frame_at {f : Addr} {fd : FuncData} (F : Fun K "frame_at" "frame_at" s_frame_at f fd) (hm : mg "frame_at" = some (.ref f)) (hb : Binds K fd ["octets", "at"] []) (gb : Blt mg) (gc : Cst mg) (kn_sum_pair : Kn P w K mg base 2 "sum_pair" 1 M_sum_pair) (kn_number_in : Kn P w K mg base 2 "number_in" 2 M_number_in) : Kn P w K mg base 3 "frame_at" 2 M_frame_at :=
  kn_mk F sc_frame_at rfl hm hb rfl (fun cdv A outer s H Q E hr => wk_frame_at gb gc kn_sum_pair kn_number_in cdv A outer s H Q E hr)
theorem wk_frames {f : Addr} (gb : Blt mg) (gc : Cst mg) (kn_frame_at : Kn P w K mg base 3 "frame_at" 2 M_frame_at) (cdv : Value) (A : Around) (outer : List PySem.Env) (s : Shared) (H : Hp) (Q : VK) (E : XK) (hr : Room 3 (A.deeper (PyProof.Rows.envOfC "frames" (defScope s_frames) s.heap.objs.size f cdv))) :
    PSs (cxOf CX0 P w K mg base N_frames "frames" (defScope s_frames) f cdv A outer s H E).nox (defBody s_frames) (tS K B_frames) :=
  have nd : List.Nodup N_frames := sc_frames.nd
  (ss_cons (ss_set 0 nd (se_ty bg_tuple (se_var 0) gb.tuple))
  (ss_cons (ss_par true false 2 3 rfl nd (se_lst sa_nil) se_int rfl)
  (ss_cons (ss_set 1 nd (se_kn kn_frame_at hr (sa_cons (se_var 0) (sa_cons se_int sa_nil))))
  (ss_cons (ss_while PassesOwn.never (st_cmp og_isNot (se_var 1) se_non (nomark _))
  (ss_cons (ss_drop (se_app (se_var 2) (se_ix (se_var 1) se_int)))
  (ss_cons (ss_set 3 nd (se_ix (se_var 1) se_int))
  (ss_cons (ss_set 1 nd (se_kn kn_frame_at hr (sa_cons (se_var 0) (sa_cons (se_var 3) sa_nil))))
  ss_nil))))
  (ss_cons (ss_ret (se_tup (sa_cons (se_ty bg_tuple (se_var 2) gb.tuple) (sa_cons (se_var 3) sa_nil))))
  ss_nil)))))
theorem kn_frames {f : Addr} {fd : FuncData} (F : Fun K "frames" "frames" s_frames f fd) (hm : mg "frames" = some (.ref f)) (hb : Binds K fd ["octets"] []) (gb : Blt mg) (gc : Cst mg) (kn_frame_at : Kn P w K mg base 3 "frame_at" 2 M_frame_at) : Kn P w K mg base 4 "frames" 1 M_frames :=
  kn_mk F sc_frames rfl hm hb rfl (fun cdv A outer s H Q E hr => wk_frames gb gc kn_frame_at cdv A outer s H Q E hr)
theorem kk_frames {f : Addr} {fd : FuncData} (F : Fun K "frames" "frames" s_frames f fd) (hm : mg "frames" = some (.ref f)) (hb : ∀ (s : Shared) (u : Value), K.In s.heap → BindsTo s fd ⟨[], [("octets", u)]⟩ [("octets", u)]) (gb : Blt mg) (gc : Cst mg) (kn_frame_at : Kn P w K mg base 3 "frame_at" 2 M_frame_at) : KnK P w K mg base 4 "frames" "octets" M_frames :=
  knk_mk F sc_frames hm hb rfl (fun cdv A outer s H Q E hr => wk_frames gb gc kn_frame_at cdv A outer s H Q E hr)
theorem wk_law_any {f : Addr} (gb : Blt mg) (gc : Cst mg) (cdv : Value) (A : Around) (outer : List PySem.Env) (s : Shared) (H : Hp) (Q : VK) (E : XK) (hr : Room 0 (A.deeper (PyProof.Rows.envOfC "_law_any" (defScope s_law_any) s.heap.objs.size f cdv))) :
    PSs (cxOf CX0 P w K mg base N_law_any "_law_any" (defScope s_law_any) f cdv A outer s H E).nox (defBody s_law_any) (tS K B_law_any) :=
  have nd : List.Nodup N_law_any := sc_law_any.nd
  (ss_cons (ss_while PassesOwn.never ((st_and (st_cmp og_gt (se_bi bg_len (se_ix (se_var 0) se_int) gb.len) se_int (nomark _)) (st_and1 (st_cmp (og_eq hr.units) (se_ix (se_ix (se_var 0) se_int) (se_neg se_int)) se_int (nomark _))))).pt
  (ss_cons (ss_drop (se_pop (se_ix (se_var 0) se_int)))
  ss_nil))
  (ss_cons (ss_if (st_cmp og_gt (se_bi bg_len (se_ix (se_var 0) se_int) gb.len) se_int (nomark _))
  (ss_cons (ss_set 2 nd (se_ty bg_int (se_pop (se_ix (se_var 0) se_int)) gb.int))
  (ss_cons (ss_drop (se_app (se_ix (se_var 0) se_int) (se_bin og_div (se_var 2) (se_var 1))))
  (ss_cons (ss_ret (se_bin og_mod (se_var 2) (se_var 1)))
  ss_nil)))
  ss_nil)
  (ss_cons (ss_sub (se_bin og_mod (se_ty bg_int (se_bin og_add (se_bin og_mul (se_ix (se_var 0) se_int) se_int) se_int) gb.int) se_int) (se_var 0) se_int)
  (ss_cons (ss_ret (se_bin og_mod (se_ty bg_int (se_bin og_div (se_ix (se_var 0) se_int) se_int) gb.int) (se_var 1)))
  ss_nil))))
theorem kn_law_any {f : Addr} {fd : FuncData} (F : Fun K "_law_any" "_law_any" s_law_any f fd) (hm : mg "_law_any" = some (.ref f)) (hb : Binds K fd ["deal", "bound"] []) (gb : Blt mg) (gc : Cst mg) : Kn P w K mg base 1 "_law_any" 2 M_law_any :=
  kn_mk F sc_law_any rfl hm hb rfl (fun cdv A outer s H Q E hr => wk_law_any gb gc  cdv A outer s H Q E hr)
theorem wk_octets_of_number {f : Addr} (gb : Blt mg) (gc : Cst mg) (cdv : Value) (A : Around) (outer : List PySem.Env) (s : Shared) (H : Hp) (Q : VK) (E : XK) (hr : Room 0 (A.deeper (PyProof.Rows.envOfC "octets_of_number" (defScope s_octets_of_number) s.heap.objs.size f cdv))) :
    PSs (cxOf CX0 P w K mg base N_octets_of_number "octets_of_number" (defScope s_octets_of_number) f cdv A outer s H E).nox (defBody s_octets_of_number) (tS K B_octets_of_number) :=
  have nd : List.Nodup N_octets_of_number := sc_octets_of_number.nd
  (ss_cons (ss_own 1 nd (se_lst sa_nil))
  (ss_cons (ss_set 2 nd (se_var 0))
  (ss_cons (ss_while PassesOwn.never (st_cmp og_ge (se_var 2) (se_gint gc.BASE) (nomark _))
  (ss_cons (ss_drop (se_app (se_var 1) (se_bin og_add (se_gint gc.BASE) (se_bin og_mod (se_var 2) (se_gint gc.BASE)))))
  (ss_cons (ss_set 2 nd (se_bin og_div (se_var 2) (se_gint gc.BASE)))
  ss_nil)))
  (ss_cons (ss_drop (se_app (se_var 1) (se_var 2)))
  (ss_cons (ss_ret (se_ty bg_tuple (se_var 1) gb.tuple))
  ss_nil)))))
theorem kn_octets_of_number {f : Addr} {fd : FuncData} (F : Fun K "octets_of_number" "octets_of_number" s_octets_of_number f fd) (hm : mg "octets_of_number" = some (.ref f)) (hb : Binds K fd ["number"] []) (gb : Blt mg) (gc : Cst mg) : Kn P w K mg base 1 "octets_of_number" 1 M_octets_of_number :=
  kn_mk F sc_octets_of_number rfl hm hb rfl (fun cdv A outer s H Q E hr => wk_octets_of_number gb gc  cdv A outer s H Q E hr)
theorem wk_number_octets {f : Addr} (gb : Blt mg) (gc : Cst mg) (kn_octets_of_number : Kn P w K mg base 1 "octets_of_number" 1 M_octets_of_number) (cdv : Value) (A : Around) (outer : List PySem.Env) (s : Shared) (H : Hp) (Q : VK) (E : XK) (hr : Room 1 (A.deeper (PyProof.Rows.envOfC "number_octets" (defScope s_number_octets) s.heap.objs.size f cdv))) :
    PSs (cxOf CX0 P w K mg base N_number_octets "number_octets" (defScope s_number_octets) f cdv A outer s H E).nox (defBody s_number_octets) (tS K B_number_octets) :=
  have nd : List.Nodup N_number_octets := sc_number_octets.nd
  (ss_cons (ss_ret (se_kn kn_octets_of_number hr (sa_cons (se_var 0) sa_nil)))
  ss_nil)
theorem kn_number_octets {f : Addr} {fd : FuncData} (F : Fun K "number_octets" "number_octets" s_number_octets f fd) (hm : mg "number_octets" = some (.ref f)) (hb : Binds K fd ["number"] []) (gb : Blt mg) (gc : Cst mg) (kn_octets_of_number : Kn P w K mg base 1 "octets_of_number" 1 M_octets_of_number) : Kn P w K mg base 2 "number_octets" 1 M_number_octets :=
  kn_mk F sc_number_octets rfl hm hb rfl (fun cdv A outer s H Q E hr => wk_number_octets gb gc kn_octets_of_number cdv A outer s H Q E hr)
theorem wk_frame {f : Addr} (gb : Blt mg) (gc : Cst mg) (kn_number_octets : Kn P w K mg base 2 "number_octets" 1 M_number_octets) (kn_sum_pair : Kn P w K mg base 2 "sum_pair" 1 M_sum_pair) (cdv : Value) (A : Around) (outer : List PySem.Env) (s : Shared) (H : Hp) (Q : VK) (E : XK) (hr : Room 2 (A.deeper (PyProof.Rows.envOfC "frame" (defScope s_frame) s.heap.objs.size f cdv))) :
    PSs (cxOf CX0 P w K mg base N_frame "frame" (defScope s_frame) f cdv A outer s H E).nox (defBody s_frame) (tS K B_frame) :=
  have nd : List.Nodup N_frame := sc_frame.nd
  (ss_cons (ss_ret (se_bin og_add (se_bin og_add (se_kn kn_number_octets hr (sa_cons (se_bi bg_len (se_var 0) gb.len) sa_nil)) (se_ty bg_tuple (se_var 0) gb.tuple)) (se_kn kn_sum_pair hr (sa_cons (se_var 0) sa_nil))))
  ss_nil)
theorem kn_frame {f : Addr} {fd : FuncData} (F : Fun K "frame" "frame" s_frame f fd) (hm : mg "frame" = some (.ref f)) (hb : Binds K fd ["body"] []) (gb : Blt mg) (gc : Cst mg) (kn_number_octets : Kn P w K mg base 2 "number_octets" 1 M_number_octets) (kn_sum_pair : Kn P w K mg base 2 "sum_pair" 1 M_sum_pair) : Kn P w K mg base 3 "frame" 1 M_frame :=
  kn_mk F sc_frame rfl hm hb rfl (fun cdv A outer s H Q E hr => wk_frame gb gc kn_number_octets kn_sum_pair cdv A outer s H Q E hr)
theorem kk_frame {f : Addr} {fd : FuncData} (F : Fun K "frame" "frame" s_frame f fd) (hm : mg "frame" = some (.ref f)) (hb : ∀ (s : Shared) (u : Value), K.In s.heap → BindsTo s fd ⟨[], [("body", u)]⟩ [("body", u)]) (gb : Blt mg) (gc : Cst mg) (kn_number_octets : Kn P w K mg base 2 "number_octets" 1 M_number_octets) (kn_sum_pair : Kn P w K mg base 2 "sum_pair" 1 M_sum_pair) : KnK P w K mg base 3 "frame" "body" M_frame :=
  knk_mk F sc_frame hm hb rfl (fun cdv A outer s H Q E hr => wk_frame gb gc kn_number_octets kn_sum_pair cdv A outer s H Q E hr)
theorem wk_law_number_octets {f : Addr} (gb : Blt mg) (gc : Cst mg) (cdv : Value) (A : Around) (outer : List PySem.Env) (s : Shared) (H : Hp) (Q : VK) (E : XK) (hr : Room 0 (A.deeper (PyProof.Rows.envOfC "_law_number_octets" (defScope s_law_number_octets) s.heap.objs.size f cdv))) :
    PSs (cxOf CX0 P w K mg base N_law_number_octets "_law_number_octets" (defScope s_law_number_octets) f cdv A outer s H E).nox (defBody s_law_number_octets) (tS K B_law_number_octets) :=
  have nd : List.Nodup N_law_number_octets := sc_law_number_octets.nd
  (ss_cons (ss_par true false 1 2 rfl nd (se_lst sa_nil) (se_var 0) rfl)
  (ss_cons (ss_while PassesOwn.never (st_cmp og_gt (se_var 2) se_int (nomark _))
  (ss_cons (ss_drop (se_app (se_var 1) (se_bin og_add (se_bin og_mod (se_ty bg_int (se_var 2) gb.int) se_int) se_int)))
  (ss_cons (ss_set 2 nd (se_bin og_div (se_var 2) se_int))
  ss_nil)))
  (ss_cons (ss_ret (se_bin og_add (se_var 1) (se_lst (sa_cons (se_var 2) sa_nil))))
  ss_nil)))
theorem kn_law_number_octets {f : Addr} {fd : FuncData} (F : Fun K "_law_number_octets" "_law_number_octets" s_law_number_octets f fd) (hm : mg "_law_number_octets" = some (.ref f)) (hb : Binds K fd ["number"] []) (gb : Blt mg) (gc : Cst mg) : Kn P w K mg base 1 "_law_number_octets" 1 M_law_number_octets :=
  kn_mk F sc_law_number_octets rfl hm hb rfl (fun cdv A outer s H Q E hr => wk_law_number_octets gb gc  cdv A outer s H Q E hr)
theorem wk_law_of {f : Addr} (gb : Blt mg) (gc : Cst mg) (kn_law_any : Kn P w K mg base 1 "_law_any" 2 M_law_any) (cdv : Value) (A : Around) (outer : List PySem.Env) (s : Shared) (H : Hp) (Q : VK) (E : XK) (hr : Room 1 (A.deeper (PyProof.Rows.envOfC "_law_of" (defScope s_law_of) s.heap.objs.size f cdv))) :
    PSs (cxOf CX0 P w K mg base N_law_of "_law_of" (defScope s_law_of) f cdv A outer s H E).nox (defBody s_law_of) (tS K B_law_of) :=
  have nd : List.Nodup N_law_of := sc_law_of.nd
  (ss_cons (ss_ret (se_ix (se_var 1) (se_kn kn_law_any hr (sa_cons (se_var 0) (sa_cons (se_bi bg_len (se_var 1) gb.len) sa_nil)))))
  ss_nil)
theorem kn_law_of {f : Addr} {fd : FuncData} (F : Fun K "_law_of" "_law_of" s_law_of f fd) (hm : mg "_law_of" = some (.ref f)) (hb : Binds K fd ["deal", "some"] []) (gb : Blt mg) (gc : Cst mg) (kn_law_any : Kn P w K mg base 1 "_law_any" 2 M_law_any) : Kn P w K mg base 2 "_law_of" 2 M_law_of :=
  kn_mk F sc_law_of rfl hm hb rfl (fun cdv A outer s H Q E hr => wk_law_of gb gc kn_law_any cdv A outer s H Q E hr)
theorem wk_law_octet {f : Addr} (gb : Blt mg) (gc : Cst mg) (kn_law_of : Kn P w K mg base 2 "_law_of" 2 M_law_of) (kn_law_any : Kn P w K mg base 1 "_law_any" 2 M_law_any) (cdv : Value) (A : Around) (outer : List PySem.Env) (s : Shared) (H : Hp) (Q : VK) (E : XK) (hr : Room 2 (A.deeper (PyProof.Rows.envOfC "_law_octet" (defScope s_law_octet) s.heap.objs.size f cdv))) :
    PSs (cxOf CX0 P w K mg base N_law_octet "_law_octet" (defScope s_law_octet) f cdv A outer s H E).nox (defBody s_law_octet) (tS K B_law_octet) :=
  have nd : List.Nodup N_law_octet := sc_law_octet.nd
  (ss_cons (ss_ret (se_kn kn_law_of hr (sa_cons (se_var 0) (sa_cons (se_lst (sa_cons se_int (sa_cons se_int (sa_cons se_int (sa_cons se_int (sa_cons se_int (sa_cons (se_kn kn_law_any hr (sa_cons (se_var 0) (sa_cons se_int sa_nil))) (sa_cons (se_kn kn_law_any hr (sa_cons (se_var 0) (sa_cons se_int sa_nil))) (sa_cons (se_kn kn_law_any hr (sa_cons (se_var 0) (sa_cons se_int sa_nil))) sa_nil))))))))) sa_nil))))
  ss_nil)
theorem kn_law_octet {f : Addr} {fd : FuncData} (F : Fun K "_law_octet" "_law_octet" s_law_octet f fd) (hm : mg "_law_octet" = some (.ref f)) (hb : Binds K fd ["deal"] []) (gb : Blt mg) (gc : Cst mg) (kn_law_of : Kn P w K mg base 2 "_law_of" 2 M_law_of) (kn_law_any : Kn P w K mg base 1 "_law_any" 2 M_law_any) : Kn P w K mg base 3 "_law_octet" 1 M_law_octet :=
  kn_mk F sc_law_octet rfl hm hb rfl (fun cdv A outer s H Q E hr => wk_law_octet gb gc kn_law_of kn_law_any cdv A outer s H Q E hr)
theorem wk_law_sum {f : Addr} (gb : Blt mg) (gc : Cst mg) (cdv : Value) (A : Around) (outer : List PySem.Env) (s : Shared) (H : Hp) (Q : VK) (E : XK) (hr : Room 0 (A.deeper (PyProof.Rows.envOfC "_law_sum" (defScope s_law_sum) s.heap.objs.size f cdv))) :
    PSs (cxOf CX0 P w K mg base N_law_sum "_law_sum" (defScope s_law_sum) f cdv A outer s H E).nox (defBody s_law_sum) (tS K B_law_sum) :=
  have nd : List.Nodup N_law_sum := sc_law_sum.nd
  (ss_cons (ss_ret (se_bin og_mod (se_ty bg_int (se_bi (bg_sum rfl) (se_lc (own := [("at", 1)]) rfl nd (wi_rng1 rfl gb.range (sa_cons (se_bi bg_len (se_var 0) gb.len) sa_nil)) (blkOk_by (own := [("at", 1)]) (N := N_law_sum) (sc := defScope s_law_sum) (by decide +kernel)) g_name (fun _ _ _ _ _ => (pg_name (i := 1) nd rfl (Or.inl rfl))) (fun _ _ _ _ _ => pts_none) (fun _ _ _ _ _ => (se_bin og_mul (se_ix (se_var 0) (se_var 1)) (se_bin og_add (se_var 1) se_int)))) gb.sum) gb.int) se_int))
  ss_nil)
theorem kn_law_sum {f : Addr} {fd : FuncData} (F : Fun K "_law_sum" "_law_sum" s_law_sum f fd) (hm : mg "_law_sum" = some (.ref f)) (hb : Binds K fd ["octets"] []) (gb : Blt mg) (gc : Cst mg) : Kn P w K mg base 1 "_law_sum" 1 M_law_sum :=
  kn_mk F sc_law_sum rfl hm hb rfl (fun cdv A outer s H Q E hr => wk_law_sum gb gc  cdv A outer s H Q E hr)
theorem wk_law_number_at {f : Addr} (gb : Blt mg) (gc : Cst mg) (cdv : Value) (A : Around) (outer : List PySem.Env) (s : Shared) (H : Hp) (Q : VK) (E : XK) (hr : Room 0 (A.deeper (PyProof.Rows.envOfC "_law_number_at" (defScope s_law_number_at) s.heap.objs.size f cdv))) :
    PSs (cxOf CX0 P w K mg base N_law_number_at "_law_number_at" (defScope s_law_number_at) f cdv A outer s H E).nox (defBody s_law_number_at) (tS K B_law_number_at) :=
  have nd : List.Nodup N_law_number_at := sc_law_number_at.nd
  (ss_cons (ss_par3 2 3 4 rfl nd (sa_cons se_int (sa_cons se_int (sa_cons (se_var 1) sa_nil))) rfl)
  (ss_cons (ss_if (st_cmp og_lt (se_var 1) se_int (nomark _))
  (ss_cons (ss_ret se_non)
  ss_nil)
  ss_nil)
  (ss_cons (ss_while PassesOwn.never ((st_and (st_cmp og_lt (se_var 4) (se_bi bg_len (se_var 0) gb.len) (nomark _)) (st_and1 (st_cmp og_gt (se_ix (se_var 0) (se_var 4)) se_int (nomark _))))).pt
  (ss_cons (ss_par3 2 3 4 rfl nd (sa_cons (se_bin og_add (se_var 2) (se_bin og_mul (se_var 3) (se_bin og_sub (se_ix (se_var 0) (se_var 4)) se_int))) (sa_cons (se_bin og_mul (se_var 3) se_int) (sa_cons (se_bin og_add (se_var 4) se_int) sa_nil))) rfl)
  ss_nil))
  (ss_cons (ss_if ((st_or (st_cmp og_ge (se_var 4) (se_bi bg_len (se_var 0) gb.len) (nomark _)) (st_or1 ((st_and (st_cmp og_gt (se_var 4) (se_var 1) (nomark _)) (st_and1 (st_cmp (og_eq hr.units) (se_ix (se_var 0) (se_var 4)) se_int (nomark _))))).pt))).pt
  (ss_cons (ss_ret se_non)
  ss_nil)
  ss_nil)
  (ss_cons (ss_ret (se_tup (sa_cons (se_bin og_add (se_var 2) (se_bin og_mul (se_var 3) (se_ix (se_var 0) (se_var 4)))) (sa_cons (se_bin og_add (se_var 4) se_int) sa_nil))))
  ss_nil)))))
theorem kn_law_number_at {f : Addr} {fd : FuncData} (F : Fun K "_law_number_at" "_law_number_at" s_law_number_at f fd) (hm : mg "_law_number_at" = some (.ref f)) (hb : Binds K fd ["octets", "at"] []) (gb : Blt mg) (gc : Cst mg) : Kn P w K mg base 1 "_law_number_at" 2 M_law_number_at :=
  kn_mk F sc_law_number_at rfl hm hb rfl (fun cdv A outer s H Q E hr => wk_law_number_at gb gc  cdv A outer s H Q E hr)
theorem wk_law_frames_in {f : Addr} (gb : Blt mg) (gc : Cst mg) (kn_law_sum : Kn P w K mg base 1 "_law_sum" 1 M_law_sum) (kn_law_number_at : Kn P w K mg base 1 "_law_number_at" 2 M_law_number_at) (cdv : Value) (A : Around) (outer : List PySem.Env) (s : Shared) (H : Hp) (Q : VK) (E : XK) (hr : Room 1 (A.deeper (PyProof.Rows.envOfC "_law_frames_in" (defScope s_law_frames_in) s.heap.objs.size f cdv))) :
    PSs (cxOf CX0 P w K mg base N_law_frames_in "_law_frames_in" (defScope s_law_frames_in) f cdv A outer s H E).nox (defBody s_law_frames_in) (tS K B_law_frames_in) :=
  have nd : List.Nodup N_law_frames_in := sc_law_frames_in.nd
  (ss_cons (ss_par false false 2 3 rfl nd (se_lst sa_nil) se_int rfl)
  (ss_cons (ss_for PassesOwn.never rfl (wi_rng1 rfl gb.range (sa_cons (se_bin og_add (se_bi bg_len (se_var 0) gb.len) se_int) sa_nil)) g_name (pg_name (i := 1) nd rfl (Or.inl rfl))
  (ss_cons (ss_set 4 nd (se_kn kn_law_number_at hr (sa_cons (se_var 0) (sa_cons (se_var 3) sa_nil))))
  (ss_cons (ss_if ((st_or (st_cmp og_is (se_var 4) se_non (nomark _)) (st_or1 (st_cmp og_gt (se_bin og_add (se_ix (se_var 4) se_int) se_int) (se_bin og_sub (se_bi bg_len (se_var 0) gb.len) (se_ix (se_var 4) se_int)) (nomark _))))).pt
  (ss_cons (ss_ret (se_tup (sa_cons (se_var 2) (sa_cons (se_var 3) sa_nil))))
  ss_nil)
  ss_nil)
  (ss_cons (ss_par false false 6 7 rfl nd (se_sl (se_var 0) (so_some (se_ix (se_var 4) se_int)) (so_some (se_bin og_add (se_ix (se_var 4) se_int) (se_ix (se_var 4) se_int)))) (se_bin og_add (se_ix (se_var 4) se_int) (se_ix (se_var 4) se_int)) rfl)
  (ss_cons (ss_set 5 nd (se_kn kn_law_sum hr (sa_cons (se_var 6) sa_nil)))
  (ss_cons (ss_if ((st_or (st_cmp (og_ne hr.units) (se_ix (se_var 0) (se_var 7)) (se_bin og_mod (se_ty bg_int (se_var 5) gb.int) se_int) (nomark _)) (st_or1 (st_cmp (og_ne hr.units) (se_ix (se_var 0) (se_bin og_add (se_var 7) se_int)) (se_bin og_div (se_var 5) se_int) (nomark _))))).pt
  (ss_cons (ss_ret (se_tup (sa_cons (se_var 2) (sa_cons (se_var 3) sa_nil))))
  ss_nil)
  ss_nil)
  (ss_cons (ss_par false false 2 3 rfl nd (se_bin og_add (se_var 2) (se_lst (sa_cons (se_var 6) sa_nil))) (se_bin og_add (se_var 7) se_int) rfl)
  ss_nil)))))))
  (ss_cons (ss_ret (se_tup (sa_cons (se_var 2) (sa_cons (se_var 3) sa_nil))))
  ss_nil)))
theorem kn_law_frames_in {f : Addr} {fd : FuncData} (F : Fun K "_law_frames_in" "_law_frames_in" s_law_frames_in f fd) (hm : mg "_law_frames_in" = some (.ref f)) (hb : Binds K fd ["octets"] []) (gb : Blt mg) (gc : Cst mg) (kn_law_sum : Kn P w K mg base 1 "_law_sum" 1 M_law_sum) (kn_law_number_at : Kn P w K mg base 1 "_law_number_at" 2 M_law_number_at) : Kn P w K mg base 2 "_law_frames_in" 1 M_law_frames_in :=
  kn_mk F sc_law_frames_in rfl hm hb rfl (fun cdv A outer s H Q E hr => wk_law_frames_in gb gc kn_law_sum kn_law_number_at cdv A outer s H Q E hr)
theorem wk_law_due {f : Addr} (gb : Blt mg) (gc : Cst mg) (kn_law_frames_in : Kn P w K mg base 2 "_law_frames_in" 1 M_law_frames_in) (cdv : Value) (A : Around) (outer : List PySem.Env) (s : Shared) (H : Hp) (Q : VK) (E : XK) (hr : Room 2 (A.deeper (PyProof.Rows.envOfC "_law_due" (defScope s_law_due) s.heap.objs.size f cdv))) :
    PSs (cxOf CX0 P w K mg base N_law_due "_law_due" (defScope s_law_due) f cdv A outer s H E).nox (defBody s_law_due) (tS K B_law_due) :=
  have nd : List.Nodup N_law_due := sc_law_due.nd
  (ss_cons (ss_to g_pair (pg_tup rfl (pgs_cons (pg_name (i := 1) nd rfl (Or.inl rfl)) (pgs_cons (pg_name (i := 2) nd rfl (Or.inl rfl)) pgs_nil))) (se_kn kn_law_frames_in hr (sa_cons (se_var 0) sa_nil)))
  (ss_cons (ss_ret (se_tup (sa_cons (se_ty bg_tuple (se_lc (own := [("body", 3)]) rfl nd (wi_val (se_var 1)) (blkOk_by (own := [("body", 3)]) (N := N_law_due) (sc := defScope s_law_due) (by decide +kernel)) g_name (fun _ _ _ _ _ => (pg_name (i := 3) nd rfl (Or.inl rfl))) (fun _ _ _ _ _ => pts_none) (fun _ _ _ _ _ => (se_ty bg_tuple (se_var 3) gb.tuple))) gb.tuple) (sa_cons (se_var 2) sa_nil))))
  ss_nil))
theorem kn_law_due {f : Addr} {fd : FuncData} (F : Fun K "_law_due" "_law_due" s_law_due f fd) (hm : mg "_law_due" = some (.ref f)) (hb : Binds K fd ["octets"] []) (gb : Blt mg) (gc : Cst mg) (kn_law_frames_in : Kn P w K mg base 2 "_law_frames_in" 1 M_law_frames_in) : Kn P w K mg base 3 "_law_due" 1 M_law_due :=
  kn_mk F sc_law_due rfl hm hb rfl (fun cdv A outer s H Q E hr => wk_law_due gb gc kn_law_frames_in cdv A outer s H Q E hr)
theorem wk_law_bent {f : Addr} (gb : Blt mg) (gc : Cst mg) (kn_law_of : Kn P w K mg base 2 "_law_of" 2 M_law_of) (kn_law_any : Kn P w K mg base 1 "_law_any" 2 M_law_any) (kn_law_octet : Kn P w K mg base 3 "_law_octet" 1 M_law_octet) (cdv : Value) (A : Around) (outer : List PySem.Env) (s : Shared) (H : Hp) (Q : VK) (E : XK) (hr : Room 3 (A.deeper (PyProof.Rows.envOfC "_law_bent" (defScope s_law_bent) s.heap.objs.size f cdv))) :
    PSs (cxOf CX0 P w K mg base N_law_bent "_law_bent" (defScope s_law_bent) f cdv A outer s H E).nox (defBody s_law_bent) (tS K B_law_bent) :=
  have nd : List.Nodup N_law_bent := sc_law_bent.nd
  (ss_cons (ss_if (st_cmp (og_eq hr.units) (se_bi bg_len (se_var 1) gb.len) se_int (nomark _))
  (ss_cons (ss_ret (se_var 1))
  ss_nil)
  ss_nil)
  (ss_cons (ss_par false false 2 3 rfl nd (se_kn kn_law_any hr (sa_cons (se_var 0) (sa_cons (se_bi bg_len (se_var 1) gb.len) sa_nil))) (se_kn kn_law_any hr (sa_cons (se_var 0) (sa_cons se_int sa_nil))) rfl)
  (ss_cons (ss_if (st_cmp (og_eq hr.units) (se_var 3) se_int (nomark _))
  (ss_cons (ss_ret (se_bin og_add (se_sl (se_var 1) so_none (so_some (se_var 2))) (se_sl (se_var 1) (so_some (se_bin og_add (se_var 2) se_int)) so_none)))
  ss_nil)
  ss_nil)
  (ss_cons (ss_if (st_cmp (og_eq hr.units) (se_var 3) se_int (nomark _))
  (ss_cons (ss_ret (se_bin og_add (se_bin og_add (se_sl (se_var 1) so_none (so_some (se_var 2))) (se_lst (sa_cons (se_kn kn_law_octet hr (sa_cons (se_var 0) sa_nil)) sa_nil))) (se_sl (se_var 1) (so_some (se_var 2)) so_none)))
  ss_nil)
  ss_nil)
  (ss_cons (ss_ret (se_bin og_add (se_bin og_add (se_sl (se_var 1) so_none (so_some (se_var 2))) (se_lst (sa_cons (se_bin og_mod (se_ty bg_int (se_bin og_add (se_ix (se_var 1) (se_var 2)) (se_kn kn_law_of hr (sa_cons (se_var 0) (sa_cons (se_lst (sa_cons se_int (sa_cons se_int (sa_cons se_int (sa_cons (se_bin og_add se_int (se_kn kn_law_any hr (sa_cons (se_var 0) (sa_cons se_int sa_nil)))) sa_nil))))) sa_nil)))) gb.int) se_int) sa_nil))) (se_sl (se_var 1) (so_some (se_bin og_add (se_var 2) se_int)) so_none)))
  ss_nil)))))
theorem kn_law_bent {f : Addr} {fd : FuncData} (F : Fun K "_law_bent" "_law_bent" s_law_bent f fd) (hm : mg "_law_bent" = some (.ref f)) (hb : Binds K fd ["deal", "octets"] []) (gb : Blt mg) (gc : Cst mg) (kn_law_of : Kn P w K mg base 2 "_law_of" 2 M_law_of) (kn_law_any : Kn P w K mg base 1 "_law_any" 2 M_law_any) (kn_law_octet : Kn P w K mg base 3 "_law_octet" 1 M_law_octet) : Kn P w K mg base 4 "_law_bent" 2 M_law_bent :=
  kn_mk F sc_law_bent rfl hm hb rfl (fun cdv A outer s H Q E hr => wk_law_bent gb gc kn_law_of kn_law_any kn_law_octet cdv A outer s H Q E hr)
theorem wk_law_joined {f : Addr} (gb : Blt mg) (gc : Cst mg) (cdv : Value) (A : Around) (outer : List PySem.Env) (s : Shared) (H : Hp) (Q : VK) (E : XK) (hr : Room 0 (A.deeper (PyProof.Rows.envOfC "_law_joined" (defScope s_law_joined) s.heap.objs.size f cdv))) :
    PSs (cxOf CX0 P w K mg base N_law_joined "_law_joined" (defScope s_law_joined) f cdv A outer s H E).nox (defBody s_law_joined) (tS K B_law_joined) :=
  have nd : List.Nodup N_law_joined := sc_law_joined.nd
  (ss_cons (ss_set 1 nd (se_lst sa_nil))
  (ss_cons (ss_for PassesOwn.never rfl (wi_val (se_var 0)) g_name (pg_name (i := 2) nd rfl (Or.inl rfl))
  (ss_cons (ss_set 1 nd (se_bin og_add (se_var 1) (se_var 2)))
  ss_nil))
  (ss_cons (ss_ret (se_var 1))
  ss_nil)))
theorem kn_law_joined {f : Addr} {fd : FuncData} (F : Fun K "_law_joined" "_law_joined" s_law_joined f fd) (hm : mg "_law_joined" = some (.ref f)) (hb : Binds K fd ["rows"] []) (gb : Blt mg) (gc : Cst mg) : Kn P w K mg base 1 "_law_joined" 1 M_law_joined :=
  kn_mk F sc_law_joined rfl hm hb rfl (fun cdv A outer s H Q E hr => wk_law_joined gb gc  cdv A outer s H Q E hr)
theorem wk_law_framed {f : Addr} (gb : Blt mg) (gc : Cst mg) (kn_law_number_octets : Kn P w K mg base 1 "_law_number_octets" 1 M_law_number_octets) (kn_law_sum : Kn P w K mg base 1 "_law_sum" 1 M_law_sum) (cdv : Value) (A : Around) (outer : List PySem.Env) (s : Shared) (H : Hp) (Q : VK) (E : XK) (hr : Room 1 (A.deeper (PyProof.Rows.envOfC "_law_framed" (defScope s_law_framed) s.heap.objs.size f cdv))) :
    PSs (cxOf CX0 P w K mg base N_law_framed "_law_framed" (defScope s_law_framed) f cdv A outer s H E).nox (defBody s_law_framed) (tS K B_law_framed) :=
  have nd : List.Nodup N_law_framed := sc_law_framed.nd
  (ss_cons (ss_set 1 nd (se_kn kn_law_sum hr (sa_cons (se_var 0) sa_nil)))
  (ss_cons (ss_ret (se_bin og_add (se_bin og_add (se_kn kn_law_number_octets hr (sa_cons (se_bi bg_len (se_var 0) gb.len) sa_nil)) (se_var 0)) (se_lst (sa_cons (se_bin og_mod (se_ty bg_int (se_var 1) gb.int) se_int) (sa_cons (se_bin og_div (se_var 1) se_int) sa_nil)))))
  ss_nil))
theorem kn_law_framed {f : Addr} {fd : FuncData} (F : Fun K "_law_framed" "_law_framed" s_law_framed f fd) (hm : mg "_law_framed" = some (.ref f)) (hb : Binds K fd ["body"] []) (gb : Blt mg) (gc : Cst mg) (kn_law_number_octets : Kn P w K mg base 1 "_law_number_octets" 1 M_law_number_octets) (kn_law_sum : Kn P w K mg base 1 "_law_sum" 1 M_law_sum) : Kn P w K mg base 2 "_law_framed" 1 M_law_framed :=
  kn_mk F sc_law_framed rfl hm hb rfl (fun cdv A outer s H Q E hr => wk_law_framed gb gc kn_law_number_octets kn_law_sum cdv A outer s H Q E hr)
theorem wk_law_some_body {f : Addr} (gb : Blt mg) (gc : Cst mg) (kn_law_octet : Kn P w K mg base 3 "_law_octet" 1 M_law_octet) (kn_law_of : Kn P w K mg base 2 "_law_of" 2 M_law_of) (cdv : Value) (A : Around) (outer : List PySem.Env) (s : Shared) (H : Hp) (Q : VK) (E : XK) (hr : Room 3 (A.deeper (PyProof.Rows.envOfC "_law_some_body" (defScope s_law_some_body) s.heap.objs.size f cdv))) :
    PSs (cxOf CX0 P w K mg base N_law_some_body "_law_some_body" (defScope s_law_some_body) f cdv A outer s H E).nox (defBody s_law_some_body) (tS K B_law_some_body) :=
  have nd : List.Nodup N_law_some_body := sc_law_some_body.nd
  (ss_cons (ss_set 1 nd (se_kn kn_law_of hr (sa_cons (se_var 0) (sa_cons (se_lst (sa_cons se_int (sa_cons se_int (sa_cons se_int (sa_cons se_int (sa_cons se_int (sa_cons se_int (sa_cons se_int (sa_cons se_int (sa_cons se_int (sa_cons se_int sa_nil))))))))))) sa_nil))))
  (ss_cons (ss_if (st_cmp og_gt (se_var 1) se_int (nomark _))
  (ss_cons (ss_to g_pair (pg_tup rfl (pgs_cons (pg_name (i := 2) nd rfl (Or.inr rfl)) (pgs_cons (pg_name (i := 3) nd rfl (Or.inr rfl)) pgs_nil))) (se_tup (sa_cons (se_kn kn_law_octet hr (sa_cons (se_var 0) sa_nil)) (sa_cons (se_kn kn_law_of hr (sa_cons (se_var 0) (sa_cons (se_lst (sa_cons se_int (sa_cons se_int (sa_cons se_int (sa_cons se_int sa_nil))))) sa_nil))) sa_nil))))
  (ss_cons (ss_ret (se_lc (own := [("turn", 4)]) rfl nd (wi_rng1 rfl gb.range (sa_cons (se_var 1) sa_nil)) (blkOk_by (own := [("turn", 4)]) (N := N_law_some_body) (sc := defScope s_law_some_body) (by decide +kernel)) g_name (fun _ _ _ _ _ => (pg_name (i := 4) nd rfl (Or.inl rfl))) (fun _ _ _ _ _ => pts_none) (fun _ _ _ _ _ => (se_bin og_mod (se_ty bg_int (se_bin og_add (se_var 2) (se_bin og_mul (se_var 4) (se_var 3))) gb.int) se_int))))
  ss_nil))
  ss_nil)
  (ss_cons (ss_ret (se_lc (own := [("turn", 4)]) rfl nd (wi_rng1 rfl gb.range (sa_cons (se_var 1) sa_nil)) (blkOk_by (own := [("turn", 4)]) (N := N_law_some_body) (sc := defScope s_law_some_body) (by decide +kernel)) g_name (fun _ _ _ _ _ => (pg_name (i := 4) nd rfl (Or.inl rfl))) (fun _ _ _ _ _ => pts_none) (fun _ _ _ _ _ => (se_kn kn_law_octet hr (sa_cons (se_var 0) sa_nil)))))
  ss_nil)))
theorem kn_law_some_body {f : Addr} {fd : FuncData} (F : Fun K "_law_some_body" "_law_some_body" s_law_some_body f fd) (hm : mg "_law_some_body" = some (.ref f)) (hb : Binds K fd ["deal"] []) (gb : Blt mg) (gc : Cst mg) (kn_law_octet : Kn P w K mg base 3 "_law_octet" 1 M_law_octet) (kn_law_of : Kn P w K mg base 2 "_law_of" 2 M_law_of) : Kn P w K mg base 4 "_law_some_body" 1 M_law_some_body :=
  kn_mk F sc_law_some_body rfl hm hb rfl (fun cdv A outer s H Q E hr => wk_law_some_body gb gc kn_law_octet kn_law_of cdv A outer s H Q E hr)
theorem wk_law_deal {f : Addr} (gb : Blt mg) (gc : Cst mg) (cdv : Value) (A : Around) (outer : List PySem.Env) (s : Shared) (H : Hp) (Q : VK) (E : XK) (hr : Room 0 (A.deeper (PyProof.Rows.envOfC "_law_deal" (defScope s_law_deal) s.heap.objs.size f cdv))) :
    PSs (cxOf CX0 P w K mg base N_law_deal "_law_deal" (defScope s_law_deal) f cdv A outer s H E).nox (defBody s_law_deal) (tS K B_law_deal) :=
  have nd : List.Nodup N_law_deal := sc_law_deal.nd
  (ss_cons (ss_set 2 nd (se_bin og_mul (se_bin og_mul (se_bin og_mul (se_bin og_mul (se_bin og_mul (se_bin og_pow se_int se_int) (se_bin og_pow se_int se_int)) (se_bin og_pow se_int se_int)) (se_bin og_pow se_int se_int)) (se_bin og_pow se_int se_int)) (se_bin og_pow se_int se_int)))
  (ss_cons (ss_par false false 4 5 rfl nd (se_lc (own := [("cell", 3)]) rfl nd (wi_val (se_sl (se_var 0) so_none (so_some se_int))) (blkOk_by (own := [("cell", 3)]) (N := N_law_deal) (sc := defScope s_law_deal) (by decide +kernel)) g_name (fun _ _ _ _ _ => (pg_name (i := 3) nd rfl (Or.inl rfl))) (fun _ _ _ _ _ => pts_none) (fun _ _ _ _ _ => (se_bin og_mod (se_ty bg_int (se_bi bg_abs (se_ty bg_int (se_var 3) gb.int) gb.abs) gb.int) (se_var 2)))) (se_bin og_add se_int (se_bin og_mul se_int (se_var 1))) rfl)
  (ss_cons (ss_for PassesOwn.never rfl (wi_val (se_var 4)) g_name (pg_name (i := 3) nd rfl (Or.inl rfl))
  (ss_cons (ss_set 5 nd (se_bin og_mod (se_ty bg_int (se_bin og_add (se_bin og_add (se_bin og_mul (se_var 5) se_int) (se_bin og_mod (se_ty bg_int (se_var 3) gb.int) se_int)) se_int) gb.int) se_int))
  ss_nil))
  (ss_cons (ss_ret (se_shr (se_lst (sa_cons (se_shr (se_rev (se_lc (own := [("cell", 3)]) rfl nd (wi_val (se_var 4)) (blkOk_by (own := [("cell", 3)]) (N := N_law_deal) (sc := defScope s_law_deal) (by decide +kernel)) g_name (fun _ _ _ _ _ => (pg_name (i := 3) nd rfl (Or.inl rfl))) (fun _ _ _ _ _ => (pts_one (st_cmp og_ge (se_var 3) (se_bin og_pow se_int se_int) (nomark _)))) (fun _ _ _ _ _ => (se_var 3))))) (sa_cons (se_var 5) sa_nil)))))
  ss_nil))))
theorem kn_law_deal {f : Addr} {fd : FuncData} (F : Fun K "_law_deal" "_law_deal" s_law_deal f fd) (hm : mg "_law_deal" = some (.ref f)) (hb : Binds K fd ["script", "salt"] []) (gb : Blt mg) (gc : Cst mg) : Kn P w K mg base 1 "_law_deal" 2 M_law_deal :=
  kn_mk F sc_law_deal rfl hm hb rfl (fun cdv A outer s H Q E hr => wk_law_deal gb gc  cdv A outer s H Q E hr)
theorem wk_law {f : Addr} (gb : Blt mg) (gc : Cst mg) (kn_law_all : Kn P w K mg base 3 "_law_all" 1 M_law_all) (kn_frames : Kn P w K mg base 4 "frames" 1 M_frames) (kn_law_any : Kn P w K mg base 1 "_law_any" 2 M_law_any) (kn_frame : Kn P w K mg base 3 "frame" 1 M_frame) (kn_law_number_octets : Kn P w K mg base 1 "_law_number_octets" 1 M_law_number_octets) (kn_law_of : Kn P w K mg base 2 "_law_of" 2 M_law_of) (kn_law_octet : Kn P w K mg base 3 "_law_octet" 1 M_law_octet) (kn_law_due : Kn P w K mg base 3 "_law_due" 1 M_law_due) (kn_law_bent : Kn P w K mg base 4 "_law_bent" 2 M_law_bent) (kn_law_joined : Kn P w K mg base 1 "_law_joined" 1 M_law_joined) (kn_law_framed : Kn P w K mg base 2 "_law_framed" 1 M_law_framed) (kn_law_some_body : Kn P w K mg base 4 "_law_some_body" 1 M_law_some_body) (kn_law_deal : Kn P w K mg base 1 "_law_deal" 2 M_law_deal) (kk_frames : KnK P w K mg base 4 "frames" "octets" M_frames) (kk_frame : KnK P w K mg base 3 "frame" "body" M_frame) (cdv : Value) (A : Around) (outer : List PySem.Env) (s : Shared) (H : Hp) (Q : VK) (E : XK) (hr : Room 4 (A.deeper (PyProof.Rows.envOfC "law" (defScope s_law) s.heap.objs.size f cdv))) :
    PSs (cxOf CX0 P w K mg base N_law "law" (defScope s_law) f cdv A outer s H E).nox (defBody s_law) (tS K B_law) :=
  have nd : List.Nodup N_law := sc_law.nd
  (ss_cons (ss_set 1 nd (se_kn kn_law_deal hr (sa_cons (se_var 0) (sa_cons se_int sa_nil))))
  (ss_cons (ss_par true true 4 5 rfl nd (se_lst sa_nil) (se_lst sa_nil) rfl)
  (ss_cons (ss_for PassesOwn.never rfl (wi_rng1 rfl gb.range (sa_cons (se_kn kn_law_of hr (sa_cons (se_var 1) (sa_cons (se_lst (sa_cons se_int (sa_cons se_int (sa_cons se_int (sa_cons se_int sa_nil))))) sa_nil))) sa_nil)) g_name (pg_name (i := 2) nd rfl (Or.inl rfl))
  (ss_cons (ss_set 6 nd (se_kn kn_law_some_body hr (sa_cons (se_var 1) sa_nil)))
  (ss_cons (ss_set 7 nd (se_kn kn_law_framed hr (sa_cons (se_var 6) sa_nil)))
  (ss_cons (ss_drop (se_app (se_var 4) (se_tup (sa_cons (se_if (st_cmp og_lt (se_var 2) se_int (nomark _)) (se_kn kn_frame hr (sa_cons (se_ty bg_tuple (se_var 6) gb.tuple) sa_nil)) (se_knK kk_frame hr (se_ty bg_tuple (se_var 6) gb.tuple))) (sa_cons (se_ty bg_tuple (se_var 7) gb.tuple) sa_nil)))))
  (ss_cons (ss_drop (se_app (se_var 5) (se_tup (sa_cons (se_var 6) (sa_cons (se_var 7) sa_nil)))))
  ss_nil)))))
  (ss_fix (i := 5)
  (ss_cons (ss_set 3 nd (se_kn kn_law_joined hr (sa_cons (se_lc (own := [("body", 6), ("row", 7)]) rfl nd (wi_val (se_var 5)) (blkOk_by (own := [("body", 6), ("row", 7)]) (N := N_law) (sc := defScope s_law) (by decide +kernel)) g_pair (fun _ _ _ _ _ => (pg_tup rfl (pgs_cons (pg_name (i := 6) nd rfl (Or.inl rfl)) (pgs_cons (pg_name (i := 7) nd rfl (Or.inl rfl)) pgs_nil)))) (fun _ _ _ _ _ => pts_none) (fun _ _ _ _ _ => (se_var 7))) sa_nil)))
  (ss_cons (ss_drop (se_app (se_var 4) (se_tup (sa_cons (se_kn kn_frames hr (sa_cons (se_ty bg_tuple (se_var 3) gb.tuple) sa_nil)) (sa_cons (se_tup (sa_cons (se_ty bg_tuple (se_lc (own := [("body", 6), ("row", 7)]) rfl nd (wi_val (se_var 5)) (blkOk_by (own := [("body", 6), ("row", 7)]) (N := N_law) (sc := defScope s_law) (by decide +kernel)) g_pair (fun _ _ _ _ _ => (pg_tup rfl (pgs_cons (pg_name (i := 6) nd rfl (Or.inl rfl)) (pgs_cons (pg_name (i := 7) nd rfl (Or.inl rfl)) pgs_nil)))) (fun _ _ _ _ _ => pts_none) (fun _ _ _ _ _ => (se_ty bg_tuple (se_var 6) gb.tuple))) gb.tuple) (sa_cons (se_bi bg_len (se_var 3) gb.len) sa_nil))) sa_nil)))))
  (ss_cons (ss_for PassesOwn.never rfl (wi_rng1 rfl gb.range (sa_cons se_int sa_nil)) g_name (pg_name (i := 2) nd rfl (Or.inl rfl))
  (ss_cons (ss_set 8 nd (se_kn kn_law_any hr (sa_cons (se_var 1) (sa_cons (se_bi bg_len (se_var 5) gb.len) sa_nil))))
  (ss_cons (ss_set 9 nd (se_kn kn_law_joined hr (sa_cons (se_lc (own := [("body", 6), ("row", 7)]) rfl nd (wi_val (se_sl (se_var 5) so_none (so_some (se_var 8)))) (blkOk_by (own := [("body", 6), ("row", 7)]) (N := N_law) (sc := defScope s_law) (by decide +kernel)) g_pair (fun _ _ _ _ _ => (pg_tup rfl (pgs_cons (pg_name (i := 6) nd rfl (Or.inl rfl)) (pgs_cons (pg_name (i := 7) nd rfl (Or.inl rfl)) pgs_nil)))) (fun _ _ _ _ _ => pts_none) (fun _ _ _ _ _ => (se_var 7))) sa_nil)))
  (ss_cons (ss_set 10 nd (se_ix (se_ix (se_var 5) (se_var 8)) se_int))
  (ss_cons (ss_set 11 nd (se_bin og_add (se_var 9) (se_sl (se_var 10) so_none (so_some (se_kn kn_law_any hr (sa_cons (se_var 1) (sa_cons (se_bi bg_len (se_var 10) gb.len) sa_nil)))))))
  (ss_cons (ss_drop (se_app (se_var 4) (se_tup (sa_cons (se_knK kk_frames hr (se_ty bg_tuple (se_var 11) gb.tuple)) (sa_cons (se_tup (sa_cons (se_ty bg_tuple (se_lc (own := [("body", 6), ("row", 7)]) rfl nd (wi_val (se_sl (se_var 5) so_none (so_some (se_var 8)))) (blkOk_by (own := [("body", 6), ("row", 7)]) (N := N_law) (sc := defScope s_law) (by decide +kernel)) g_pair (fun _ _ _ _ _ => (pg_tup rfl (pgs_cons (pg_name (i := 6) nd rfl (Or.inl rfl)) (pgs_cons (pg_name (i := 7) nd rfl (Or.inl rfl)) pgs_nil)))) (fun _ _ _ _ _ => pts_none) (fun _ _ _ _ _ => (se_ty bg_tuple (se_var 6) gb.tuple))) gb.tuple) (sa_cons (se_bi bg_len (se_var 9) gb.len) sa_nil))) sa_nil)))))
  (ss_cons (ss_drop (se_app (se_var 4) (se_tup (sa_cons (se_kn kn_frames hr (sa_cons (se_ty bg_tuple (se_bin og_add (se_var 9) (se_var 10)) gb.tuple) sa_nil)) (sa_cons (se_tup (sa_cons (se_ty bg_tuple (se_lc (own := [("body", 6), ("row", 7)]) rfl nd (wi_val (se_sl (se_var 5) so_none (so_some (se_bin og_add (se_var 8) se_int)))) (blkOk_by (own := [("body", 6), ("row", 7)]) (N := N_law) (sc := defScope s_law) (by decide +kernel)) g_pair (fun _ _ _ _ _ => (pg_tup rfl (pgs_cons (pg_name (i := 6) nd rfl (Or.inl rfl)) (pgs_cons (pg_name (i := 7) nd rfl (Or.inl rfl)) pgs_nil)))) (fun _ _ _ _ _ => pts_none) (fun _ _ _ _ _ => (se_ty bg_tuple (se_var 6) gb.tuple))) gb.tuple) (sa_cons (se_bi bg_len (se_bin og_add (se_var 9) (se_var 10)) gb.len) sa_nil))) sa_nil)))))
  (ss_cons (ss_set 12 nd (se_kn kn_law_bent hr (sa_cons (se_var 1) (sa_cons (se_var 3) sa_nil))))
  (ss_cons (ss_drop (se_app (se_var 4) (se_tup (sa_cons (se_kn kn_frames hr (sa_cons (se_ty bg_tuple (se_var 12) gb.tuple) sa_nil)) (sa_cons (se_kn kn_law_due hr (sa_cons (se_var 12) sa_nil)) sa_nil)))))
  (ss_cons (ss_set 13 nd (se_kn kn_law_of hr (sa_cons (se_var 1) (sa_cons (se_lst (sa_cons (se_lst (sa_cons se_int (sa_cons se_int (sa_cons se_int sa_nil)))) (sa_cons (se_lst (sa_cons se_int (sa_cons se_int (sa_cons se_int (sa_cons se_int sa_nil))))) (sa_cons (se_lst (sa_cons se_int (sa_cons se_int (sa_cons se_int sa_nil)))) (sa_cons (se_lst (sa_cons se_int (sa_cons se_int (sa_cons se_int (sa_cons se_int sa_nil))))) (sa_cons (se_lst (sa_cons se_int (sa_cons se_int (sa_cons se_int (sa_cons se_int sa_nil))))) (sa_cons (se_lst (sa_cons se_int sa_nil)) (sa_cons (se_lst (sa_cons se_int (sa_cons se_int (sa_cons se_int (sa_cons se_int (sa_cons se_int sa_nil)))))) (sa_cons (se_lst (sa_cons se_int (sa_cons se_int (sa_cons se_int (sa_cons se_int (sa_cons se_int sa_nil)))))) sa_nil))))))))) sa_nil))))
  (ss_cons (ss_set 14 nd (se_bin og_add (se_bin og_add (se_bin og_add (se_var 9) (se_var 13)) (se_var 10)) (se_lc (own := [("number", 17)]) rfl nd (wi_rng1 rfl gb.range (sa_cons (se_kn kn_law_any hr (sa_cons (se_var 1) (sa_cons se_int sa_nil))) sa_nil)) (blkOk_by (own := [("number", 17)]) (N := N_law) (sc := defScope s_law) (by decide +kernel)) g_name (fun _ _ _ _ _ => (pg_name (i := 17) nd rfl (Or.inl rfl))) (fun _ _ _ _ _ => pts_none) (fun _ _ _ _ _ => (se_kn kn_law_octet hr (sa_cons (se_var 1) sa_nil))))))
  (ss_cons (ss_drop (se_app (se_var 4) (se_tup (sa_cons (se_kn kn_frames hr (sa_cons (se_ty bg_tuple (se_var 14) gb.tuple) sa_nil)) (sa_cons (se_kn kn_law_due hr (sa_cons (se_var 14) sa_nil)) sa_nil)))))
  ss_nil))))))))))))
  (ss_cons (ss_if (st_cmp (og_eq hr.units) (se_kn kn_law_any hr (sa_cons (se_var 1) (sa_cons se_int sa_nil))) se_int (nomark _))
  (ss_cons (ss_par false false 8 16 rfl nd (se_kn kn_law_of hr (sa_cons (se_var 1) (sa_cons (se_lst (sa_cons se_int (sa_cons se_int (sa_cons se_int sa_nil)))) sa_nil))) (se_kn kn_law_octet hr (sa_cons (se_var 1) sa_nil)) rfl)
  (ss_cons (ss_set 15 nd (se_bin og_mod (se_ty bg_int (se_bin og_mul (se_var 16) (se_bin og_div (se_bin og_mul (se_var 8) (se_bin og_add (se_var 8) se_int)) se_int)) gb.int) se_int))
  (ss_cons (ss_set 7 nd (se_bin og_add (se_bin og_add (se_kn kn_law_number_octets hr (sa_cons (se_var 8) sa_nil)) (se_bin og_mul (se_lst (sa_cons (se_var 16) sa_nil)) (se_var 8))) (se_lst (sa_cons (se_bin og_mod (se_ty bg_int (se_var 15) gb.int) se_int) (sa_cons (se_bin og_div (se_var 15) se_int) sa_nil)))))
  (ss_cons (ss_drop (se_app (se_var 4) (se_tup (sa_cons (se_kn kn_frame hr (sa_cons (se_bin og_mul (se_tup (sa_cons (se_var 16) sa_nil)) (se_var 8)) sa_nil)) (sa_cons (se_ty bg_tuple (se_var 7) gb.tuple) sa_nil)))))
  (ss_cons (ss_drop (se_app (se_var 4) (se_tup (sa_cons (se_kn kn_frames hr (sa_cons (se_ty bg_tuple (se_bin og_add (se_var 7) (se_lst (sa_cons se_int (sa_cons se_int sa_nil)))) gb.tuple) sa_nil)) (sa_cons (se_tup (sa_cons (se_tup (sa_cons (se_bin og_mul (se_tup (sa_cons (se_var 16) sa_nil)) (se_var 8)) sa_nil)) (sa_cons (se_bi bg_len (se_var 7) gb.len) sa_nil))) sa_nil)))))
  ss_nil)))))
  ss_nil)
  (ss_cons (ss_drop (se_app (se_var 4) (se_tup (sa_cons (se_kn kn_frames hr (sa_cons (se_tup sa_nil) sa_nil)) (sa_cons (se_tup (sa_cons (se_tup sa_nil) (sa_cons se_int sa_nil))) sa_nil)))))
  (ss_fix (i := 4)
  (ss_cons (ss_ret (se_kn kn_law_all hr (sa_cons (se_var 4) sa_nil)))
  ss_nil)))))))))))
theorem kn_law {f : Addr} {fd : FuncData} (F : Fun K "law" "law" s_law f fd) (hm : mg "law" = some (.ref f)) (hb : Binds K fd ["script"] []) (gb : Blt mg) (gc : Cst mg) (kn_law_all : Kn P w K mg base 3 "_law_all" 1 M_law_all) (kn_frames : Kn P w K mg base 4 "frames" 1 M_frames) (kn_law_any : Kn P w K mg base 1 "_law_any" 2 M_law_any) (kn_frame : Kn P w K mg base 3 "frame" 1 M_frame) (kn_law_number_octets : Kn P w K mg base 1 "_law_number_octets" 1 M_law_number_octets) (kn_law_of : Kn P w K mg base 2 "_law_of" 2 M_law_of) (kn_law_octet : Kn P w K mg base 3 "_law_octet" 1 M_law_octet) (kn_law_due : Kn P w K mg base 3 "_law_due" 1 M_law_due) (kn_law_bent : Kn P w K mg base 4 "_law_bent" 2 M_law_bent) (kn_law_joined : Kn P w K mg base 1 "_law_joined" 1 M_law_joined) (kn_law_framed : Kn P w K mg base 2 "_law_framed" 1 M_law_framed) (kn_law_some_body : Kn P w K mg base 4 "_law_some_body" 1 M_law_some_body) (kn_law_deal : Kn P w K mg base 1 "_law_deal" 2 M_law_deal) (kk_frames : KnK P w K mg base 4 "frames" "octets" M_frames) (kk_frame : KnK P w K mg base 3 "frame" "body" M_frame) : Kn P w K mg base 5 "law" 1 M_law :=
  kn_mk F sc_law rfl hm hb rfl (fun cdv A outer s H Q E hr => wk_law gb gc kn_law_all kn_frames kn_law_any kn_frame kn_law_number_octets kn_law_of kn_law_octet kn_law_due kn_law_bent kn_law_joined kn_law_framed kn_law_some_body kn_law_deal kk_frames kk_frame cdv A outer s H Q E hr)
end
end K74

set_option Elab.async false
set_option linter.all false
set_option maxRecDepth 100000
set_option maxHeartbeats 4000000
namespace K74
open PySem PySem.Spec L2 Mir
theorem law_sp {K : PySem.W.Frag} {a : Addr} {ns : List Int} {H : Hp} {E : XK} (hl : ns.length ≤ 63) (hS : SqL K H a (ns.map V.int)) : spI K 1 M_law [.ref a] H (fun v _ => v = .bl true) E := by
  obtain ⟨h, e⟩ := law_true ns hl
  refine ⟨[], H, [], [.scr ns], rfl, ⟨Same.refl H, rfl, List.nodup_nil, fun a h => (nomatch h), fun i a ds h => by simp at h⟩, .cons (.scr hS) .nil, ?_⟩
  rw [e]
  intro v ι' F' H' _ _ r
  cases r
  rfl
open PyProof.Rows in
theorem all_mk {l : PySem.W.OpenLaw} {w : World} {K : PySem.W.Frag} {h : Heap} {mg : Str → Option Value} {fa : Addr} (X : K.In h) (G : h.Ns mainGlobals mg) (hfa : mg "law" = some (.ref fa))
    {f_law_is_kind : Addr} {od_law_is_kind an_law_is_kind : Option Addr} {sl_law_is_kind : Array (Option Value)} {oc_law_is_kind kV_law_is_kind dc_law_is_kind pm_law_is_kind cd_law_is_kind ct_law_is_kind : Value} (a_law_is_kind : PySem.W.nsIn K mainGlobals "_law_is_kind" = some (some (.ref f_law_is_kind))) (l_law_is_kind : K.lookup f_law_is_kind = some ⟨oc_law_is_kind, od_law_is_kind, .func (PySem.W.fnOf "_law_is_kind" "_law_is_kind" (defArgs s_law_is_kind) (defBody s_law_is_kind) (defScope s_law_is_kind) .none kV_law_is_kind dc_law_is_kind pm_law_is_kind an_law_is_kind cd_law_is_kind ct_law_is_kind), sl_law_is_kind⟩) (c_law_is_kind : PySem.W.codeIn K cd_law_is_kind "_law_is_kind" = true) (k_law_is_kind : PySem.W.keepIn K (.ref f_law_is_kind) = true)
    {f_law_same : Addr} {od_law_same an_law_same : Option Addr} {sl_law_same : Array (Option Value)} {oc_law_same kV_law_same dc_law_same pm_law_same cd_law_same ct_law_same : Value} (a_law_same : PySem.W.nsIn K mainGlobals "_law_same" = some (some (.ref f_law_same))) (l_law_same : K.lookup f_law_same = some ⟨oc_law_same, od_law_same, .func (PySem.W.fnOf "_law_same" "_law_same" (defArgs s_law_same) (defBody s_law_same) (defScope s_law_same) .none kV_law_same dc_law_same pm_law_same an_law_same cd_law_same ct_law_same), sl_law_same⟩) (c_law_same : PySem.W.codeIn K cd_law_same "_law_same" = true) (k_law_same : PySem.W.keepIn K (.ref f_law_same) = true)
    {f_law_all : Addr} {od_law_all an_law_all : Option Addr} {sl_law_all : Array (Option Value)} {oc_law_all kV_law_all dc_law_all pm_law_all cd_law_all ct_law_all : Value} (a_law_all : PySem.W.nsIn K mainGlobals "_law_all" = some (some (.ref f_law_all))) (l_law_all : K.lookup f_law_all = some ⟨oc_law_all, od_law_all, .func (PySem.W.fnOf "_law_all" "_law_all" (defArgs s_law_all) (defBody s_law_all) (defScope s_law_all) .none kV_law_all dc_law_all pm_law_all an_law_all cd_law_all ct_law_all), sl_law_all⟩) (c_law_all : PySem.W.codeIn K cd_law_all "_law_all" = true) (k_law_all : PySem.W.keepIn K (.ref f_law_all) = true)
    {f_sum_of_octets : Addr} {od_sum_of_octets an_sum_of_octets : Option Addr} {sl_sum_of_octets : Array (Option Value)} {oc_sum_of_octets kV_sum_of_octets dc_sum_of_octets pm_sum_of_octets cd_sum_of_octets ct_sum_of_octets : Value} (a_sum_of_octets : PySem.W.nsIn K mainGlobals "sum_of_octets" = some (some (.ref f_sum_of_octets))) (l_sum_of_octets : K.lookup f_sum_of_octets = some ⟨oc_sum_of_octets, od_sum_of_octets, .func (PySem.W.fnOf "sum_of_octets" "sum_of_octets" (defArgs s_sum_of_octets) (defBody s_sum_of_octets) (defScope s_sum_of_octets) .none kV_sum_of_octets dc_sum_of_octets pm_sum_of_octets an_sum_of_octets cd_sum_of_octets ct_sum_of_octets), sl_sum_of_octets⟩) (c_sum_of_octets : PySem.W.codeIn K cd_sum_of_octets "sum_of_octets" = true) (k_sum_of_octets : PySem.W.keepIn K (.ref f_sum_of_octets) = true)
    {f_sum_pair : Addr} {od_sum_pair an_sum_pair : Option Addr} {sl_sum_pair : Array (Option Value)} {oc_sum_pair kV_sum_pair dc_sum_pair pm_sum_pair cd_sum_pair ct_sum_pair : Value} (a_sum_pair : PySem.W.nsIn K mainGlobals "sum_pair" = some (some (.ref f_sum_pair))) (l_sum_pair : K.lookup f_sum_pair = some ⟨oc_sum_pair, od_sum_pair, .func (PySem.W.fnOf "sum_pair" "sum_pair" (defArgs s_sum_pair) (defBody s_sum_pair) (defScope s_sum_pair) .none kV_sum_pair dc_sum_pair pm_sum_pair an_sum_pair cd_sum_pair ct_sum_pair), sl_sum_pair⟩) (c_sum_pair : PySem.W.codeIn K cd_sum_pair "sum_pair" = true) (k_sum_pair : PySem.W.keepIn K (.ref f_sum_pair) = true)
    {f_number_of : Addr} {od_number_of an_number_of : Option Addr} {sl_number_of : Array (Option Value)} {oc_number_of kV_number_of dc_number_of pm_number_of cd_number_of ct_number_of : Value} (a_number_of : PySem.W.nsIn K mainGlobals "number_of" = some (some (.ref f_number_of))) (l_number_of : K.lookup f_number_of = some ⟨oc_number_of, od_number_of, .func (PySem.W.fnOf "number_of" "number_of" (defArgs s_number_of) (defBody s_number_of) (defScope s_number_of) .none kV_number_of dc_number_of pm_number_of an_number_of cd_number_of ct_number_of), sl_number_of⟩) (c_number_of : PySem.W.codeIn K cd_number_of "number_of" = true) (k_number_of : PySem.W.keepIn K (.ref f_number_of) = true)
    {f_behind_number : Addr} {od_behind_number an_behind_number : Option Addr} {sl_behind_number : Array (Option Value)} {oc_behind_number kV_behind_number dc_behind_number pm_behind_number cd_behind_number ct_behind_number : Value} (a_behind_number : PySem.W.nsIn K mainGlobals "behind_number" = some (some (.ref f_behind_number))) (l_behind_number : K.lookup f_behind_number = some ⟨oc_behind_number, od_behind_number, .func (PySem.W.fnOf "behind_number" "behind_number" (defArgs s_behind_number) (defBody s_behind_number) (defScope s_behind_number) .none kV_behind_number dc_behind_number pm_behind_number an_behind_number cd_behind_number ct_behind_number), sl_behind_number⟩) (c_behind_number : PySem.W.codeIn K cd_behind_number "behind_number" = true) (k_behind_number : PySem.W.keepIn K (.ref f_behind_number) = true)
    {f_number_in : Addr} {od_number_in an_number_in : Option Addr} {sl_number_in : Array (Option Value)} {oc_number_in kV_number_in dc_number_in pm_number_in cd_number_in ct_number_in : Value} (a_number_in : PySem.W.nsIn K mainGlobals "number_in" = some (some (.ref f_number_in))) (l_number_in : K.lookup f_number_in = some ⟨oc_number_in, od_number_in, .func (PySem.W.fnOf "number_in" "number_in" (defArgs s_number_in) (defBody s_number_in) (defScope s_number_in) .none kV_number_in dc_number_in pm_number_in an_number_in cd_number_in ct_number_in), sl_number_in⟩) (c_number_in : PySem.W.codeIn K cd_number_in "number_in" = true) (k_number_in : PySem.W.keepIn K (.ref f_number_in) = true)
    {f_frame_at : Addr} {od_frame_at an_frame_at : Option Addr} {sl_frame_at : Array (Option Value)} {oc_frame_at kV_frame_at dc_frame_at pm_frame_at cd_frame_at ct_frame_at : Value} (a_frame_at : PySem.W.nsIn K mainGlobals "frame_at" = some (some (.ref f_frame_at))) (l_frame_at : K.lookup f_frame_at = some ⟨oc_frame_at, od_frame_at, .func (PySem.W.fnOf "frame_at" "frame_at" (defArgs s_frame_at) (defBody s_frame_at) (defScope s_frame_at) .none kV_frame_at dc_frame_at pm_frame_at an_frame_at cd_frame_at ct_frame_at), sl_frame_at⟩) (c_frame_at : PySem.W.codeIn K cd_frame_at "frame_at" = true) (k_frame_at : PySem.W.keepIn K (.ref f_frame_at) = true)
    {f_frames : Addr} {od_frames an_frames : Option Addr} {sl_frames : Array (Option Value)} {oc_frames kV_frames dc_frames pm_frames cd_frames ct_frames : Value} (a_frames : PySem.W.nsIn K mainGlobals "frames" = some (some (.ref f_frames))) (l_frames : K.lookup f_frames = some ⟨oc_frames, od_frames, .func (PySem.W.fnOf "frames" "frames" (defArgs s_frames) (defBody s_frames) (defScope s_frames) .none kV_frames dc_frames pm_frames an_frames cd_frames ct_frames), sl_frames⟩) (c_frames : PySem.W.codeIn K cd_frames "frames" = true) (k_frames : PySem.W.keepIn K (.ref f_frames) = true)
    {f_law_any : Addr} {od_law_any an_law_any : Option Addr} {sl_law_any : Array (Option Value)} {oc_law_any kV_law_any dc_law_any pm_law_any cd_law_any ct_law_any : Value} (a_law_any : PySem.W.nsIn K mainGlobals "_law_any" = some (some (.ref f_law_any))) (l_law_any : K.lookup f_law_any = some ⟨oc_law_any, od_law_any, .func (PySem.W.fnOf "_law_any" "_law_any" (defArgs s_law_any) (defBody s_law_any) (defScope s_law_any) .none kV_law_any dc_law_any pm_law_any an_law_any cd_law_any ct_law_any), sl_law_any⟩) (c_law_any : PySem.W.codeIn K cd_law_any "_law_any" = true) (k_law_any : PySem.W.keepIn K (.ref f_law_any) = true)
    {f_octets_of_number : Addr} {od_octets_of_number an_octets_of_number : Option Addr} {sl_octets_of_number : Array (Option Value)} {oc_octets_of_number kV_octets_of_number dc_octets_of_number pm_octets_of_number cd_octets_of_number ct_octets_of_number : Value} (a_octets_of_number : PySem.W.nsIn K mainGlobals "octets_of_number" = some (some (.ref f_octets_of_number))) (l_octets_of_number : K.lookup f_octets_of_number = some ⟨oc_octets_of_number, od_octets_of_number, .func (PySem.W.fnOf "octets_of_number" "octets_of_number" (defArgs s_octets_of_number) (defBody s_octets_of_number) (defScope s_octets_of_number) .none kV_octets_of_number dc_octets_of_number pm_octets_of_number an_octets_of_number cd_octets_of_number ct_octets_of_number), sl_octets_of_number⟩) (c_octets_of_number : PySem.W.codeIn K cd_octets_of_number "octets_of_number" = true) (k_octets_of_number : PySem.W.keepIn K (.ref f_octets_of_number) = true)
    {f_number_octets : Addr} {od_number_octets an_number_octets : Option Addr} {sl_number_octets : Array (Option Value)} {oc_number_octets kV_number_octets dc_number_octets pm_number_octets cd_number_octets ct_number_octets : Value} (a_number_octets : PySem.W.nsIn K mainGlobals "number_octets" = some (some (.ref f_number_octets))) (l_number_octets : K.lookup f_number_octets = some ⟨oc_number_octets, od_number_octets, .func (PySem.W.fnOf "number_octets" "number_octets" (defArgs s_number_octets) (defBody s_number_octets) (defScope s_number_octets) .none kV_number_octets dc_number_octets pm_number_octets an_number_octets cd_number_octets ct_number_octets), sl_number_octets⟩) (c_number_octets : PySem.W.codeIn K cd_number_octets "number_octets" = true) (k_number_octets : PySem.W.keepIn K (.ref f_number_octets) = true)
    {f_frame : Addr} {od_frame an_frame : Option Addr} {sl_frame : Array (Option Value)} {oc_frame kV_frame dc_frame pm_frame cd_frame ct_frame : Value} (a_frame : PySem.W.nsIn K mainGlobals "frame" = some (some (.ref f_frame))) (l_frame : K.lookup f_frame = some ⟨oc_frame, od_frame, .func (PySem.W.fnOf "frame" "frame" (defArgs s_frame) (defBody s_frame) (defScope s_frame) .none kV_frame dc_frame pm_frame an_frame cd_frame ct_frame), sl_frame⟩) (c_frame : PySem.W.codeIn K cd_frame "frame" = true) (k_frame : PySem.W.keepIn K (.ref f_frame) = true)
    {f_law_number_octets : Addr} {od_law_number_octets an_law_number_octets : Option Addr} {sl_law_number_octets : Array (Option Value)} {oc_law_number_octets kV_law_number_octets dc_law_number_octets pm_law_number_octets cd_law_number_octets ct_law_number_octets : Value} (a_law_number_octets : PySem.W.nsIn K mainGlobals "_law_number_octets" = some (some (.ref f_law_number_octets))) (l_law_number_octets : K.lookup f_law_number_octets = some ⟨oc_law_number_octets, od_law_number_octets, .func (PySem.W.fnOf "_law_number_octets" "_law_number_octets" (defArgs s_law_number_octets) (defBody s_law_number_octets) (defScope s_law_number_octets) .none kV_law_number_octets dc_law_number_octets pm_law_number_octets an_law_number_octets cd_law_number_octets ct_law_number_octets), sl_law_number_octets⟩) (c_law_number_octets : PySem.W.codeIn K cd_law_number_octets "_law_number_octets" = true) (k_law_number_octets : PySem.W.keepIn K (.ref f_law_number_octets) = true)
    {f_law_of : Addr} {od_law_of an_law_of : Option Addr} {sl_law_of : Array (Option Value)} {oc_law_of kV_law_of dc_law_of pm_law_of cd_law_of ct_law_of : Value} (a_law_of : PySem.W.nsIn K mainGlobals "_law_of" = some (some (.ref f_law_of))) (l_law_of : K.lookup f_law_of = some ⟨oc_law_of, od_law_of, .func (PySem.W.fnOf "_law_of" "_law_of" (defArgs s_law_of) (defBody s_law_of) (defScope s_law_of) .none kV_law_of dc_law_of pm_law_of an_law_of cd_law_of ct_law_of), sl_law_of⟩) (c_law_of : PySem.W.codeIn K cd_law_of "_law_of" = true) (k_law_of : PySem.W.keepIn K (.ref f_law_of) = true)
    {f_law_octet : Addr} {od_law_octet an_law_octet : Option Addr} {sl_law_octet : Array (Option Value)} {oc_law_octet kV_law_octet dc_law_octet pm_law_octet cd_law_octet ct_law_octet : Value} (a_law_octet : PySem.W.nsIn K mainGlobals "_law_octet" = some (some (.ref f_law_octet))) (l_law_octet : K.lookup f_law_octet = some ⟨oc_law_octet, od_law_octet, .func (PySem.W.fnOf "_law_octet" "_law_octet" (defArgs s_law_octet) (defBody s_law_octet) (defScope s_law_octet) .none kV_law_octet dc_law_octet pm_law_octet an_law_octet cd_law_octet ct_law_octet), sl_law_octet⟩) (c_law_octet : PySem.W.codeIn K cd_law_octet "_law_octet" = true) (k_law_octet : PySem.W.keepIn K (.ref f_law_octet) = true)
    {f_law_sum : Addr} {od_law_sum an_law_sum : Option Addr} {sl_law_sum : Array (Option Value)} {oc_law_sum kV_law_sum dc_law_sum pm_law_sum cd_law_sum ct_law_sum : Value} (a_law_sum : PySem.W.nsIn K mainGlobals "_law_sum" = some (some (.ref f_law_sum))) (l_law_sum : K.lookup f_law_sum = some ⟨oc_law_sum, od_law_sum, .func (PySem.W.fnOf "_law_sum" "_law_sum" (defArgs s_law_sum) (defBody s_law_sum) (defScope s_law_sum) .none kV_law_sum dc_law_sum pm_law_sum an_law_sum cd_law_sum ct_law_sum), sl_law_sum⟩) (c_law_sum : PySem.W.codeIn K cd_law_sum "_law_sum" = true) (k_law_sum : PySem.W.keepIn K (.ref f_law_sum) = true)
    {f_law_number_at : Addr} {od_law_number_at an_law_number_at : Option Addr} {sl_law_number_at : Array (Option Value)} {oc_law_number_at kV_law_number_at dc_law_number_at pm_law_number_at cd_law_number_at ct_law_number_at : Value} (a_law_number_at : PySem.W.nsIn K mainGlobals "_law_number_at" = some (some (.ref f_law_number_at))) (l_law_number_at : K.lookup f_law_number_at = some ⟨oc_law_number_at, od_law_number_at, .func (PySem.W.fnOf "_law_number_at" "_law_number_at" (defArgs s_law_number_at) (defBody s_law_number_at) (defScope s_law_number_at) .none kV_law_number_at dc_law_number_at pm_law_number_at an_law_number_at cd_law_number_at ct_law_number_at), sl_law_number_at⟩) (c_law_number_at : PySem.W.codeIn K cd_law_number_at "_law_number_at" = true) (k_law_number_at : PySem.W.keepIn K (.ref f_law_number_at) = true)
    {f_law_frames_in : Addr} {od_law_frames_in an_law_frames_in : Option Addr} {sl_law_frames_in : Array (Option Value)} {oc_law_frames_in kV_law_frames_in dc_law_frames_in pm_law_frames_in cd_law_frames_in ct_law_frames_in : Value} (a_law_frames_in : PySem.W.nsIn K mainGlobals "_law_frames_in" = some (some (.ref f_law_frames_in))) (l_law_frames_in : K.lookup f_law_frames_in = some ⟨oc_law_frames_in, od_law_frames_in, .func (PySem.W.fnOf "_law_frames_in" "_law_frames_in" (defArgs s_law_frames_in) (defBody s_law_frames_in) (defScope s_law_frames_in) .none kV_law_frames_in dc_law_frames_in pm_law_frames_in an_law_frames_in cd_law_frames_in ct_law_frames_in), sl_law_frames_in⟩) (c_law_frames_in : PySem.W.codeIn K cd_law_frames_in "_law_frames_in" = true) (k_law_frames_in : PySem.W.keepIn K (.ref f_law_frames_in) = true)
    {f_law_due : Addr} {od_law_due an_law_due : Option Addr} {sl_law_due : Array (Option Value)} {oc_law_due kV_law_due dc_law_due pm_law_due cd_law_due ct_law_due : Value} (a_law_due : PySem.W.nsIn K mainGlobals "_law_due" = some (some (.ref f_law_due))) (l_law_due : K.lookup f_law_due = some ⟨oc_law_due, od_law_due, .func (PySem.W.fnOf "_law_due" "_law_due" (defArgs s_law_due) (defBody s_law_due) (defScope s_law_due) .none kV_law_due dc_law_due pm_law_due an_law_due cd_law_due ct_law_due), sl_law_due⟩) (c_law_due : PySem.W.codeIn K cd_law_due "_law_due" = true) (k_law_due : PySem.W.keepIn K (.ref f_law_due) = true)
    {f_law_bent : Addr} {od_law_bent an_law_bent : Option Addr} {sl_law_bent : Array (Option Value)} {oc_law_bent kV_law_bent dc_law_bent pm_law_bent cd_law_bent ct_law_bent : Value} (a_law_bent : PySem.W.nsIn K mainGlobals "_law_bent" = some (some (.ref f_law_bent))) (l_law_bent : K.lookup f_law_bent = some ⟨oc_law_bent, od_law_bent, .func (PySem.W.fnOf "_law_bent" "_law_bent" (defArgs s_law_bent) (defBody s_law_bent) (defScope s_law_bent) .none kV_law_bent dc_law_bent pm_law_bent an_law_bent cd_law_bent ct_law_bent), sl_law_bent⟩) (c_law_bent : PySem.W.codeIn K cd_law_bent "_law_bent" = true) (k_law_bent : PySem.W.keepIn K (.ref f_law_bent) = true)
    {f_law_joined : Addr} {od_law_joined an_law_joined : Option Addr} {sl_law_joined : Array (Option Value)} {oc_law_joined kV_law_joined dc_law_joined pm_law_joined cd_law_joined ct_law_joined : Value} (a_law_joined : PySem.W.nsIn K mainGlobals "_law_joined" = some (some (.ref f_law_joined))) (l_law_joined : K.lookup f_law_joined = some ⟨oc_law_joined, od_law_joined, .func (PySem.W.fnOf "_law_joined" "_law_joined" (defArgs s_law_joined) (defBody s_law_joined) (defScope s_law_joined) .none kV_law_joined dc_law_joined pm_law_joined an_law_joined cd_law_joined ct_law_joined), sl_law_joined⟩) (c_law_joined : PySem.W.codeIn K cd_law_joined "_law_joined" = true) (k_law_joined : PySem.W.keepIn K (.ref f_law_joined) = true)
    {f_law_framed : Addr} {od_law_framed an_law_framed : Option Addr} {sl_law_framed : Array (Option Value)} {oc_law_framed kV_law_framed dc_law_framed pm_law_framed cd_law_framed ct_law_framed : Value} (a_law_framed : PySem.W.nsIn K mainGlobals "_law_framed" = some (some (.ref f_law_framed))) (l_law_framed : K.lookup f_law_framed = some ⟨oc_law_framed, od_law_framed, .func (PySem.W.fnOf "_law_framed" "_law_framed" (defArgs s_law_framed) (defBody s_law_framed) (defScope s_law_framed) .none kV_law_framed dc_law_framed pm_law_framed an_law_framed cd_law_framed ct_law_framed), sl_law_framed⟩) (c_law_framed : PySem.W.codeIn K cd_law_framed "_law_framed" = true) (k_law_framed : PySem.W.keepIn K (.ref f_law_framed) = true)
    {f_law_some_body : Addr} {od_law_some_body an_law_some_body : Option Addr} {sl_law_some_body : Array (Option Value)} {oc_law_some_body kV_law_some_body dc_law_some_body pm_law_some_body cd_law_some_body ct_law_some_body : Value} (a_law_some_body : PySem.W.nsIn K mainGlobals "_law_some_body" = some (some (.ref f_law_some_body))) (l_law_some_body : K.lookup f_law_some_body = some ⟨oc_law_some_body, od_law_some_body, .func (PySem.W.fnOf "_law_some_body" "_law_some_body" (defArgs s_law_some_body) (defBody s_law_some_body) (defScope s_law_some_body) .none kV_law_some_body dc_law_some_body pm_law_some_body an_law_some_body cd_law_some_body ct_law_some_body), sl_law_some_body⟩) (c_law_some_body : PySem.W.codeIn K cd_law_some_body "_law_some_body" = true) (k_law_some_body : PySem.W.keepIn K (.ref f_law_some_body) = true)
    {f_law_deal : Addr} {od_law_deal an_law_deal : Option Addr} {sl_law_deal : Array (Option Value)} {oc_law_deal kV_law_deal dc_law_deal pm_law_deal cd_law_deal ct_law_deal : Value} (a_law_deal : PySem.W.nsIn K mainGlobals "_law_deal" = some (some (.ref f_law_deal))) (l_law_deal : K.lookup f_law_deal = some ⟨oc_law_deal, od_law_deal, .func (PySem.W.fnOf "_law_deal" "_law_deal" (defArgs s_law_deal) (defBody s_law_deal) (defScope s_law_deal) .none kV_law_deal dc_law_deal pm_law_deal an_law_deal cd_law_deal ct_law_deal), sl_law_deal⟩) (c_law_deal : PySem.W.codeIn K cd_law_deal "_law_deal" = true) (k_law_deal : PySem.W.keepIn K (.ref f_law_deal) = true)
    {f_law : Addr} {od_law an_law : Option Addr} {sl_law : Array (Option Value)} {oc_law kV_law dc_law pm_law cd_law ct_law : Value} (a_law : PySem.W.nsIn K mainGlobals "law" = some (some (.ref f_law))) (l_law : K.lookup f_law = some ⟨oc_law, od_law, .func (PySem.W.fnOf "law" "law" (defArgs s_law) (defBody s_law) (defScope s_law) .none kV_law dc_law pm_law an_law cd_law ct_law), sl_law⟩) (c_law : PySem.W.codeIn K cd_law "law" = true) (k_law : PySem.W.keepIn K (.ref f_law) = true)
    (z_len : PySem.W.nsIn K mainGlobals "len" = some none)
    (z_int : PySem.W.nsIn K mainGlobals "int" = some none)
    (z_abs : PySem.W.nsIn K mainGlobals "abs" = some none)
    (z_tuple : PySem.W.nsIn K mainGlobals "tuple" = some none)
    (z_list : PySem.W.nsIn K mainGlobals "list" = some none)
    (z_sum : PySem.W.nsIn K mainGlobals "sum" = some none)
    (z_zip : PySem.W.nsIn K mainGlobals "zip" = some none)
    (z_range : PySem.W.nsIn K mainGlobals "range" = some none)
    (z_enumerate : PySem.W.nsIn K mainGlobals "enumerate" = some none)
    (z_isinstance : PySem.W.nsIn K mainGlobals "isinstance" = some none)
    (z_dict : PySem.W.nsIn K mainGlobals "dict" = some none)
    (z_bool : PySem.W.nsIn K mainGlobals "bool" = some none)
    (z_str : PySem.W.nsIn K mainGlobals "str" = some none)
    {t_BASE : Tok} (y_BASE : PySem.W.nsIn K mainGlobals "BASE" = some (some (.int 128 t_BASE)))
    {t_OCTET : Tok} (y_OCTET : PySem.W.nsIn K mainGlobals "OCTET" = some (some (.int 256 t_OCTET)))
    {t_PRIME : Tok} (y_PRIME : PySem.W.nsIn K mainGlobals "PRIME" = some (some (.int 65521 t_PRIME)))
    {t_SUM_OCTETS : Tok} (y_SUM_OCTETS : PySem.W.nsIn K mainGlobals "SUM_OCTETS" = some (some (.int 2 t_SUM_OCTETS)))
    {C_Answer : Addr} (x_Answer : PySem.W.nsIn K mainGlobals "Answer" = some (some (.ref C_Answer)))
    (n_Answer0 : PySem.W.kitOne K (.type "NoneType") (.ref C_Answer) = some false)
    (n_Answer1 : PySem.W.kitOne K (.type "bool") (.ref C_Answer) = some false)
    (n_Answer2 : PySem.W.kitOne K (.type "int") (.ref C_Answer) = some false)
    (n_Answer3 : PySem.W.kitOne K (.type "str") (.ref C_Answer) = some false)
    (n_Answer4 : PySem.W.kitOne K (.type "tuple") (.ref C_Answer) = some false)
    (n_Answer5 : PySem.W.kitOne K (.type "list") (.ref C_Answer) = some false)
    : ∃ fd : FuncData, (∀ (s : Shared) (v : Value), BindsTo s fd ⟨[v], []⟩ [("script", v)]) ∧ ∀ base : Heap, K.In base → base.Ns mainGlobals mg → FnOk l.prog w K mg base CX0 5 fa fd ["script"] (spI K 1 M_law) := by
  have e := hfa.symm.trans (PySem.W.mg_of X G a_law)
  cases e
  have gb : Blt mg := ⟨PySem.W.mg_none_of X G z_len, PySem.W.mg_none_of X G z_int, PySem.W.mg_none_of X G z_abs, PySem.W.mg_none_of X G z_tuple, PySem.W.mg_none_of X G z_list, PySem.W.mg_none_of X G z_sum, PySem.W.mg_none_of X G z_zip, PySem.W.mg_none_of X G z_range, PySem.W.mg_none_of X G z_enumerate, PySem.W.mg_none_of X G z_isinstance, PySem.W.mg_none_of X G z_dict, PySem.W.mg_none_of X G z_bool, PySem.W.mg_none_of X G z_str⟩
  have gc : Cst mg := ⟨⟨_, PySem.W.mg_of X G y_BASE⟩, ⟨_, PySem.W.mg_of X G y_OCTET⟩, ⟨_, PySem.W.mg_of X G y_PRIME⟩, ⟨_, PySem.W.mg_of X G y_SUM_OCTETS⟩⟩
  have nk_Answer : NoKd K C_Answer := fun k => match k with
    | .non => n_Answer0
    | .bool => n_Answer1
    | .int => n_Answer2
    | .str => n_Answer3
    | .tuple => n_Answer4
    | .list => n_Answer5
  have F_law_is_kind := fun_mk (st := s_law_is_kind) l_law_is_kind c_law_is_kind k_law_is_kind
  have F_law_same := fun_mk (st := s_law_same) l_law_same c_law_same k_law_same
  have F_law_all := fun_mk (st := s_law_all) l_law_all c_law_all k_law_all
  have F_sum_of_octets := fun_mk (st := s_sum_of_octets) l_sum_of_octets c_sum_of_octets k_sum_of_octets
  have F_sum_pair := fun_mk (st := s_sum_pair) l_sum_pair c_sum_pair k_sum_pair
  have F_number_of := fun_mk (st := s_number_of) l_number_of c_number_of k_number_of
  have F_behind_number := fun_mk (st := s_behind_number) l_behind_number c_behind_number k_behind_number
  have F_number_in := fun_mk (st := s_number_in) l_number_in c_number_in k_number_in
  have F_frame_at := fun_mk (st := s_frame_at) l_frame_at c_frame_at k_frame_at
  have F_frames := fun_mk (st := s_frames) l_frames c_frames k_frames
  have F_law_any := fun_mk (st := s_law_any) l_law_any c_law_any k_law_any
  have F_octets_of_number := fun_mk (st := s_octets_of_number) l_octets_of_number c_octets_of_number k_octets_of_number
  have F_number_octets := fun_mk (st := s_number_octets) l_number_octets c_number_octets k_number_octets
  have F_frame := fun_mk (st := s_frame) l_frame c_frame k_frame
  have F_law_number_octets := fun_mk (st := s_law_number_octets) l_law_number_octets c_law_number_octets k_law_number_octets
  have F_law_of := fun_mk (st := s_law_of) l_law_of c_law_of k_law_of
  have F_law_octet := fun_mk (st := s_law_octet) l_law_octet c_law_octet k_law_octet
  have F_law_sum := fun_mk (st := s_law_sum) l_law_sum c_law_sum k_law_sum
  have F_law_number_at := fun_mk (st := s_law_number_at) l_law_number_at c_law_number_at k_law_number_at
  have F_law_frames_in := fun_mk (st := s_law_frames_in) l_law_frames_in c_law_frames_in k_law_frames_in
  have F_law_due := fun_mk (st := s_law_due) l_law_due c_law_due k_law_due
  have F_law_bent := fun_mk (st := s_law_bent) l_law_bent c_law_bent k_law_bent
  have F_law_joined := fun_mk (st := s_law_joined) l_law_joined c_law_joined k_law_joined
  have F_law_framed := fun_mk (st := s_law_framed) l_law_framed c_law_framed k_law_framed
  have F_law_some_body := fun_mk (st := s_law_some_body) l_law_some_body c_law_some_body k_law_some_body
  have F_law_deal := fun_mk (st := s_law_deal) l_law_deal c_law_deal k_law_deal
  have F_law := fun_mk (st := s_law) l_law c_law k_law
  refine ⟨PySem.W.fnOf "law" "law" (defArgs s_law) (defBody s_law) (defScope s_law) .none kV_law dc_law pm_law an_law cd_law ct_law, fun s v => .of_eq rfl, fun base _ _ => ?_⟩
  have q_law_is_kind : Kn l.prog w K mg base 1 "_law_is_kind" 2 M_law_is_kind := kn_law_is_kind F_law_is_kind (PySem.W.mg_of X G a_law_is_kind) (F_law_is_kind.binds (ps := ["told", "due"]) fun _ _ _ _ _ _ us hl => match us, hl with | [_, _], _ => rfl) gb gc 
  have q_law_same : Kn l.prog w K mg base 2 "_law_same" 2 M_law_same := kn_law_same F_law_same (PySem.W.mg_of X G a_law_same) (F_law_same.binds (ps := ["told", "due"]) fun _ _ _ _ _ _ us hl => match us, hl with | [_, _], _ => rfl) gb gc q_law_is_kind (PySem.W.mg_of X G x_Answer) nk_Answer
  have q_law_all : Kn l.prog w K mg base 3 "_law_all" 1 M_law_all := kn_law_all F_law_all (PySem.W.mg_of X G a_law_all) (F_law_all.binds (ps := ["pairs"]) fun _ _ _ _ _ _ us hl => match us, hl with | [_], _ => rfl) gb gc q_law_same
  have q_sum_of_octets : Kn l.prog w K mg base 1 "sum_of_octets" 1 M_sum_of_octets := kn_sum_of_octets F_sum_of_octets (PySem.W.mg_of X G a_sum_of_octets) (F_sum_of_octets.binds (ps := ["octets"]) fun _ _ _ _ _ _ us hl => match us, hl with | [_], _ => rfl) gb gc 
  have q_sum_pair : Kn l.prog w K mg base 2 "sum_pair" 1 M_sum_pair := kn_sum_pair F_sum_pair (PySem.W.mg_of X G a_sum_pair) (F_sum_pair.binds (ps := ["body"]) fun _ _ _ _ _ _ us hl => match us, hl with | [_], _ => rfl) gb gc q_sum_of_octets
  have q_number_of : Kn l.prog w K mg base 1 "number_of" 1 M_number_of := kn_number_of F_number_of (PySem.W.mg_of X G a_number_of) (F_number_of.binds (ps := ["figures"]) fun _ _ _ _ _ _ us hl => match us, hl with | [_], _ => rfl) gb gc 
  have q_behind_number : Kn l.prog w K mg base 1 "behind_number" 2 M_behind_number := kn_behind_number F_behind_number (PySem.W.mg_of X G a_behind_number) (F_behind_number.binds (ps := ["octets", "at"]) fun _ _ _ _ _ _ us hl => match us, hl with | [_, _], _ => rfl) gb gc 
  have q_number_in : Kn l.prog w K mg base 2 "number_in" 2 M_number_in := kn_number_in F_number_in (PySem.W.mg_of X G a_number_in) (F_number_in.binds (ps := ["octets", "at"]) fun _ _ _ _ _ _ us hl => match us, hl with | [_, _], _ => rfl) gb gc q_number_of q_behind_number
  have q_frame_at : Kn l.prog w K mg base 3 "frame_at" 2 M_frame_at := kn_frame_at F_frame_at (PySem.W.mg_of X G a_frame_at) (F_frame_at.binds (ps := ["octets", "at"]) fun _ _ _ _ _ _ us hl => match us, hl with | [_, _], _ => rfl) gb gc q_sum_pair q_number_in
  have q_frames : Kn l.prog w K mg base 4 "frames" 1 M_frames := kn_frames F_frames (PySem.W.mg_of X G a_frames) (F_frames.binds (ps := ["octets"]) fun _ _ _ _ _ _ us hl => match us, hl with | [_], _ => rfl) gb gc q_frame_at
  have p_frames : KnK l.prog w K mg base 4 "frames" "octets" M_frames := kk_frames F_frames (PySem.W.mg_of X G a_frames) (fun s u _ => .of_eq rfl) gb gc q_frame_at
  have q_law_any : Kn l.prog w K mg base 1 "_law_any" 2 M_law_any := kn_law_any F_law_any (PySem.W.mg_of X G a_law_any) (F_law_any.binds (ps := ["deal", "bound"]) fun _ _ _ _ _ _ us hl => match us, hl with | [_, _], _ => rfl) gb gc 
  have q_octets_of_number : Kn l.prog w K mg base 1 "octets_of_number" 1 M_octets_of_number := kn_octets_of_number F_octets_of_number (PySem.W.mg_of X G a_octets_of_number) (F_octets_of_number.binds (ps := ["number"]) fun _ _ _ _ _ _ us hl => match us, hl with | [_], _ => rfl) gb gc 
  have q_number_octets : Kn l.prog w K mg base 2 "number_octets" 1 M_number_octets := kn_number_octets F_number_octets (PySem.W.mg_of X G a_number_octets) (F_number_octets.binds (ps := ["number"]) fun _ _ _ _ _ _ us hl => match us, hl with | [_], _ => rfl) gb gc q_octets_of_number
  have q_frame : Kn l.prog w K mg base 3 "frame" 1 M_frame := kn_frame F_frame (PySem.W.mg_of X G a_frame) (F_frame.binds (ps := ["body"]) fun _ _ _ _ _ _ us hl => match us, hl with | [_], _ => rfl) gb gc q_number_octets q_sum_pair
  have p_frame : KnK l.prog w K mg base 3 "frame" "body" M_frame := kk_frame F_frame (PySem.W.mg_of X G a_frame) (fun s u _ => .of_eq rfl) gb gc q_number_octets q_sum_pair
  have q_law_number_octets : Kn l.prog w K mg base 1 "_law_number_octets" 1 M_law_number_octets := kn_law_number_octets F_law_number_octets (PySem.W.mg_of X G a_law_number_octets) (F_law_number_octets.binds (ps := ["number"]) fun _ _ _ _ _ _ us hl => match us, hl with | [_], _ => rfl) gb gc 
  have q_law_of : Kn l.prog w K mg base 2 "_law_of" 2 M_law_of := kn_law_of F_law_of (PySem.W.mg_of X G a_law_of) (F_law_of.binds (ps := ["deal", "some"]) fun _ _ _ _ _ _ us hl => match us, hl with | [_, _], _ => rfl) gb gc q_law_any
  have q_law_octet : Kn l.prog w K mg base 3 "_law_octet" 1 M_law_octet := kn_law_octet F_law_octet (PySem.W.mg_of X G a_law_octet) (F_law_octet.binds (ps := ["deal"]) fun _ _ _ _ _ _ us hl => match us, hl with | [_], _ => rfl) gb gc q_law_of q_law_any
  have q_law_sum : Kn l.prog w K mg base 1 "_law_sum" 1 M_law_sum := kn_law_sum F_law_sum (PySem.W.mg_of X G a_law_sum) (F_law_sum.binds (ps := ["octets"]) fun _ _ _ _ _ _ us hl => match us, hl with | [_], _ => rfl) gb gc 
  have q_law_number_at : Kn l.prog w K mg base 1 "_law_number_at" 2 M_law_number_at := kn_law_number_at F_law_number_at (PySem.W.mg_of X G a_law_number_at) (F_law_number_at.binds (ps := ["octets", "at"]) fun _ _ _ _ _ _ us hl => match us, hl with | [_, _], _ => rfl) gb gc 
  have q_law_frames_in : Kn l.prog w K mg base 2 "_law_frames_in" 1 M_law_frames_in := kn_law_frames_in F_law_frames_in (PySem.W.mg_of X G a_law_frames_in) (F_law_frames_in.binds (ps := ["octets"]) fun _ _ _ _ _ _ us hl => match us, hl with | [_], _ => rfl) gb gc q_law_sum q_law_number_at
  have q_law_due : Kn l.prog w K mg base 3 "_law_due" 1 M_law_due := kn_law_due F_law_due (PySem.W.mg_of X G a_law_due) (F_law_due.binds (ps := ["octets"]) fun _ _ _ _ _ _ us hl => match us, hl with | [_], _ => rfl) gb gc q_law_frames_in
  have q_law_bent : Kn l.prog w K mg base 4 "_law_bent" 2 M_law_bent := kn_law_bent F_law_bent (PySem.W.mg_of X G a_law_bent) (F_law_bent.binds (ps := ["deal", "octets"]) fun _ _ _ _ _ _ us hl => match us, hl with | [_, _], _ => rfl) gb gc q_law_of q_law_any q_law_octet
  have q_law_joined : Kn l.prog w K mg base 1 "_law_joined" 1 M_law_joined := kn_law_joined F_law_joined (PySem.W.mg_of X G a_law_joined) (F_law_joined.binds (ps := ["rows"]) fun _ _ _ _ _ _ us hl => match us, hl with | [_], _ => rfl) gb gc 
  have q_law_framed : Kn l.prog w K mg base 2 "_law_framed" 1 M_law_framed := kn_law_framed F_law_framed (PySem.W.mg_of X G a_law_framed) (F_law_framed.binds (ps := ["body"]) fun _ _ _ _ _ _ us hl => match us, hl with | [_], _ => rfl) gb gc q_law_number_octets q_law_sum
  have q_law_some_body : Kn l.prog w K mg base 4 "_law_some_body" 1 M_law_some_body := kn_law_some_body F_law_some_body (PySem.W.mg_of X G a_law_some_body) (F_law_some_body.binds (ps := ["deal"]) fun _ _ _ _ _ _ us hl => match us, hl with | [_], _ => rfl) gb gc q_law_octet q_law_of
  have q_law_deal : Kn l.prog w K mg base 1 "_law_deal" 2 M_law_deal := kn_law_deal F_law_deal (PySem.W.mg_of X G a_law_deal) (F_law_deal.binds (ps := ["script", "salt"]) fun _ _ _ _ _ _ us hl => match us, hl with | [_, _], _ => rfl) gb gc 
  exact fn_ok F_law sc_law rfl (fun cdv A outer s H Q E hr => wk_law gb gc q_law_all q_frames q_law_any q_frame q_law_number_octets q_law_of q_law_octet q_law_due q_law_bent q_law_joined q_law_framed q_law_some_body q_law_deal p_frames p_frame cdv A outer s H Q E hr)
end K74
open PySem PySem.W PyProof.Rows
set_option maxHeartbeats 0 in
theorem PySem.Challenge.cw_howitbegan_k74_frames_are_read_up_to_the_holds : PySem.Challenge.rw_howitbegan_k74_frames_are_read_up_to_the.Holds := by
  w_on; o_law; k_head; (case hw => w_witness2)
  k_fill
  refine L2.walk_of (l := PySem.Challenge.rw_howitbegan_k74_frames_are_read_up_to_the) (n := 63) (k := 5) (x := "script") (CX := fun _ => L2.CX0) (sp := fun w => Mir.spI _ 1 K74.M_law) rfl (by decide) rfl ⟨rfl, by decide, by decide⟩ (fun w h Y => PySem.W.kIn_of Y) ?F (fun _ _ a ns hl _ hS => K74.law_sp hl hS) (fun _ _ _ _ _ h => h)
  case F =>
    intro w mg fa h KX G hmg
    refine' K74.all_mk KX G hmg ?a_law_is_kind ?l_law_is_kind ?c_law_is_kind ?k_law_is_kind ?a_law_same ?l_law_same ?c_law_same ?k_law_same ?a_law_all ?l_law_all ?c_law_all ?k_law_all ?a_sum_of_octets ?l_sum_of_octets ?c_sum_of_octets ?k_sum_of_octets ?a_sum_pair ?l_sum_pair ?c_sum_pair ?k_sum_pair ?a_number_of ?l_number_of ?c_number_of ?k_number_of ?a_behind_number ?l_behind_number ?c_behind_number ?k_behind_number ?a_number_in ?l_number_in ?c_number_in ?k_number_in ?a_frame_at ?l_frame_at ?c_frame_at ?k_frame_at ?a_frames ?l_frames ?c_frames ?k_frames ?a_law_any ?l_law_any ?c_law_any ?k_law_any ?a_octets_of_number ?l_octets_of_number ?c_octets_of_number ?k_octets_of_number ?a_number_octets ?l_number_octets ?c_number_octets ?k_number_octets ?a_frame ?l_frame ?c_frame ?k_frame ?a_law_number_octets ?l_law_number_octets ?c_law_number_octets ?k_law_number_octets ?a_law_of ?l_law_of ?c_law_of ?k_law_of ?a_law_octet ?l_law_octet ?c_law_octet ?k_law_octet ?a_law_sum ?l_law_sum ?c_law_sum ?k_law_sum ?a_law_number_at ?l_law_number_at ?c_law_number_at ?k_law_number_at ?a_law_frames_in ?l_law_frames_in ?c_law_frames_in ?k_law_frames_in ?a_law_due ?l_law_due ?c_law_due ?k_law_due ?a_law_bent ?l_law_bent ?c_law_bent ?k_law_bent ?a_law_joined ?l_law_joined ?c_law_joined ?k_law_joined ?a_law_framed ?l_law_framed ?c_law_framed ?k_law_framed ?a_law_some_body ?l_law_some_body ?c_law_some_body ?k_law_some_body ?a_law_deal ?l_law_deal ?c_law_deal ?k_law_deal ?a_law ?l_law ?c_law ?k_law ?z_len ?z_int ?z_abs ?z_tuple ?z_list ?z_sum ?z_zip ?z_range ?z_enumerate ?z_isinstance ?z_dict ?z_bool ?z_str ?y_BASE ?y_OCTET ?y_PRIME ?y_SUM_OCTETS ?x_Answer ?n_Answer0 ?n_Answer1 ?n_Answer2 ?n_Answer3 ?n_Answer4 ?n_Answer5
    (case a_law_is_kind => k_is); (case l_law_is_kind => k_is); (case c_law_is_kind => k_is); (case k_law_is_kind => k_is); (case a_law_same => k_is); (case l_law_same => k_is); (case c_law_same => k_is); (case k_law_same => k_is); (case a_law_all => k_is); (case l_law_all => k_is); (case c_law_all => k_is); (case k_law_all => k_is); (case a_sum_of_octets => k_is); (case l_sum_of_octets => k_is); (case c_sum_of_octets => k_is); (case k_sum_of_octets => k_is); (case a_sum_pair => k_is); (case l_sum_pair => k_is); (case c_sum_pair => k_is); (case k_sum_pair => k_is); (case a_number_of => k_is); (case l_number_of => k_is); (case c_number_of => k_is); (case k_number_of => k_is); (case a_behind_number => k_is); (case l_behind_number => k_is); (case c_behind_number => k_is); (case k_behind_number => k_is); (case a_number_in => k_is); (case l_number_in => k_is); (case c_number_in => k_is); (case k_number_in => k_is); (case a_frame_at => k_is); (case l_frame_at => k_is); (case c_frame_at => k_is); (case k_frame_at => k_is); (case a_frames => k_is); (case l_frames => k_is); (case c_frames => k_is); (case k_frames => k_is); (case a_law_any => k_is); (case l_law_any => k_is); (case c_law_any => k_is); (case k_law_any => k_is); (case a_octets_of_number => k_is); (case l_octets_of_number => k_is); (case c_octets_of_number => k_is); (case k_octets_of_number => k_is); (case a_number_octets => k_is); (case l_number_octets => k_is); (case c_number_octets => k_is); (case k_number_octets => k_is); (case a_frame => k_is); (case l_frame => k_is); (case c_frame => k_is); (case k_frame => k_is); (case a_law_number_octets => k_is); (case l_law_number_octets => k_is); (case c_law_number_octets => k_is); (case k_law_number_octets => k_is); (case a_law_of => k_is); (case l_law_of => k_is); (case c_law_of => k_is); (case k_law_of => k_is); (case a_law_octet => k_is); (case l_law_octet => k_is); (case c_law_octet => k_is); (case k_law_octet => k_is); (case a_law_sum => k_is); (case l_law_sum => k_is); (case c_law_sum => k_is); (case k_law_sum => k_is); (case a_law_number_at => k_is); (case l_law_number_at => k_is); (case c_law_number_at => k_is); (case k_law_number_at => k_is); (case a_law_frames_in => k_is); (case l_law_frames_in => k_is); (case c_law_frames_in => k_is); (case k_law_frames_in => k_is); (case a_law_due => k_is); (case l_law_due => k_is); (case c_law_due => k_is); (case k_law_due => k_is); (case a_law_bent => k_is); (case l_law_bent => k_is); (case c_law_bent => k_is); (case k_law_bent => k_is); (case a_law_joined => k_is); (case l_law_joined => k_is); (case c_law_joined => k_is); (case k_law_joined => k_is); (case a_law_framed => k_is); (case l_law_framed => k_is); (case c_law_framed => k_is); (case k_law_framed => k_is); (case a_law_some_body => k_is); (case l_law_some_body => k_is); (case c_law_some_body => k_is); (case k_law_some_body => k_is); (case a_law_deal => k_is); (case l_law_deal => k_is); (case c_law_deal => k_is); (case k_law_deal => k_is); (case a_law => k_is); (case l_law => k_is); (case c_law => k_is); (case k_law => k_is); (case z_len => k_is); (case z_int => k_is); (case z_abs => k_is); (case z_tuple => k_is); (case z_list => k_is); (case z_sum => k_is); (case z_zip => k_is); (case z_range => k_is); (case z_enumerate => k_is); (case z_isinstance => k_is); (case z_dict => k_is); (case z_bool => k_is); (case z_str => k_is); (case y_BASE => k_is); (case y_OCTET => k_is); (case y_PRIME => k_is); (case y_SUM_OCTETS => k_is); (case x_Answer => k_is); (case n_Answer0 => kit_is); (case n_Answer1 => kit_is); (case n_Answer2 => kit_is); (case n_Answer3 => kit_is); (case n_Answer4 => kit_is); (case n_Answer5 => kit_is)

