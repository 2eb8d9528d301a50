import PyProof.Rows.All
import Wide.All
import OpenK.AllK
import Wide.FinOn
import HandS.ForMost
import HandS.ForExc
import HandS.TryMany
import HandS.CallSlots
import HandS.Defaults
import HandS.IsInst
import HandS.Walk
import HandS.Zip
import HandS.Deep
import HandS.TupAny
import HandS.Wide
import HandS.SortInts
import HandS.DictTup
import HandS.Conv
import HandS.Flow
import HandS.Style
import KE.KStateDown
import Lean
import HandS.EndBits
import HandS.Head0
import HandS.Head1
import HandS.Head2
import HandS.HeadEnd
import HandS.HeadHook1
import HandS.HeadHook2
import PySem.Challenge.RW_rollgates_k61_whole_who_loses
set_option Elab.async false
set_option linter.all false
set_option maxRecDepth 100000
set_option maxHeartbeats 4000000
/-! Mini 1: plain data, the heap of what changes, how they stand for the layer's values and heap. -/
namespace Mini
open PySem PySem.Spec PyProof.Rows L2

inductive D where
  | non | bl (b : Bool) | int (i : Int) | str (x : Str) | tup (xs : List D) | lst (xs : List D) | ref (n : Nat)
  deriving Inhabited
/-- what changes, by its place -/
inductive DO where
  | lst (xs : List D) | dK (kvs : List (Key × D)) | dT (kvs : List (List Key × D)) | ins (c : Str) (fs : List (Str × D))
  deriving Inhabited
abbrev Hd : Type := List DO
structure Exn where
  cls : Str
  by_ : Option D := none
/-- what a slot holds: data; or a list, a dict that only this slot holds -/
inductive Sl where
  | val (d : D) | own (xs : List D) | ownK (kvs : List (Key × D)) | ownT (kvs : List (List Key × D))
  deriving Inhabited
abbrev Ev := List (Option Sl)

section
mutual
/-- a value stands for data: what it reads isn't among M, the places that change -/
inductive Rp (H : Hp) (ι M : List Addr) : D → V → Prop
  | non : Rp H ι M .non .non
  | bl (b : Bool) : Rp H ι M (.bl b) (.bl b)
  | int (i : Int) : Rp H ι M (.int i) (.int i)
  | str (x : Str) : Rp H ι M (.str x) (.str x)
  | tup {a : Addr} {vs : List V} {ds : List D} : Rd H a (.tup vs) → a ∉ M → Rps H ι M ds vs → Rp H ι M (.tup ds) (.ref a)
  | lst {a : Addr} {vs : List V} {ds : List D} : Rd H a (.lst vs) → a ∉ M → Rps H ι M ds vs → Rp H ι M (.lst ds) (.ref a)
  | ref {n : Nat} {a : Addr} : ι[n]? = some a → Rp H ι M (.ref n) (.ref a)
inductive Rps (H : Hp) (ι M : List Addr) : List D → List V → Prop
  | nil : Rps H ι M [] []
  | cons {d : D} {v : V} {ds : List D} {vs : List V} : Rp H ι M d v → Rps H ι M ds vs → Rps H ι M (d :: ds) (v :: vs)
end
end

/-- from one state of the heap to a later one: only what ι tells changes, what is new is new -/
structure Stp (H : Hp) (ι M : List Addr) (H' : Hp) (ι' M' : List Addr) : Prop where
  keep : ∀ a o, H a = some o → a ∉ ι → H' a = some o
  pre : ∃ ν, ι' = ι ++ ν ∧ ∀ b ∈ ν, H b = none
  grow : ∀ a ∈ M', a ∈ M ∨ H a = none
  sub : ∀ a ∈ M, a ∈ M'
  alive : ∀ a, H a ≠ none → H' a ≠ none
/-- the same where all of M may change: a body's statements -/
structure StpM (H : Hp) (ι M : List Addr) (H' : Hp) (ι' M' : List Addr) : Prop where
  keep : ∀ a o, H a = some o → a ∉ M → H' a = some o
  pre : ∃ ν, ι' = ι ++ ν ∧ ∀ b ∈ ν, H b = none
  grow : ∀ a ∈ M', a ∈ M ∨ H a = none
  sub : ∀ a ∈ M, a ∈ M'
  alive : ∀ a, H a ≠ none → H' a ≠ none

theorem rd_some {H : Hp} {a : Addr} {u : HO} (r : Rd H a u) : H a ≠ none := by
  rcases r with r | ⟨o, r⟩ <;> rw [r] <;> simp
section
variable {H H' H2 : Hp} {ι M ι' M' ι2 M2 : List Addr}
theorem Stp.refl : Stp H ι M H ι M := ⟨fun _ _ h _ => h, ⟨[], by simp, fun _ h => by simp at h⟩, fun _ h => .inl h, fun _ h => h, fun _ h => h⟩
theorem StpM.refl : StpM H ι M H ι M := ⟨fun _ _ h _ => h, ⟨[], by simp, fun _ h => by simp at h⟩, fun _ h => .inl h, fun _ h => h, fun _ h => h⟩
theorem none_back (al : ∀ a, H a ≠ none → H' a ≠ none) {b : Addr} (h : H' b = none) : H b = none := by
  cases q : H b with
  | none => rfl
  | some o => exact absurd h (al b (by rw [q]; simp))
theorem Stp.trans (s : Stp H ι M H' ι' M') (t : Stp H' ι' M' H2 ι2 M2) : Stp H ι M H2 ι2 M2 := by
  obtain ⟨ν, e1, n1⟩ := s.pre
  obtain ⟨ν2, e2, n2⟩ := t.pre
  refine ⟨fun a o h n => t.keep a o (s.keep a o h n) ?_, ⟨ν ++ ν2, by rw [e2, e1, List.append_assoc], ?_⟩, fun a h => ?_, fun a h => t.sub a (s.sub a h), fun a h => t.alive a (s.alive a h)⟩
  · rw [e1, List.mem_append]
    rintro (q | q)
    · exact n q
    · rw [n1 a q] at h; cases h
  · intro b hb
    rcases List.mem_append.mp hb with q | q
    · exact n1 b q
    · exact none_back s.alive (n2 b q)
  · rcases t.grow a h with q | q
    · exact s.grow a q
    · exact .inr (none_back s.alive q)
theorem StpM.trans (s : StpM H ι M H' ι' M') (t : StpM H' ι' M' H2 ι2 M2) : StpM H ι M H2 ι2 M2 := by
  obtain ⟨ν, e1, n1⟩ := s.pre
  obtain ⟨ν2, e2, n2⟩ := t.pre
  refine ⟨fun a o h n => t.keep a o (s.keep a o h n) ?_, ⟨ν ++ ν2, by rw [e2, e1, List.append_assoc], ?_⟩, fun a h => ?_, fun a h => t.sub a (s.sub a h), fun a h => t.alive a (s.alive a h)⟩
  · intro q
    rcases s.grow a q with q | q
    · exact n q
    · rw [q] at h; cases h
  · intro b hb
    rcases List.mem_append.mp hb with q | q
    · exact n1 b q
    · exact none_back s.alive (n2 b q)
  · rcases t.grow a h with q | q
    · exact s.grow a q
    · exact .inr (none_back s.alive q)
theorem Stp.m (s : Stp H ι M H' ι' M') (h : ∀ a ∈ ι, a ∈ M) : StpM H ι M H' ι' M' :=
  ⟨fun a o e n => s.keep a o e fun z => n (h a z), s.pre, s.grow, s.sub, s.alive⟩

/-- what stands for data stands for it later -/
theorem rd_later {a : Addr} {u : HO} (k : ∀ a o, H a = some o → a ∉ M → H' a = some o) (r : Rd H a u) (n : a ∉ M) : Rd H' a u := by
  rcases r with r | ⟨o, r⟩
  · exact .inl (k _ _ r n)
  · exact .inr ⟨o, k _ _ r n⟩
mutual
theorem Rp.later (s : StpM H ι M H' ι' M') : ∀ (d : D) (v : V), Rp H ι M d v → Rp H' ι' M' d v
  | .non, _, h => by cases h; exact .non
  | .bl _, _, h => by cases h; exact .bl _
  | .int _, _, h => by cases h; exact .int _
  | .str _, _, h => by cases h; exact .str _
  | .tup ds, _, h => by
    cases h with
    | tup r n q =>
      refine .tup (rd_later s.keep r n) (fun z => ?_) (Rps.later s ds _ q)
      rcases s.grow _ z with z | z
      · exact n z
      · exact rd_some r z
  | .lst ds, _, h => by
    cases h with
    | lst r n q =>
      refine .lst (rd_later s.keep r n) (fun z => ?_) (Rps.later s ds _ q)
      rcases s.grow _ z with z | z
      · exact n z
      · exact rd_some r z
  | .ref n, _, h => by
    cases h with
    | ref e =>
      obtain ⟨ν, q, _⟩ := s.pre
      refine .ref ?_
      rw [q, List.getElem?_append_left (List.getElem?_eq_some_iff.mp e).1]
      exact e
theorem Rps.later (s : StpM H ι M H' ι' M') : ∀ (ds : List D) (vs : List V), Rps H ι M ds vs → Rps H' ι' M' ds vs
  | [], _, h => by cases h; exact .nil
  | d :: ds, _, h => by
    cases h with
    | cons a b => exact .cons (Rp.later s d _ a) (Rps.later s ds _ b)
end
end

/-! ### lists of data -/
section
variable {H : Hp} {ι M : List Addr}
theorem Rps.length : ∀ {ds : List D} {vs : List V}, Rps H ι M ds vs → ds.length = vs.length
  | [], _, h => by cases h; rfl
  | _ :: _, _, h => by
    cases h with
    | cons a b => simp [Rps.length b]
theorem Rps.get : ∀ {ds : List D} {vs : List V} {i : Nat} {d : D}, Rps H ι M ds vs → ds[i]? = some d → ∃ v, vs[i]? = some v ∧ Rp H ι M d v
  | [], _, _, _, _, e => by simp at e
  | _ :: _, _, i, _, h, e => by
    cases h with
    | cons a b =>
      cases i with
      | zero => simp at e; subst e; exact ⟨_, rfl, a⟩
      | succ i => simp at e; obtain ⟨v, q, r⟩ := Rps.get b e; exact ⟨v, by simpa using q, r⟩
theorem Rps.getV : ∀ {ds : List D} {vs : List V} {i : Nat} {v : V}, Rps H ι M ds vs → vs[i]? = some v → ∃ d, ds[i]? = some d ∧ Rp H ι M d v
  | [], _, _, _, h, e => by cases h; simp at e
  | _ :: _, _, i, _, h, e => by
    cases h with
    | cons a b =>
      cases i with
      | zero => simp at e; subst e; exact ⟨_, rfl, a⟩
      | succ i => simp at e; obtain ⟨v, q, r⟩ := Rps.getV b e; exact ⟨v, by simpa using q, r⟩
theorem Rps.append : ∀ {ds es : List D} {vs us : List V}, Rps H ι M ds vs → Rps H ι M es us → Rps H ι M (ds ++ es) (vs ++ us)
  | [], _, _, _, h, k => by cases h; exact k
  | _ :: _, _, _, _, h, k => by
    cases h with
    | cons a b => exact .cons a (Rps.append b k)
theorem Rps.take : ∀ {ds : List D} {vs : List V} (n : Nat), Rps H ι M ds vs → Rps H ι M (ds.take n) (vs.take n)
  | _, _, 0, _ => by simp; exact .nil
  | [], _, _ + 1, h => by cases h; exact .nil
  | _ :: _, _, n + 1, h => by
    cases h with
    | cons a b => exact .cons a (Rps.take n b)
theorem Rps.drop : ∀ {ds : List D} {vs : List V} (n : Nat), Rps H ι M ds vs → Rps H ι M (ds.drop n) (vs.drop n)
  | _, _, 0, h => by simpa using h
  | [], _, _ + 1, h => by cases h; exact .nil
  | _ :: _, _, n + 1, h => by
    cases h with
    | cons a b => simpa using Rps.drop n b
theorem Rps.set {d : D} {v : V} (r : Rp H ι M d v) : ∀ {ds : List D} {vs : List V} (n : Nat), Rps H ι M ds vs → Rps H ι M (ds.set n d) (vs.set n v)
  | [], _, _, h => by cases h; exact .nil
  | _ :: _, _, 0, h => by
    cases h with
    | cons a b => exact .cons r b
  | _ :: _, _, n + 1, h => by
    cases h with
    | cons a b => exact .cons a (Rps.set r n b)
theorem Rps.snoc {ds : List D} {vs : List V} {d : D} {v : V} (h : Rps H ι M ds vs) (r : Rp H ι M d v) : Rps H ι M (ds ++ [d]) (vs ++ [v]) := h.append (.cons r .nil)
end

/-! ### what changes, the slots, the whole -/
/-- pairs of a dict -/
def RK (H : Hp) (ι M : List Addr) (κ : Type) (kvs : List (κ × D)) (kws : List (κ × V)) : Prop := kvs.map (·.1) = kws.map (·.1) ∧ Rps H ι M (kvs.map (·.2)) (kws.map (·.2))
/-- an object of the heap of what changes; cA: where a class stands -/
def RO (cA : Str → Addr) (H : Hp) (ι M : List Addr) (a : Addr) : DO → Prop
  | .lst ds => ∃ vs, H a = some (.lst vs) ∧ Rps H ι M ds vs
  | .dK kvs => ∃ kws, H a = some (.dK kws) ∧ RK H ι M Key kvs kws
  | .dT kvs => ∃ kws, H a = some (.dT kws) ∧ RK H ι M (List Key) kvs kws
  | .ins c fs => ∃ dx ws, H a = some (.ins (cA c) dx ws) ∧ RK H ι M Str fs ws
structure HR (cA : Str → Addr) (H : Hp) (ι M : List Addr) (h : Hd) : Prop where
  len : h.length = ι.length
  obj : ∀ (n : Nat) (o : DO) (a : Addr), h[n]? = some o → ι[n]? = some a → RO cA H ι M a o
  nd : ι.Nodup
  sub : ∀ a ∈ ι, a ∈ M
  al : ∀ a ∈ M, H a ≠ none
def SR (H : Hp) (ι M : List Addr) : Sl → V → Prop
  | .val d, v => Rp H ι M d v
  | .own ds, v => ∃ a vs, v = .ref a ∧ a ∈ M ∧ a ∉ ι ∧ H a = some (.lst vs) ∧ Rps H ι M ds vs
  | .ownK kvs, v => ∃ a kws, v = .ref a ∧ a ∈ M ∧ a ∉ ι ∧ H a = some (.dK kws) ∧ RK H ι M Key kvs kws
  | .ownT kvs, v => ∃ a kws, v = .ref a ∧ a ∈ M ∧ a ∉ ι ∧ H a = some (.dT kws) ∧ RK H ι M (List Key) kvs kws
def Sl.isOwn : Sl → Bool
  | .val _ => false
  | _ => true
structure ER (H : Hp) (ι M : List Addr) (ρ : Ev) (σ : L2.St) : Prop where
  len : ρ.length = σ.length
  sl : ∀ (i : Nat) (s : Sl), ρ[i]? = some (some s) → ∃ v, σ[i]? = some (some v) ∧ SR H ι M s v
  apart : ∀ (i j : Nat) (s t : Sl) (a : Addr), i ≠ j → ρ[i]? = some (some s) → ρ[j]? = some (some t) → s.isOwn = true → t.isOwn = true → σ[i]? = some (some (V.ref a)) → σ[j]? = some (some (V.ref a)) → False
/-- the state of a body -/
structure Rel (cA : Str → Addr) (H : Hp) (ι M : List Addr) (ρ : Ev) (h : Hd) (σ : L2.St) : Prop where
  hr : HR cA H ι M h
  er : ER H ι M ρ σ

section
variable {cA : Str → Addr} {H H' : Hp} {ι M ι' M' : List Addr} {h : Hd} {ρ : Ev} {σ : L2.St}
theorem RK.later {κ : Type} {kvs : List (κ × D)} {kws : List (κ × V)} (s : StpM H ι M H' ι' M') (r : RK H ι M κ kvs kws) : RK H' ι' M' κ kvs kws := ⟨r.1, Rps.later s _ _ r.2⟩
theorem SR.later (s : Stp H ι M H' ι' M') (hs : ∀ a ∈ ι, a ∈ M) {x : Sl} {v : V} (r : SR H ι M x v) : SR H' ι' M' x v := by
  have sm := s.m hs
  have ni : ∀ a o, H a = some o → a ∉ ι → a ∉ ι' := fun a o e n z => by
    obtain ⟨ν, q, nn⟩ := s.pre
    rw [q, List.mem_append] at z
    rcases z with z | z
    · exact n z
    · rw [nn a z] at e; cases e
  cases x with
  | val d => exact Rp.later sm d v r
  | own ds =>
    obtain ⟨a, vs, e, m, n, hh, q⟩ := r
    exact ⟨a, vs, e, s.sub a m, ni a _ hh n, s.keep a _ hh n, Rps.later sm _ _ q⟩
  | ownK ds =>
    obtain ⟨a, vs, e, m, n, hh, q⟩ := r
    exact ⟨a, vs, e, s.sub a m, ni a _ hh n, s.keep a _ hh n, q.later sm⟩
  | ownT ds =>
    obtain ⟨a, vs, e, m, n, hh, q⟩ := r
    exact ⟨a, vs, e, s.sub a m, ni a _ hh n, s.keep a _ hh n, q.later sm⟩
theorem ER.later (s : Stp H ι M H' ι' M') (hs : ∀ a ∈ ι, a ∈ M) (e : ER H ι M ρ σ) : ER H' ι' M' ρ σ :=
  ⟨e.len, fun i x q => by obtain ⟨v, a, b⟩ := e.sl i x q; exact ⟨v, a, b.later s hs⟩, e.apart⟩
theorem ER.get (e : ER H ι M ρ σ) {i : Nat} {d : D} (q : ρ[i]? = some (some (.val d))) : ∃ v, σ[i]? = some (some v) ∧ Rp H ι M d v := e.sl i _ q
end

/-! ### a new object -/
section
variable {cA : Str → Addr} {H : Hp} {ι M : List Addr} {h : Hd} {p : Addr} {o : HO}
theorem Stp.new (hp : H p = none) : Stp H ι M (upd H p o) ι M where
  keep := fun a u e _ => by rw [upd_ne (ne_of_none e hp)]; exact e
  pre := ⟨[], by simp, fun _ z => by simp at z⟩
  grow := fun _ z => .inl z
  sub := fun _ z => z
  alive := fun a z => by
    by_cases q : a = p
    · subst q; rw [upd_same]; simp
    · rw [upd_ne q]; exact z
/-- .. that this frame alone holds -/
theorem Stp.newM (hp : H p = none) : Stp H ι M (upd H p o) ι (p :: M) where
  keep := (Stp.new (ι := ι) (M := M) (o := o) hp).keep
  pre := ⟨[], by simp, fun _ z => by simp at z⟩
  grow := fun a z => by
    rcases List.mem_cons.mp z with z | z
    · exact .inr (z ▸ hp)
    · exact .inl z
  sub := fun _ z => List.mem_cons_of_mem _ z
  alive := (Stp.new (ι := ι) (M := M) (o := o) hp).alive
/-- .. that all may change -/
theorem Stp.newI (hp : H p = none) : Stp H ι M (upd H p o) (ι ++ [p]) (p :: M) where
  keep := (Stp.new (ι := ι) (M := M) (o := o) hp).keep
  pre := ⟨[p], rfl, fun b z => by simp at z; subst z; exact hp⟩
  grow := (Stp.newM (ι := ι) (M := M) (o := o) hp).grow
  sub := fun _ z => List.mem_cons_of_mem _ z
  alive := (Stp.new (ι := ι) (M := M) (o := o) hp).alive
theorem RO.later {H' : Hp} {ι' M' : List Addr} {a : Addr} {x : DO} (s : StpM H ι M H' ι' M') (e : H' a = H a) (r : RO cA H ι M a x) : RO cA H' ι' M' a x := by
  cases x with
  | lst ds => obtain ⟨vs, q, r⟩ := r; exact ⟨vs, e.trans q, Rps.later s _ _ r⟩
  | dK ds => obtain ⟨vs, q, r⟩ := r; exact ⟨vs, e.trans q, r.later s⟩
  | dT ds => obtain ⟨vs, q, r⟩ := r; exact ⟨vs, e.trans q, r.later s⟩
  | ins c ds => obtain ⟨dx, vs, q, r⟩ := r; exact ⟨dx, vs, e.trans q, r.later s⟩
/-- the heap of what changes, where none of it has changed -/
theorem HR.later {H' : Hp} {M' : List Addr} (r : HR cA H ι M h) (s : Stp H ι M H' ι M') (e : ∀ a ∈ ι, H' a = H a) (al : ∀ a ∈ M', H' a ≠ none) : HR cA H' ι M' h :=
  ⟨r.len, fun n x a q1 q2 => (r.obj n x a q1 q2).later (s.m r.sub) (e a (List.mem_of_getElem? q2)), r.nd, fun a z => s.sub a (r.sub a z), al⟩
theorem HR.new (r : HR cA H ι M h) (hp : H p = none) : HR cA (upd H p o) ι M h :=
  r.later (Stp.new hp) (fun a z => upd_ne fun q => r.al a (r.sub a z) (q ▸ hp)) fun a z => (Stp.new (ι := ι) (M := M) (o := o) hp).alive a (r.al a z)
theorem HR.newM (r : HR cA H ι M h) (hp : H p = none) : HR cA (upd H p o) ι (p :: M) h :=
  r.later (Stp.newM hp) (fun a z => upd_ne fun q => r.al a (r.sub a z) (q ▸ hp)) fun a z => by
    rcases List.mem_cons.mp z with z | z
    · subst z; rw [upd_same]; simp
    · exact (Stp.new (ι := ι) (M := M) (o := o) hp).alive a (r.al a z)
theorem HR.newI {x : DO} (r : HR cA H ι M h) (hp : H p = none) (hx : RO cA (upd H p o) (ι ++ [p]) (p :: M) p x) : HR cA (upd H p o) (ι ++ [p]) (p :: M) (h ++ [x]) := by
  have st := Stp.newI (ι := ι) (M := M) (o := o) hp
  have np : ∀ a ∈ ι, a ≠ p := fun a z q => r.al a (r.sub a z) (q ▸ hp)
  refine ⟨by simp [r.len], fun n y a q1 q2 => ?_, ?_, fun a z => ?_, fun a z => ?_⟩
  · by_cases hn : n < h.length
    · rw [List.getElem?_append_left hn] at q1
      rw [List.getElem?_append_left (r.len ▸ hn)] at q2
      exact (r.obj n y a q1 q2).later (st.m r.sub) (upd_ne (np a (List.mem_of_getElem? q2)))
    · rw [List.getElem?_append_right (by omega)] at q1
      rw [List.getElem?_append_right (by rw [← r.len]; omega)] at q2
      have e : n - h.length = 0 := by
        have := (List.getElem?_eq_some_iff.mp q1).1
        simp at this; omega
      rw [e] at q1
      rw [← r.len, e] at q2
      simp at q1 q2
      subst q1 q2
      exact hx
  · rw [List.nodup_append]
    refine ⟨r.nd, by simp, fun a z b q => ?_⟩
    simp at q; subst q
    exact np a z
  · rcases List.mem_append.mp z with z | z
    · exact List.mem_cons_of_mem _ (r.sub a z)
    · simp at z; subst z; exact List.mem_cons_self
  · rcases List.mem_cons.mp z with z | z
    · subst z; rw [upd_same]; simp
    · exact st.alive a (r.al a z)
end
end Mini

/-! Mini 2: the small language and what its terms are worth. -/
namespace Mini
open PySem PySem.Spec L2

/-! ### data: equality, depth, what holds no place -/
mutual
def D.eqv : D → D → Bool
  | .non, .non => true
  | .bl a, .bl b => a == b
  | .bl a, .int j => (if a then 1 else 0) == j
  | .int i, .bl b => i == (if b then 1 else 0)
  | .int i, .int j => i == j
  | .str x, .str y => x == y
  | .lst xs, .lst ys => D.eqvs xs ys
  | .tup xs, .tup ys => D.eqvs xs ys
  | _, _ => false
def D.eqvs : List D → List D → Bool
  | [], [] => true
  | x :: xs, y :: ys => D.eqv x y && D.eqvs xs ys
  | _, _ => false
end
mutual
/-- no place, texts as the library has them -/
def D.nr : D → Bool
  | .str x => PyData.strOk x
  | .tup xs => D.nrs xs
  | .lst xs => D.nrs xs
  | .ref _ => false
  | _ => true
def D.nrs : List D → Bool
  | [] => true
  | x :: xs => D.nr x && D.nrs xs
end
mutual
def D.dp : D → Nat
  | .tup xs => D.dps xs + 1
  | .lst xs => D.dps xs + 1
  | _ => 0
def D.dps : List D → Nat
  | [] => 0
  | x :: xs => max (D.dp x) (D.dps xs)
end
def D.okEq (a b : D) : Bool := D.nr a && (D.nr b && decide (min (D.dp a) (D.dp b) ≤ 60))
def D.truth : D → Option Bool
  | .bl b => some b
  | _ => none

/-! ### what an evaluation comes to -/
inductive Out (α : Type) where
  | ok (a : α) (h : Hd) | exc (x : Exn) (h : Hd) | bad
def Out.bind {α β : Type} (x : Out α) (f : α → Hd → Out β) : Out β := match x with
  | .ok a h => f a h
  | .exc e h => .exc e h
  | .bad => .bad
def Out.of {α : Type} (x : Option α) (h : Hd) : Out α := match x with
  | some a => .ok a h
  | none => .bad
def Out.nox {α : Type} : Out α → Out α
  | .exc _ _ => .bad
  | x => x
inductive SO where
  | nx (ρ : Ev) (h : Hd) | rt (d : D) (h : Hd) | exc (x : Exn) (h : Hd) | bad
def SO.of {α : Type} (x : Out α) (f : α → Hd → SO) : SO := match x with
  | .ok a h => f a h
  | .exc e h => .exc e h
  | .bad => .bad
def SO.seq (x : SO) (f : Ev → Hd → SO) : SO := match x with
  | .nx ρ h => f ρ h
  | o => o

/-! ### the terms -/
inductive Ck where
  | non | bl (b : Bool) | int (i : Int) | str (x : Str)
def Ck.d : Ck → D
  | .non => .non
  | .bl b => .bl b
  | .int i => .int i
  | .str x => .str x
inductive Tg where
  | nm (i : Nat) | tp (l : List Tg)
/-- built-in functions -/
inductive Bi where
  | len | all | any | sum | list | tuple | sorted | min | max | int | divmod
  deriving DecidableEq
inductive Ty where
  | int | bool | str | tuple | list
  deriving DecidableEq
mutual
inductive IR where
  | var (i : Nat) | own (i : Nat) | k (c : Ck) | glob (x : Str) (c : Ck)
  | bin (op : Operator) (a b : IR) | neg (a : IR) | not (a : IR) | boo (op : PySem.BoolOp) (l : IRs)
  | cmp (op : CmpOp) (a b : IR) | chain (op op' : CmpOp) (a b c : IR) | ife (c a b : IR)
  | tup (l : IRs) | lst (l : IRs) | lstM (l : IRs)
  | call (g : Nat) (l : IRs) | bi (f : Bi) (l : IRs) | isi (t : Ty) (a : IR)
  | ix (a i : IR) | sl (a : IR) (lo hi : IO)
  | comp (own : List (Str × Nat)) (tg : Tg) (it : IT) (c : IO) (e : IR)
  | lrng (a : IR)
inductive IRs where
  | nil | cons (a : IR) (l : IRs)
inductive IO where
  | no | yes (a : IR)
inductive IT where
  | seq (a : IR) | rng1 (a : IR) | rng2 (a b : IR) | zip (a b : IR) | enm (a : IR) | rng3 (a b c : IR)
end
inductive Mk where
  | disp (l : IRs) | cat (a b : IR) | list (a : IR) | comp (e : IR)
mutual
inductive IS where
  | set (i : Nat) (e : IR) | setO (i : Nat) (l : IRs) | unp (tg : Tg) (e : IR) | par2 (i j : Nat) (a b : IR) | par3 (i j k : Nat) (a b c : IR) | par3O (i j k : Nat) (b c : IR)
  | six (a i e : IR) | app (i : Nat) (e : IR) | expr (e : IR)
  | ife (c : IR) (a b : ISs) | forr (tg : Tg) (it : IT) (b : ISs) | ret (e : IR) | retN | retO (i : Nat) | rais (c : Str) | pass
inductive ISs where
  | nil | cons (a : IS) (l : ISs)
end

/-! ### operators over data -/
def binD : Operator → D → D → Option D
  | .Add, .int i, .int j => some (.int (i + j))
  | .Sub, .int i, .int j => some (.int (i - j))
  | .Mult, .int i, .int j => if decide (i.natAbs.log2 + j.natAbs.log2 < 134000000) then some (.int (i * j)) else none
  | .FloorDiv, .int i, .int j => if decide (0 < j) && decide (j.natAbs.log2 < 9000) then some (.int (i / j)) else none
  | .Mod, .int i, .int j => if decide (0 < j) then some (.int (i % j)) else none
  | .Pow, .int i, .int j => if decide (0 ≤ j) && (decide (j ≤ 1000000) && decide (i.natAbs < 2 ^ 64)) then some (.int (i ^ j.toNat)) else none
  | .Add, .tup xs, .tup ys => if decide (xs.length + ys.length ≤ 1000000) then some (.tup (xs ++ ys)) else none
  | .Add, .lst xs, .lst ys => if decide (xs.length + ys.length ≤ 1000000) then some (.lst (xs ++ ys)) else none
  | _, _, _ => none
def inD (x : D) (xs : List D) : Bool := xs.any fun z => D.eqv z x
def cmpD : CmpOp → D → D → Option Bool
  | .Eq, a, b => if D.okEq a b then some (D.eqv a b) else none
  | .NotEq, a, b => if D.okEq a b then some (!D.eqv a b) else none
  | .Lt, .int i, .int j => some (decide (i < j))
  | .LtE, .int i, .int j => some (decide (i ≤ j))
  | .Gt, .int i, .int j => some (decide (j < i))
  | .GtE, .int i, .int j => some (decide (j ≤ i))
  | .In, x, .lst xs => if D.nr x && (D.nrs xs && decide (min (D.dps xs) (D.dp x) ≤ 60)) then some (inD x xs) else none
  | .NotIn, x, .lst xs => if D.nr x && (D.nrs xs && decide (min (D.dps xs) (D.dp x) ≤ 60)) then some (!inD x xs) else none
  | .In, x, .tup xs => if D.nr x && (D.nrs xs && (decide (D.dp x = 0) && decide (D.dps xs = 0))) then some (inD x xs) else none
  | .NotIn, x, .tup xs => if D.nr x && (D.nrs xs && (decide (D.dp x = 0) && decide (D.dps xs = 0))) then some (!inD x xs) else none
  | .Is, x, .non => some (match x with | .non => true | _ => false)
  | .IsNot, x, .non => some (match x with | .non => false | _ => true)
  | _, _, _ => none
def isiD : Ty → D → Option Bool
  | _, .ref _ => none
  | .int, .int _ => some true
  | .int, .bl _ => some true
  | .bool, .bl _ => some true
  | .str, .str _ => some true
  | .tuple, .tup _ => some true
  | .list, .lst _ => some true
  | _, _ => some false
def seqD (h : Hd) : D → Option (List D)
  | .lst xs => some xs
  | .tup xs => some xs
  | .ref n => (match h[n]? with
    | some (.lst xs) => some xs
    | _ => none)
  | _ => none
def ixD (h : Hd) (a : D) : D → Option D
  | .int i => (match seqD h a with
    | some xs => (match L2.ixN xs.length i with
      | some k => xs[k]?
      | none => none)
    | none => none)
  | _ => none
def blsD : List D → Option (List Bool)
  | [] => some []
  | .bl b :: r => (blsD r).map (b :: ·)
  | _ => none
def intsD : List D → Option (List Int)
  | [] => some []
  | .int b :: r => (intsD r).map (b :: ·)
  | _ => none
/-- rising, equal ones in their order -/
def insI (x : Int) : List Int → List Int
  | [] => [x]
  | y :: r => if x ≤ y then x :: y :: r else y :: insI x r
def sortI (xs : List Int) : List Int := xs.foldr insI []
def biD (h : Hd) : Bi → List D → Option D
  | .len, [a] => (seqD h a).map fun xs => .int xs.length
  | .all, [.lst xs] => (blsD xs).map fun bs => .bl (bs.all id)
  | .any, [.lst xs] => (blsD xs).map fun bs => .bl (bs.any id)
  | .sum, [.lst xs] => (intsD xs).map fun ns => .int ns.sum
  | .list, [.lst xs] => some (.lst xs)
  | .list, [.tup xs] => some (.lst xs)
  | .tuple, [.lst xs] => some (.tup xs)
  | .tuple, [.tup xs] => some (.tup xs)
  | .sorted, [.lst xs] => (intsD xs).map fun ns => .lst ((sortI ns).map .int)
  | .min, [.int i, .int j] => some (.int (if j < i then j else i))
  | .max, [.int i, .int j] => some (.int (if j > i then j else i))
  | .int, [.int i] => some (.int i)
  | .int, [.bl b] => some (.int (if b then 1 else 0))
  | .divmod, [.int i, .int j] => if decide (0 < j) && decide (j < 1073741824) then some (.tup [.int (i / j), .int (i % j)]) else none
  | .min, [.lst xs] => (intsD xs).bind fun ns => (sortI ns).head?.map .int
  | _, _ => none
def cutD (xs : List D) (lo hi : Option Int) : List D := (xs.drop (HT.sIx xs.length 0 lo)).take (HT.sIx xs.length xs.length hi - HT.sIx xs.length 0 lo)
def slD : D → Option Int → Option Int → Option D
  | .lst xs, lo, hi => some (.lst (cutD xs lo hi))
  | .tup xs, lo, hi => some (.tup (cutD xs lo hi))
  | _, _, _ => none
def rngD (lo : Int) (n : Nat) : List D := (List.range n).map fun k => .int (lo + (k : Nat))
/-- downwards -/
def rngU (lo : Int) (n : Nat) : List D := (List.range n).map fun k => .int (lo - (k : Nat))
def small (i : Int) : Bool := decide (-(2 ^ 62) ≤ i) && decide (i < 2 ^ 62)

/-! ### stores -/
mutual
def asg : Tg → D → Ev → Option Ev
  | .nm i, d, ρ => if decide (i < ρ.length) then some (ρ.set i (some (.val d))) else none
  | .tp l, .tup xs, ρ => asgs l xs ρ
  | .tp _, _, _ => none
def asgs : List Tg → List D → Ev → Option Ev
  | [], [], ρ => some ρ
  | t :: l, x :: xs, ρ => (asg t x ρ).bind fun ρ1 => asgs l xs ρ1
  | _, _, _ => none
end
def wipeE (ρ : Ev) : List Nat → Ev
  | [] => ρ
  | v :: vs => (wipeE ρ vs).set v none

/-! ### loops -/
def loopC (g : D → Hd → Out (Option D)) : List D → Hd → Out (List D)
  | [], h => .ok [] h
  | x :: r, h => (g x h).bind fun y h1 => (loopC g r h1).bind fun ys h2 => .ok (match y with | some y => y :: ys | none => ys) h2
def forL (g : D → Ev → Hd → SO) : List D → Ev → Hd → SO
  | [], ρ, h => .nx ρ h
  | x :: r, ρ, h => (g x ρ h).seq fun ρ1 h1 => forL g r ρ1 h1

/-- where a list that a slot holds alone may stand: it is only looked at -/
def vw (a : IR) (ρ : Ev) (h : Hd) (x : Out D) : Out D := match a with
  | .own i => (match ρ[i]? with
    | some (some (.own xs)) => .ok (.lst xs) h
    | _ => .bad)
  | _ => x
abbrev Orc := Nat → List D → Hd → Out D
mutual
def evE (C : Orc) : IR → Ev → Hd → Out D
  | .var i, ρ, h => (match ρ[i]? with
    | some (some (.val d)) => .ok d h
    | _ => .bad)
  | .own _, _, _ => .bad
  | .k c, _, h => .ok c.d h
  | .glob _ c, _, h => .ok c.d h
  | .bin op a b, ρ, h => (vw a ρ h (evE C a ρ h)).bind fun x h => (vw b ρ h (evE C b ρ h)).bind fun y h => Out.of (binD op x y) h
  | .neg a, ρ, h => (evE C a ρ h).bind fun x h => (match x with
    | .int i => .ok (.int (-i)) h
    | _ => .bad)
  | .not a, ρ, h => (evE C a ρ h).bind fun x h => Out.of (x.truth.map fun b => .bl !b) h
  | .boo op l, ρ, h => evB C op l ρ h
  | .cmp op a b, ρ, h => (vw a ρ h (evE C a ρ h)).bind fun x h => (vw b ρ h (evE C b ρ h)).bind fun y h => Out.of ((cmpD op x y).map .bl) h
  | .chain op op' a b c, ρ, h => (evE C a ρ h).bind fun x h => (evE C b ρ h).bind fun y h => (Out.of (cmpD op x y) h).bind fun r h =>
      if r then (evE C c ρ h).bind fun z h => Out.of ((cmpD op' y z).map .bl) h else .ok (.bl false) h
  | .ife c a b, ρ, h => (evE C c ρ h).bind fun x h => (Out.of x.truth h).bind fun r h => if r then evE C a ρ h else evE C b ρ h
  | .tup l, ρ, h => (evA C l ρ h).bind fun xs h => .ok (.tup xs) h
  | .lrng a, ρ, h => (evE C a ρ h).bind fun x h => (match x with
    | .int j => if decide (0 ≤ j) && decide (j ≤ 1000000) then .ok (.lst (rngD 0 j.toNat)) h else .bad
    | _ => .bad)
  | .lst l, ρ, h => (evA C l ρ h).bind fun xs h => .ok (.lst xs) h
  | .lstM l, ρ, h => (evA C l ρ h).bind fun xs h => .ok (.ref h.length) (h ++ [.lst xs])
  | .call g l, ρ, h => (evA C l ρ h).bind fun xs h => C g xs h
  | .bi f l, ρ, h => (evAV C l ρ h).bind fun xs h => Out.of (biD h f xs) h
  | .isi t a, ρ, h => (evE C a ρ h).bind fun x h => Out.of ((isiD t x).map .bl) h
  | .ix a i, ρ, h => (vw a ρ h (evE C a ρ h)).bind fun x h => (evE C i ρ h).bind fun y h => Out.of (ixD h x y) h
  | .sl a lo hi, ρ, h => (vw a ρ h (evE C a ρ h)).bind fun x h => (evO C lo ρ h).bind fun l h => (evO C hi ρ h).bind fun u h => Out.of (slD x l u) h
  | .comp own tg it c e, ρ, h => (evI C it ρ h).bind fun xs h => ((loopC (fun x h => (Out.of (asg tg x (wipeE ρ (own.map (·.2)))) h).bind fun ρ1 h =>
      (evC C c ρ1 h).bind fun b h => if b then (evE C e ρ1 h).bind fun y h => .ok (some y) h else .ok none h) xs h).bind fun ys h => if decide (ys.length ≤ 1000000) then .ok (.lst ys) h else .bad).nox
def evA (C : Orc) : IRs → Ev → Hd → Out (List D)
  | .nil, _, h => .ok [] h
  | .cons a l, ρ, h => (evE C a ρ h).bind fun x h => (evA C l ρ h).bind fun xs h => .ok (x :: xs) h
def evAV (C : Orc) : IRs → Ev → Hd → Out (List D)
  | .nil, _, h => .ok [] h
  | .cons a l, ρ, h => (vw a ρ h (evE C a ρ h)).bind fun x h => (evAV C l ρ h).bind fun xs h => .ok (x :: xs) h
def evB (C : Orc) (op : PySem.BoolOp) : IRs → Ev → Hd → Out D
  | .nil, _, _ => .bad
  | .cons a .nil, ρ, h => evE C a ρ h
  | .cons a (.cons b l), ρ, h => (evE C a ρ h).bind fun x h => (Out.of x.truth h).bind fun r h => (match op with
    | .And => if r then evB C op (.cons b l) ρ h else .ok (.bl false) h
    | .Or => if r then .ok (.bl true) h else evB C op (.cons b l) ρ h)
def evO (C : Orc) : IO → Ev → Hd → Out (Option Int)
  | .no, _, h => .ok none h
  | .yes a, ρ, h => (evE C a ρ h).bind fun x h => (match x with
    | .int i => .ok (some i) h
    | _ => .bad)
def evC (C : Orc) : IO → Ev → Hd → Out Bool
  | .no, _, h => .ok true h
  | .yes a, ρ, h => (evE C a ρ h).bind fun x h => Out.of x.truth h
def evI (C : Orc) : IT → Ev → Hd → Out (List D)
  | .seq a, ρ, h => (evE C a ρ h).bind fun x h => (match x with
    | .lst xs => .ok xs h
    | .tup xs => .ok xs h
    | _ => .bad)
  | .rng1 a, ρ, h => (evE C a ρ h).bind fun x h => (match x with
    | .int j => if small j then .ok (rngD 0 j.toNat) h else .bad
    | _ => .bad)
  | .rng2 a b, ρ, h => (evE C a ρ h).bind fun x h => (evE C b ρ h).bind fun y h => (match x, y with
    | .int i, .int j => if small i && small j then .ok (rngD i (j - i).toNat) h else .bad
    | _, _ => .bad)
  | .zip a b, ρ, h => (evE C a ρ h).bind fun x h => (evE C b ρ h).bind fun y h => (match x, y with
    | .lst xs, .lst ys => .ok ((xs.zip ys).map fun p => .tup [p.1, p.2]) h
    | .tup xs, .tup ys => .ok ((xs.zip ys).map fun p => .tup [p.1, p.2]) h
    | _, _ => .bad)
  | .enm a, ρ, h => (evE C a ρ h).bind fun x h => (match x with
    | .lst xs => .ok (xs.zipIdx.map fun p => .tup [.int p.2, p.1]) h
    | _ => .bad)
  | .rng3 a b c, ρ, h => (evE C a ρ h).bind fun x h => (evE C b ρ h).bind fun y h => (evE C c ρ h).bind fun z h => (match x, y, z with
    | .int i, .int j, .int k => if small i && (small j && decide (k = -1)) then .ok (rngU i (i - j).toNat) h else .bad
    | _, _, _ => .bad)
end
mutual
def evS (C : Orc) : IS → Ev → Hd → SO
  | .set i e, ρ, h => SO.of (evE C e ρ h) fun d h => if decide (i < ρ.length) then .nx (ρ.set i (some (.val d))) h else .bad
  | .setO i l, ρ, h => SO.of (evA C l ρ h) fun ds h => if decide (i < ρ.length) then .nx (ρ.set i (some (.own ds))) h else .bad
  | .unp tg e, ρ, h => SO.of (evE C e ρ h) fun d h => SO.of (Out.of (asg tg d ρ) h) fun ρ h => .nx ρ h
  | .par2 i j a b, ρ, h => SO.of (evE C a ρ h) fun x h => SO.of (evE C b ρ h) fun y h => if decide (i < ρ.length) && decide (j < ρ.length) then .nx ((ρ.set i (some (.val x))).set j (some (.val y))) h else .bad
  | .par3 i j k a b c, ρ, h => SO.of (evE C a ρ h) fun x h => SO.of (evE C b ρ h) fun y h => SO.of (evE C c ρ h) fun z h =>
      if decide (i < ρ.length) && (decide (j < ρ.length) && decide (k < ρ.length)) then .nx (((ρ.set i (some (.val x))).set j (some (.val y))).set k (some (.val z))) h else .bad
  | .par3O i j k b c, ρ, h => SO.of (evE C b ρ h) fun y h => SO.of (evE C c ρ h) fun z h =>
      if decide (i < ρ.length) && (decide (j < ρ.length) && decide (k < ρ.length)) then .nx (((ρ.set i (some (.own []))).set j (some (.val y))).set k (some (.val z))) h else .bad
  | .six a i e, ρ, h => SO.of (evE C e ρ h) fun v h => SO.of (evE C a ρ h) fun x h => SO.of (evE C i ρ h) fun y h => (match x, y with
    | .ref n, .int j => (match h[n]? with
      | some (.lst xs) => (match L2.ixN xs.length j with
        | some k => .nx ρ (h.set n (.lst (xs.set k v)))
        | none => .bad)
      | _ => .bad)
    | _, _ => .bad)
  | .app i e, ρ, h => (match ρ[i]? with
    | some (some (.own xs)) => SO.of (evE C e ρ h) fun v h => if decide (xs.length < 1000000) then .nx (ρ.set i (some (.own (xs ++ [v])))) h else .bad
    | _ => .bad)
  | .expr e, ρ, h => SO.of (evE C e ρ h) fun _ h => .nx ρ h
  | .ife c a b, ρ, h => SO.of (evE C c ρ h) fun x h => SO.of (Out.of x.truth h) fun r h => if r then evSs C a ρ h else evSs C b ρ h
  | .forr tg it b, ρ, h => SO.of (evI C it ρ h) fun xs h => forL (fun x ρ h => SO.of (Out.of (asg tg x ρ) h) fun ρ h => evSs C b ρ h) xs ρ h
  | .ret e, ρ, h => SO.of (evE C e ρ h) fun d h => .rt d h
  | .retN, _, h => .rt .non h
  | .retO i, ρ, h => (match ρ[i]? with
    | some (some (.own xs)) => .rt (.lst xs) h
    | _ => .bad)
  | .rais c, _, h => .exc ⟨c, none⟩ h
  | .pass, ρ, h => .nx ρ h
def evSs (C : Orc) : ISs → Ev → Hd → SO
  | .nil, ρ, h => .nx ρ h
  | .cons a l, ρ, h => (evS C a ρ h).seq fun ρ h => evSs C l ρ h
end

/-! ### defs -/
structure Df where
  n : Nat          -- how many parameters
  m : Nat          -- how many slots
  b : ISs
def start (m : Nat) (ds : List D) : Ev := ds.map (fun d => some (.val d)) ++ List.replicate (m - ds.length) none
def outOf : SO → Out D
  | .nx _ h => .ok .non h
  | .rt d h => .ok d h
  | .exc x h => .exc x h
  | .bad => .bad
def runD (C : Orc) (f : Df) (ds : List D) (h : Hd) : Out D := if decide (ds.length = f.n) then outOf (evSs C f.b (start f.m ds) h) else .bad
/-- calls at most n within one another -/
def call (T : Nat → Option Df) : Nat → Orc
  | 0, _, _, _ => .bad
  | n + 1, g, ds, h => (match T g with
    | some f => runD (call T n) f ds h
    | none => .bad)
end Mini

/-! Mini 3: the operators, by values. -/
namespace Mini
open PySem PySem.Spec L2

/-! ### data as the library has it -/
mutual
def D.pd : D → PyData
  | .non => .none
  | .bl b => .bool b
  | .int i => .int i
  | .str x => .str x
  | .tup xs => .tuple (D.pds xs)
  | .lst xs => .list (D.pds xs)
  | .ref _ => .none
def D.pds : List D → List PyData
  | [] => []
  | x :: xs => D.pd x :: D.pds xs
end
theorem pair_and {a b : Bool} (h : (a && b) = true) : a = true ∧ b = true := Bool.and_eq_true_iff.mp h
mutual
theorem D.pd_lay : ∀ d : D, d.nr = true → d.pd.canLay0 = true
  | .non, _ => rfl
  | .bl _, _ => rfl
  | .int _, _ => rfl
  | .str x, h => by simpa [D.pd, PyData.canLay0, D.nr] using h
  | .tup xs, h => by simpa [D.pd, PyData.canLay0] using D.pds_lay xs (by simpa [D.nr] using h)
  | .lst xs, h => by simpa [D.pd, PyData.canLay0] using D.pds_lay xs (by simpa [D.nr] using h)
  | .ref _, h => by simp [D.nr] at h
theorem D.pds_lay : ∀ ds : List D, D.nrs ds = true → PyData.canLayAll0 (D.pds ds) = true
  | [], _ => rfl
  | x :: xs, h => by
    obtain ⟨a, b⟩ := pair_and (show (D.nr x && D.nrs xs) = true by simpa [D.nrs] using h)
    simp [D.pds, PyData.canLayAll0, D.pd_lay x a, D.pds_lay xs b]
end
mutual
theorem D.pd_dp : ∀ d : D, d.pd.depth = d.dp
  | .non => rfl
  | .bl _ => rfl
  | .int _ => rfl
  | .str _ => rfl
  | .tup xs => by simp [D.pd, PyData.depth, D.dp, D.pds_dp xs]
  | .lst xs => by simp [D.pd, PyData.depth, D.dp, D.pds_dp xs]
  | .ref _ => rfl
theorem D.pds_dp : ∀ ds : List D, PyData.depthAll (D.pds ds) = D.dps ds
  | [] => rfl
  | x :: xs => by simp [D.pds, PyData.depthAll, D.dps, D.pd_dp x, D.pds_dp xs]
end
mutual
theorem D.pd_eqv : ∀ a b : D, a.nr = true → b.nr = true → PyData.eqv a.pd b.pd = D.eqv a b
  | .non, b, _, h => by cases b <;> simp [D.nr] at h <;> simp [D.pd, PyData.eqv, D.eqv]
  | .bl _, b, _, h => by cases b <;> simp [D.nr] at h <;> simp [D.pd, PyData.eqv, D.eqv]
  | .int _, b, _, h => by cases b <;> simp [D.nr] at h <;> simp [D.pd, PyData.eqv, D.eqv]
  | .str _, b, _, h => by cases b <;> simp [D.nr] at h <;> simp [D.pd, PyData.eqv, D.eqv]
  | .tup xs, b, g, h => by
    cases b with
    | tup ys => simpa [D.pd, PyData.eqv, D.eqv] using D.pds_eqv xs ys (by simpa [D.nr] using g) (by simpa [D.nr] using h)
    | ref _ => simp [D.nr] at h
    | _ => simp [D.pd, PyData.eqv, D.eqv]
  | .lst xs, b, g, h => by
    cases b with
    | lst ys => simpa [D.pd, PyData.eqv, D.eqv] using D.pds_eqv xs ys (by simpa [D.nr] using g) (by simpa [D.nr] using h)
    | ref _ => simp [D.nr] at h
    | _ => simp [D.pd, PyData.eqv, D.eqv]
  | .ref _, _, h, _ => by simp [D.nr] at h
theorem D.pds_eqv : ∀ a b : List D, D.nrs a = true → D.nrs b = true → PyData.eqvAll (D.pds a) (D.pds b) = D.eqvs a b
  | [], [], _, _ => by simp [D.pds, PyData.eqvAll, D.eqvs]
  | [], _ :: _, _, _ => by simp [D.pds, PyData.eqvAll, D.eqvs]
  | _ :: _, [], _, _ => by simp [D.pds, PyData.eqvAll, D.eqvs]
  | x :: xs, y :: ys, g, h => by
    obtain ⟨a, b⟩ := pair_and (show (D.nr x && D.nrs xs) = true by simpa [D.nrs] using g)
    obtain ⟨c, d⟩ := pair_and (show (D.nr y && D.nrs ys) = true by simpa [D.nrs] using h)
    simp [D.pds, PyData.eqvAll, D.eqvs, D.pd_eqv x y a c, D.pds_eqv xs ys b d]
end

/-! ### a value that may be a list which a slot holds alone -/
def RpV (H : Hp) (ι M : List Addr) (d : D) (v : V) : Prop := Rp H ι M d v ∨ SR H ι M (match d with | .lst ds => .own ds | d => .val d) v
theorem RpV.later {H H' : Hp} {ι M ι' M' : List Addr} {d : D} {v : V} (s : Stp H ι M H' ι' M') (hs : ∀ a ∈ ι, a ∈ M) (r : RpV H ι M d v) : RpV H' ι' M' d v := by
  rcases r with r | r
  · exact .inl (Rp.later (s.m hs) d v r)
  · exact .inr (r.later s hs)
section
variable {H : Hp} {ι M : List Addr} {K : PySem.W.Frag}
/-- a list that is looked at -/
theorem RpV.lst {ds : List D} {v : V} (r : RpV H ι M (.lst ds) v) : ∃ a vs, v = .ref a ∧ Rd H a (.lst vs) ∧ Rps H ι M ds vs := by
  rcases r with r | r
  · cases r with
    | lst r n q => exact ⟨_, _, rfl, r, q⟩
  · obtain ⟨a, vs, e, _, _, h, q⟩ := r
    exact ⟨a, vs, e, .inl h, q⟩
theorem RpV.of_ne {d : D} {v : V} (r : RpV H ι M d v) (h : ∀ ds, d ≠ .lst ds) : Rp H ι M d v := by
  rcases r with r | r
  · exact r
  · cases d with
    | lst ds => exact absurd rfl (h ds)
    | _ => exact r
theorem RpV.tup {ds : List D} {v : V} (r : RpV H ι M (.tup ds) v) : ∃ a vs, v = .ref a ∧ Rd H a (.tup vs) ∧ a ∉ M ∧ Rps H ι M ds vs := by
  have q := r.of_ne (fun _ z => D.noConfusion z)
  cases q with
  | tup h n q => exact ⟨_, _, rfl, h, n, q⟩
theorem RpV.int {i : Int} {v : V} (r : RpV H ι M (.int i) v) : v = .int i := by
  have q := r.of_ne (fun _ z => D.noConfusion z)
  cases q; rfl
theorem RpV.ref {n : Nat} {v : V} (r : RpV H ι M (.ref n) v) : ∃ a, v = .ref a ∧ ι[n]? = some a := by
  have q := r.of_ne (fun _ z => D.noConfusion z)
  cases q with
  | ref e => exact ⟨_, rfl, e⟩
mutual
theorem Rp.data : ∀ (d : D) (v : V), d.nr = true → Rp H ι M d v → Dp K H v d.pd
  | .non, _, _, h => by cases h; exact .non
  | .bl _, _, _, h => by cases h; exact .bl _
  | .int _, _, _, h => by cases h; exact .int _
  | .str _, _, _, h => by cases h; exact .str _
  | .tup ds, _, g, h => by
    cases h with
    | tup r n q => simpa [D.pd] using Dp.tup (.inl r) (Rps.data ds _ (by simpa [D.nr] using g) q)
  | .lst ds, _, g, h => by
    cases h with
    | lst r n q => simpa [D.pd] using Dp.lst (.inl r) (Rps.data ds _ (by simpa [D.nr] using g) q)
  | .ref _, _, g, _ => by simp [D.nr] at g
theorem Rps.data : ∀ (ds : List D) (vs : List V), D.nrs ds = true → Rps H ι M ds vs → DpAll K H vs (D.pds ds)
  | [], _, _, h => by cases h; exact .nil
  | d :: ds, _, g, h => by
    obtain ⟨a, b⟩ := pair_and (show (D.nr d && D.nrs ds) = true by simpa [D.nrs] using g)
    cases h with
    | cons p q => exact .cons (Rp.data d _ a p) (Rps.data ds _ b q)
end
theorem RpV.data {d : D} {v : V} (g : d.nr = true) (r : RpV H ι M d v) : Dp K H v d.pd := by
  cases d with
  | lst ds =>
    obtain ⟨a, vs, rfl, h, q⟩ := r.lst
    simpa [D.pd] using Dp.lst (.inl h) (Rps.data ds _ (by simpa [D.nr] using g) q)
  | _ => exact Rp.data _ _ g (r.of_ne (fun _ z => D.noConfusion z))
end

/-! ### what the state of the heap asks, by values -/
structure St0 (cA : Str → Addr) (H : Hp) (ι M : List Addr) (h : Hd) : Prop where
  hr : HR cA H ι M h
/-- the answer d, the heap of what changes as it was -/
def Gives (cA : Str → Addr) (H : Hp) (ι M : List Addr) (h : Hd) (d : D) (Q : VK) : Prop := ∀ v H', Stp H ι M H' ι M → HR cA H' ι M h → Rp H' ι M d v → Q v H'
section
variable {cA : Str → Addr} {H : Hp} {ι M : List Addr} {h : Hd} {d : D} {Q : VK}
theorem Gives.here (r : HR cA H ι M h) (q : Gives cA H ι M h d Q) {v : V} (p : Rp H ι M d v) : Q v H := q v H Stp.refl r p
theorem fresh_not {p : Addr} (r : HR cA H ι M h) (hp : H p = none) : p ∉ M := fun z => r.al p z hp
theorem Gives.tup (r : HR cA H ι M h) {ds : List D} {vs : List V} (q : Gives cA H ι M h (.tup ds) Q) (p : Rps H ι M ds vs) : ∀ a, H a = none → Q (.ref a) (upd H a (.tup vs)) := fun a ha =>
  q _ _ (Stp.new ha) (r.new ha) (.tup (.inl upd_same) (fresh_not r ha) (Rps.later ((Stp.new ha).m r.sub) _ _ p))
theorem Gives.lst (r : HR cA H ι M h) {ds : List D} {vs : List V} (q : Gives cA H ι M h (.lst ds) Q) (p : Rps H ι M ds vs) : ∀ a, H a = none → Q (.ref a) (upd H a (.lst vs)) := fun a ha =>
  q _ _ (Stp.new ha) (r.new ha) (.lst (.inl upd_same) (fresh_not r ha) (Rps.later ((Stp.new ha).m r.sub) _ _ p))
end

section
variable {X : Cx} {cA : Str → Addr}
theorem million : 1000000 ≤ sizeLine := by rw [sizeLine_eq]; decide
theorem mulBig {i j : Int} (h : i.natAbs.log2 + j.natAbs.log2 < 134000000) : IntMulOk i j := by
  have b : ∀ x : Int, Builtin.Int.intBits x ≤ x.natAbs.log2 + 1 := fun x => by
    unfold Builtin.Int.intBits
    split <;> omega
  have h1 := b i
  have h2 := b j
  have e : bitsLine = 134217728 := by decide
  unfold IntMulOk
  intro z
  rw [Bool.and_eq_true] at z
  have z2 := z.2
  unfold Builtin.Int.intTooBig at z2
  have z3 := of_decide_eq_true z2
  rw [e] at z3
  omega
theorem op_mulB : OpR X (binaryOp .Mult) (rI (fun i j => i.natAbs.log2 + j.natAbs.log2 < 134000000) fun i j => .int (i * j)) := opI fun _ _ _ _ _ _ _ hc q => PyProof.Rows.mul_int q (mulBig hc)
/-- list + list, also known ones -/
def rCatR : R2 := fun x y H Q => ∃ l b xs zs, x = .ref l ∧ y = .ref b ∧ Rd H l (.lst xs) ∧ Rd H b (.lst zs) ∧ xs.length + zs.length ≤ sizeLine ∧ ∀ p, H p = none → Q (.ref p) (upd H p (.lst (xs ++ zs)))
theorem lstR {pins : List (Addr × Obj)} {σ : L2.St} {H : Hp} {s : Shared} {l : Addr} {xs : List V} (I : Inv X pins σ H s) (hH : Rd H l (.lst xs)) : ∃ (its : List Value) (n : Nat), Vals xs its ∧ xs.length = its.length ∧ s.heap.get? l = some { cls := .type "list", data := .seq its.toArray n } := by
  obtain ⟨z, its, n, r, e⟩ := hH.ok I.hok
  exact ⟨its, n, r, r.length, e⟩
theorem op_catR : OpR X (binaryOp .Add) rCatR := by
  intro pins s σ H x y v u Q I rx ry h
  obtain ⟨l, b, xs, zs, rfl, rfl, hH, hB, hz, q⟩ := h
  cases rx
  cases ry
  obtain ⟨its, n, r, hl, e⟩ := lstR I hH
  obtain ⟨its2, n2, r2, hl2, e2⟩ := lstR I hB
  refine PySem.P.add_list e e2 ?_ (by rw [List.size_toArray, List.size_toArray]; omega)
  have ea : its.toArray ++ its2.toArray = (its ++ its2).toArray := by simp
  rw [ea]
  exact ⟨.ref _, _, I.lnew (t' := s.toks) (r.append r2) (by rw [List.length_append]; omega), rfl, q _ I.fresh⟩

/-- an operator over data, by values -/
def rD2 (cA : Str → Addr) (f : D → D → Option D) : R2 := fun x y H Q => ∃ ι M h a b d, HR cA H ι M h ∧ RpV H ι M a x ∧ RpV H ι M b y ∧ f a b = some d ∧ Gives cA H ι M h d Q
theorem OpR.imp {f : Value → Value → Sem Value} {r r' : R2} (o : OpR X f r) (h : ∀ x y H Q, r' x y H Q → r x y H Q) : OpR X f r' := fun pins s σ H x y v u Q I rx ry q => o pins s σ H x y v u Q I rx ry (h _ _ _ _ q)
/-- where the data have the form that a rule serves -/
theorem OpR.when {f : Value → Value → Sem Value} {r' : R2} (h : ∀ x y H Q, r' x y H Q → ∃ r, OpR X f r ∧ r x y H Q) : OpR X f r' := fun pins s σ H x y v u Q I rx ry q => by
  obtain ⟨r, o, z⟩ := h _ _ _ _ q
  exact o pins s σ H x y v u Q I rx ry z
theorem binR (op : Operator) : OpR X (binaryOp op) (rD2 cA (binD op)) := by
  refine OpR.when fun x y H Q z => ?_
  obtain ⟨ι, M, h, a, b, d, hr, ra, rb, e, q⟩ := z
  unfold binD at e
  split at e
  · cases e; cases ra.int; cases rb.int; exact ⟨_, op_add, _, _, rfl, rfl, q.here hr (.int _)⟩
  · cases e; cases ra.int; cases rb.int; exact ⟨_, op_sub, _, _, rfl, rfl, q.here hr (.int _)⟩
  · split at e
    · rename_i hc
      cases e; cases ra.int; cases rb.int; exact ⟨_, op_mulB, _, _, rfl, rfl, of_decide_eq_true hc, q.here hr (.int _)⟩
    · cases e
  · split at e
    · rename_i hc
      obtain ⟨h1, h2⟩ := pair_and hc
      cases e; cases ra.int; cases rb.int; exact ⟨_, op_fdivW, _, _, rfl, rfl, ⟨of_decide_eq_true h1, of_decide_eq_true h2⟩, q.here hr (.int _)⟩
    · cases e
  · split at e
    · rename_i hc
      cases e; cases ra.int; cases rb.int; exact ⟨_, op_mod, _, _, rfl, rfl, of_decide_eq_true hc, q.here hr (.int _)⟩
    · cases e
  · split at e
    · rename_i hc
      obtain ⟨h1, h2⟩ := pair_and hc
      obtain ⟨h2, h3⟩ := pair_and h2
      cases e; cases ra.int; cases rb.int; exact ⟨_, op_pow, _, _, rfl, rfl, ⟨of_decide_eq_true h1, of_decide_eq_true h2, of_decide_eq_true h3⟩, q.here hr (.int _)⟩
    · cases e
  · split at e
    · rename_i xs ys hc
      cases e
      obtain ⟨a, vs, rfl, h1, n1, p1⟩ := ra.tup
      obtain ⟨b, us, rfl, h2, n2, p2⟩ := rb.tup
      have l1 := p1.length
      have l2 := p2.length
      have hz := of_decide_eq_true hc
      have hm := million
      refine ⟨_, op_catA, a, b, vs, us, rfl, rfl, .inl h1, .inl h2, by omega, fun e => ?_, fun e1 e2 => ?_, fun _ _ => q.tup hr (p1.append p2)⟩
      · subst e
        cases p1
        exact q.here hr (.tup h2 n2 p2)
      · subst e2
        cases p2
        refine q.here hr (.tup h1 n1 ?_)
        rw [List.append_nil]
        exact p1
    · cases e
  · split at e
    · rename_i xs ys hc
      cases e
      obtain ⟨a, vs, rfl, h1, p1⟩ := ra.lst
      obtain ⟨b, us, rfl, h2, p2⟩ := rb.lst
      have l1 := p1.length
      have l2 := p2.length
      have hz := of_decide_eq_true hc
      have hm := million
      exact ⟨_, op_catR, a, b, vs, us, rfl, rfl, h1, h2, by omega, q.lst hr (p1.append p2)⟩
    · cases e
  · cases e

/-! ### comparisons -/
def rEqR (K : PySem.W.Frag) : R2 := fun x y H Q => ∃ d e, Dp K H x d ∧ Dp K H y e ∧ d.canLay0 = true ∧ e.canLay0 = true ∧ min d.depth e.depth ≤ 60 ∧ Q (.bl (PyData.eqv d e)) H
def rNeR (K : PySem.W.Frag) : R2 := fun x y H Q => ∃ d e, Dp K H x d ∧ Dp K H y e ∧ d.canLay0 = true ∧ e.canLay0 = true ∧ min d.depth e.depth ≤ 60 ∧ Q (.bl (!PyData.eqv d e)) H
theorem op_eqR (hu : X.A.units + 64 < cLine) : OpR X (compareOp .Eq) (rEqR X.K) := by
  intro pins s σ H x y v u Q I rx ry h
  obtain ⟨d, e, hd, he, sd, se, hm, q⟩ := h
  obtain ⟨as, r1⟩ := Dp.reads I d x v hd rx
  obtain ⟨bs, r2⟩ := Dp.reads I e y u he ry
  exact SeqAt.compareEq_reads r1 r2 sd se (by omega) ⟨.bl _, H, I, rfl, q⟩
theorem op_neR (hu : X.A.units + 64 < cLine) : OpR X (compareOp .NotEq) (rNeR X.K) := by
  intro pins s σ H x y v u Q I rx ry h
  obtain ⟨d, e, hd, he, sd, se, hm, q⟩ := h
  obtain ⟨as, r1⟩ := Dp.reads I d x v hd rx
  obtain ⟨bs, r2⟩ := Dp.reads I e y u he ry
  exact SeqAt.compareNe_reads r1 r2 sd se (by omega) ⟨.bl _, H, I, rfl, q⟩
def rInR (K : PySem.W.Frag) : R2 := fun x y H Q => ∃ d ds, Dp K H x d ∧ Dp K H y (.list ds) ∧ d.canLay0 = true ∧ PyData.canLayAll0 ds = true ∧ min (PyData.depthAll ds) d.depth ≤ 60 ∧ Q (.bl (ds.any fun z => PyData.eqv z d)) H
def rNinR (K : PySem.W.Frag) : R2 := fun x y H Q => ∃ d ds, Dp K H x d ∧ Dp K H y (.list ds) ∧ d.canLay0 = true ∧ PyData.canLayAll0 ds = true ∧ min (PyData.depthAll ds) d.depth ≤ 60 ∧ Q (.bl (!ds.any fun z => PyData.eqv z d)) H
theorem op_inR (hu : X.A.units + 64 < cLine) : OpR X (compareOp .In) (rInR X.K) := by
  intro pins s σ H x y v u Q I rx ry h
  obtain ⟨d, ds, hd, he, sd, se, hm, q⟩ := h
  obtain ⟨as, r1⟩ := Dp.reads I d x v hd rx
  obtain ⟨bs, r2⟩ := Dp.reads I (.list ds) y u he ry
  exact SeqAt.in_list_reads r2 r1 se sd (by omega) ⟨.bl _, H, I, rfl, q⟩
theorem op_ninR (hu : X.A.units + 64 < cLine) : OpR X (compareOp .NotIn) (rNinR X.K) := by
  intro pins s σ H x y v u Q I rx ry h
  obtain ⟨d, ds, hd, he, sd, se, hm, q⟩ := h
  obtain ⟨as, r1⟩ := Dp.reads I d x v hd rx
  obtain ⟨bs, r2⟩ := Dp.reads I (.list ds) y u he ry
  exact SeqAt.notIn_list_reads r2 r1 se sd (by omega) ⟨.bl _, H, I, rfl, q⟩
theorem any_pds {x : D} (hx : x.nr = true) : ∀ {xs : List D}, D.nrs xs = true → ((D.pds xs).any fun z => PyData.eqv z x.pd) = inD x xs
  | [], _ => rfl
  | y :: ys, h => by
    obtain ⟨a, b⟩ := pair_and (show (D.nr y && D.nrs ys) = true by simpa [D.nrs] using h)
    simp only [D.pds, List.any_cons, inD, D.pd_eqv y x a hx]
    rw [any_pds hx b]
    rfl
theorem flat_of {H : Hp} {ι M : List Addr} {d : D} {v : V} (r : Rp H ι M d v) (h1 : d.nr = true) (h2 : d.dp = 0) : flatV v = true := by
  cases r <;> first | rfl | (simp [D.dp] at h2; done) | (simp [D.nr] at h1; done)
theorem dps_zero {x : D} {xs : List D} (h : D.dps (x :: xs) = 0) : x.dp = 0 ∧ D.dps xs = 0 := by
  simp only [D.dps] at h
  omega
theorem eqV_flat {H : Hp} {ι M : List Addr} {a b : D} {v u : V} (ra : Rp H ι M a v) (rb : Rp H ι M b u) (h1 : a.nr = true) (h2 : a.dp = 0) (h3 : b.nr = true) (h4 : b.dp = 0) : eqV v u = D.eqv a b := by
  cases ra <;> cases rb <;> first | rfl | (simp [eqV, D.eqv]; done) | (simp [D.dp] at h2; done) | (simp [D.dp] at h4; done) | (simp [D.nr] at h1; done) | (simp [D.nr] at h3; done)
theorem flats_of {H : Hp} {ι M : List Addr} {x : D} {v : V} (rx : Rp H ι M x v) (h1 : x.nr = true) (h2 : x.dp = 0) : ∀ {xs : List D} {vs : List V}, Rps H ι M xs vs → D.nrs xs = true → D.dps xs = 0 → vs.all flatV = true ∧ inV v vs = inD x xs
  | [], _, r, _, _ => by cases r; exact ⟨rfl, rfl⟩
  | y :: ys, _, r, g, z => by
    obtain ⟨a, b⟩ := pair_and (show (D.nr y && D.nrs ys) = true by simpa [D.nrs] using g)
    obtain ⟨z1, z2⟩ := dps_zero z
    cases r with
    | cons p q =>
      obtain ⟨e1, e2⟩ := flats_of rx h1 h2 q b z2
      refine ⟨by simp [flat_of p a z1] ; simpa using e1, ?_⟩
      unfold inV inD at *
      rw [List.any_cons, List.any_cons, eqV_flat p rx a z1 h1 h2, e2]
def rCmp (cA : Str → Addr) (f : D → D → Option Bool) : R2 := fun x y H Q => ∃ ι M h a b r, HR cA H ι M h ∧ RpV H ι M a x ∧ RpV H ι M b y ∧ f a b = some r ∧ Q (.bl r) H
theorem cmpR (op : CmpOp) (hu : X.A.units + 64 < cLine) : OpR X (compareOp op) (rCmp cA (cmpD op)) := by
  refine OpR.when fun x y H Q z => ?_
  obtain ⟨ι, M, h, a, b, d, hr, ra, rb, e, q⟩ := z
  unfold cmpD at e
  split at e
  · split at e
    · rename_i hc
      cases e
      obtain ⟨h1, h2⟩ := pair_and hc
      obtain ⟨h2, h3⟩ := pair_and h2
      exact ⟨_, op_eqR hu, _, _, ra.data h1, rb.data h2, D.pd_lay _ h1, D.pd_lay _ h2, by rw [D.pd_dp, D.pd_dp]; exact of_decide_eq_true h3, by rw [D.pd_eqv _ _ h1 h2]; exact q⟩
    · cases e
  · split at e
    · rename_i hc
      cases e
      obtain ⟨h1, h2⟩ := pair_and hc
      obtain ⟨h2, h3⟩ := pair_and h2
      exact ⟨_, op_neR hu, _, _, ra.data h1, rb.data h2, D.pd_lay _ h1, D.pd_lay _ h2, by rw [D.pd_dp, D.pd_dp]; exact of_decide_eq_true h3, by rw [D.pd_eqv _ _ h1 h2]; exact q⟩
    · cases e
  · cases e; cases ra.int; cases rb.int; exact ⟨_, op_lt, _, _, rfl, rfl, q⟩
  · cases e; cases ra.int; cases rb.int; exact ⟨_, op_le, _, _, rfl, rfl, q⟩
  · cases e; cases ra.int; cases rb.int; exact ⟨_, op_gt, _, _, rfl, rfl, q⟩
  · cases e; cases ra.int; cases rb.int; exact ⟨_, op_ge, _, _, rfl, rfl, q⟩
  · split at e
    · rename_i hc
      cases e
      obtain ⟨h1, h2⟩ := pair_and hc
      obtain ⟨h2, h3⟩ := pair_and h2
      exact ⟨_, op_inR hu, _, _, ra.data h1, (by simpa [D.pd] using rb.data (K := X.K) (by simpa [D.nr] using h2)), D.pd_lay _ h1, D.pds_lay _ h2, by rw [D.pds_dp, D.pd_dp]; exact of_decide_eq_true h3, by rw [any_pds h1 h2]; exact q⟩
    · cases e
  · split at e
    · rename_i hc
      cases e
      obtain ⟨h1, h2⟩ := pair_and hc
      obtain ⟨h2, h3⟩ := pair_and h2
      exact ⟨_, op_ninR hu, _, _, ra.data h1, (by simpa [D.pd] using rb.data (K := X.K) (by simpa [D.nr] using h2)), D.pd_lay _ h1, D.pds_lay _ h2, by rw [D.pds_dp, D.pd_dp]; exact of_decide_eq_true h3, by rw [any_pds h1 h2]; exact q⟩
    · cases e
  · split at e
    · rename_i hc
      cases e
      obtain ⟨h1, h2⟩ := pair_and hc
      obtain ⟨h2, h3⟩ := pair_and h2
      obtain ⟨h3, h4⟩ := pair_and h3
      obtain ⟨b, us, rfl, hb, nb, pb⟩ := rb.tup
      have pa := ra.of_ne (fun ds z => by subst z; simp [D.dp] at h3)
      obtain ⟨f1, f2⟩ := flats_of pa h1 (of_decide_eq_true h3) pb h2 (of_decide_eq_true h4)
      exact ⟨_, op_in_seq, b, us, rfl, .inr (.inl hb), flat_of pa h1 (of_decide_eq_true h3), f1, by rw [f2]; exact q⟩
    · cases e
  · split at e
    · rename_i hc
      cases e
      obtain ⟨h1, h2⟩ := pair_and hc
      obtain ⟨h2, h3⟩ := pair_and h2
      obtain ⟨h3, h4⟩ := pair_and h3
      obtain ⟨b, us, rfl, hb, nb, pb⟩ := rb.tup
      have pa := ra.of_ne (fun ds z => by subst z; simp [D.dp] at h3)
      obtain ⟨f1, f2⟩ := flats_of pa h1 (of_decide_eq_true h3) pb h2 (of_decide_eq_true h4)
      exact ⟨_, op_notIn_seq, b, us, rfl, .inr (.inl hb), flat_of pa h1 (of_decide_eq_true h3), f1, by rw [f2]; exact q⟩
    · cases e
  · have eb := rb.of_ne (fun _ z => D.noConfusion z)
    cases eb
    cases e
    refine ⟨_, op_isN, rfl, ?_⟩
    cases a with
    | non => cases (ra.of_ne (fun _ z => D.noConfusion z)); simpa using q
    | lst ds =>
      obtain ⟨p, vs, rfl, _⟩ := ra.lst
      simpa using q
    | _ => cases (ra.of_ne (fun _ z => D.noConfusion z)) <;> simpa using q
  · have eb := rb.of_ne (fun _ z => D.noConfusion z)
    cases eb
    cases e
    refine ⟨_, op_notN, rfl, ?_⟩
    cases a with
    | non => cases (ra.of_ne (fun _ z => D.noConfusion z)); simpa using q
    | lst ds =>
      obtain ⟨p, vs, rfl, _⟩ := ra.lst
      simpa using q
    | _ => cases (ra.of_ne (fun _ z => D.noConfusion z)) <;> simpa using q
  · cases e
end
end Mini

/-! Mini 4: built-in functions, items, slices, isinstance, by values. -/
namespace Mini
open PySem PySem.Spec L2

def RpVs (H : Hp) (ι M : List Addr) : List D → List V → Prop
  | [], [] => True
  | d :: ds, v :: vs => RpV H ι M d v ∧ RpVs H ι M ds vs
  | _, _ => False
theorem RpVs.nil {H : Hp} {ι M : List Addr} {vs : List V} (r : RpVs H ι M [] vs) : vs = [] := by
  cases vs with
  | nil => rfl
  | cons _ _ => exact r.elim
theorem RpVs.cons {H : Hp} {ι M : List Addr} {d : D} {ds : List D} {vs : List V} (r : RpVs H ι M (d :: ds) vs) : ∃ v us, vs = v :: us ∧ RpV H ι M d v ∧ RpVs H ι M ds us := by
  cases vs with
  | nil => exact r.elim
  | cons v us => exact ⟨v, us, rfl, r.1, r.2⟩
theorem RpVs.one {H : Hp} {ι M : List Addr} {d : D} {vs : List V} (r : RpVs H ι M [d] vs) : ∃ v, vs = [v] ∧ RpV H ι M d v := by
  obtain ⟨v, us, rfl, p, q⟩ := r.cons
  rw [q.nil]
  exact ⟨v, rfl, p⟩
theorem RpVs.two {H : Hp} {ι M : List Addr} {d e : D} {vs : List V} (r : RpVs H ι M [d, e] vs) : ∃ v u, vs = [v, u] ∧ RpV H ι M d v ∧ RpV H ι M e u := by
  obtain ⟨v, us, rfl, p, q⟩ := r.cons
  obtain ⟨u, rfl, q2⟩ := q.one
  exact ⟨v, u, rfl, p, q2⟩

section
variable {cA : Str → Addr} {H : Hp} {ι M : List Addr} {h : Hd} {K : PySem.W.Frag}
theorem seq_of (hr : HR cA H ι M h) {a : D} {v : V} {xs : List D} (r : RpV H ι M a v) (e : seqD h a = some xs) : ∃ p vs, v = .ref p ∧ (SqL K H p vs ∨ SqT K H p vs) ∧ Rps H ι M xs vs := by
  cases a with
  | lst ds =>
    cases e
    obtain ⟨p, vs, e, r, q⟩ := r.lst
    exact ⟨p, vs, e, .inl (.inl r), q⟩
  | tup ds =>
    cases e
    obtain ⟨p, vs, e, r, _, q⟩ := r.tup
    exact ⟨p, vs, e, .inr (.inl r), q⟩
  | ref n =>
    obtain ⟨p, e2, hn⟩ := r.ref
    simp only [seqD] at e
    split at e
    · rename_i ys ho
      cases e
      obtain ⟨vs, q1, q2⟩ := hr.obj n _ p ho hn
      exact ⟨p, vs, e2, .inl (.inl (.inl q1)), q2⟩
    · cases e
  | _ => cases e
theorem bls_of : ∀ {xs : List D} {vs : List V} {bs : List Bool}, Rps H ι M xs vs → blsD xs = some bs → vs = bs.map V.bl
  | [], _, _, r, e => by cases r; cases e; rfl
  | x :: xs, _, bs, r, e => by
    cases r with
    | cons p q =>
      cases x with
      | bl b =>
        simp only [blsD] at e
        cases e2 : blsD xs with
        | none => rw [e2] at e; cases e
        | some cs =>
          rw [e2] at e
          cases e
          cases p
          rw [bls_of q e2]
          rfl
      | _ => cases e
theorem ints_of : ∀ {xs : List D} {vs : List V} {bs : List Int}, Rps H ι M xs vs → intsD xs = some bs → vs = bs.map V.int
  | [], _, _, r, e => by cases r; cases e; rfl
  | x :: xs, _, bs, r, e => by
    cases r with
    | cons p q =>
      cases x with
      | int b =>
        simp only [intsD] at e
        cases e2 : intsD xs with
        | none => rw [e2] at e; cases e
        | some cs =>
          rw [e2] at e
          cases e
          cases p
          rw [ints_of q e2]
          rfl
      | _ => cases e
theorem rps_ints : ∀ ns : List Int, Rps H ι M (ns.map D.int) (ns.map V.int)
  | [] => .nil
  | _ :: ns => .cons (.int _) (rps_ints ns)
end
/-! ### rising -/
theorem insI_perm (x : Int) : ∀ xs : List Int, (insI x xs).Perm (x :: xs)
  | [] => .refl _
  | y :: r => by
    unfold insI
    split
    · exact .refl _
    · exact ((insI_perm x r).cons y).trans (.swap x y r)
theorem sortI_perm : ∀ xs : List Int, (sortI xs).Perm xs
  | [] => .refl _
  | x :: r => (insI_perm x (sortI r)).trans ((sortI_perm r).cons x)
theorem insI_rise (x : Int) : ∀ {xs : List Int}, xs.Pairwise (· ≤ ·) → (insI x xs).Pairwise (· ≤ ·)
  | [], _ => by simp [insI]
  | y :: r, h => by
    obtain ⟨h1, h2⟩ := List.pairwise_cons.mp h
    unfold insI
    split
    · rename_i q
      refine List.pairwise_cons.mpr ⟨fun z hz => ?_, h⟩
      rcases List.mem_cons.mp hz with e | hz
      · rw [e]; exact q
      · exact Int.le_trans q (h1 z hz)
    · rename_i q
      refine List.pairwise_cons.mpr ⟨fun z hz => ?_, insI_rise x h2⟩
      rcases List.mem_cons.mp ((insI_perm x r).mem_iff.mp hz) with e | hz
      · rw [e]; omega
      · exact h1 z hz
theorem sortI_rise : ∀ xs : List Int, (sortI xs).Pairwise (· ≤ ·)
  | [] => .nil
  | x :: r => insI_rise x (sortI_rise r)
theorem sortI_of {xs ys : List Int} (p : ys.Perm xs) (q : ys.Pairwise (· ≤ ·)) : ys = sortI xs :=
  (p.trans (sortI_perm xs).symm).eq_of_pairwise (fun x y _ _ h1 h2 => Int.le_antisymm h1 h2) q (sortI_rise xs)

/-! ### calls -/
def Bi.nm : Bi → Str
  | .len => "len" | .all => "all" | .any => "any" | .sum => "sum" | .list => "list" | .tuple => "tuple" | .sorted => "sorted" | .min => "min" | .max => "max" | .int => "int" | .divmod => "divmod"
def Bi.val : Bi → Value
  | .len => .builtin "len" | .all => .builtin "all" | .any => .builtin "any" | .sum => .builtin "sum" | .list => .type "list" | .tuple => .type "tuple" | .sorted => .builtin "sorted"
  | .min => .builtin "min" | .max => .builtin "max" | .int => .type "int" | .divmod => .builtin "divmod"
def rBi (cA : Str → Addr) (f : Bi) : List V → Hp → VK → Prop := fun vs H Q => ∃ ι M h ds d, HR cA H ι M h ∧ RpVs H ι M ds vs ∧ biD h f ds = some d ∧ Gives cA H ι M h d Q
section
variable {X : Cx} {cA : Str → Addr}
theorem CallR.when {f : Value} {r' : List V → Hp → VK → Prop} (h : ∀ vs H Q, r' vs H Q → ∃ r, CallR X f r ∧ r vs H Q) : CallR X f r' := fun pins s σ H vs us Q I rv q => by
  obtain ⟨r, o, z⟩ := h _ _ _ q
  exact o pins s σ H vs us Q I rv z
theorem map_some {α β : Type} {f : α → β} {o : Option α} {y : β} (e : o.map f = some y) : ∃ x, o = some x ∧ y = f x := by
  cases o with
  | none => cases e
  | some x => cases e; exact ⟨x, rfl, rfl⟩
theorem biR (hc : X.calm = true) (f : Bi) : CallR X f.val (rBi cA f) := by
  refine CallR.when fun vs H Q z => ?_
  obtain ⟨ι, M, h, ds, d, hr, rv, e, q⟩ := z
  unfold biD at e
  split at e
  · obtain ⟨xs, e1, rfl⟩ := map_some e
    obtain ⟨v, rfl, r⟩ := rv.one
    obtain ⟨p, ws, rfl, hs, hp⟩ := seq_of (K := X.K) hr r e1
    exact ⟨_, call_len_seq, p, ws, rfl, hs, by rw [← hp.length]; exact q.here hr (.int _)⟩
  · obtain ⟨xs, e1, rfl⟩ := map_some e
    obtain ⟨v, rfl, r⟩ := rv.one
    obtain ⟨p, ws, rfl, hs, hp⟩ := r.lst
    have ew := bls_of hp e1
    subst ew
    exact ⟨_, cr_all hc, p, _, rfl, .inl hs, q.here hr (.bl _)⟩
  · obtain ⟨xs, e1, rfl⟩ := map_some e
    obtain ⟨v, rfl, r⟩ := rv.one
    obtain ⟨p, ws, rfl, hs, hp⟩ := r.lst
    have ew := bls_of hp e1
    subst ew
    exact ⟨_, cr_any hc, p, _, rfl, .inl hs, q.here hr (.bl _)⟩
  · obtain ⟨xs, e1, rfl⟩ := map_some e
    obtain ⟨v, rfl, r⟩ := rv.one
    obtain ⟨p, ws, rfl, hs, hp⟩ := r.lst
    have ew := ints_of hp e1
    subst ew
    exact ⟨_, cr_sum hc, p, _, rfl, .inl hs, q.here hr (.int _)⟩
  · cases e
    obtain ⟨v, rfl, r⟩ := rv.one
    obtain ⟨p, ws, rfl, hs, hp⟩ := r.lst
    exact ⟨_, call_list_of, p, ws, rfl, .inl (.inl hs), q.lst hr hp⟩
  · cases e
    obtain ⟨v, rfl, r⟩ := rv.one
    obtain ⟨p, ws, rfl, hs, _, hp⟩ := r.tup
    exact ⟨_, call_list_of, p, ws, rfl, .inr (.inl hs), q.lst hr hp⟩
  · cases e
    obtain ⟨v, rfl, r⟩ := rv.one
    obtain ⟨p, ws, rfl, hs, hp⟩ := r.lst
    exact ⟨_, call_tuple_of, p, ws, rfl, .inl ⟨.inl hs, q.tup hr hp⟩⟩
  · cases e
    obtain ⟨v, rfl, r⟩ := rv.one
    obtain ⟨p, ws, rfl, hs, n, hp⟩ := r.tup
    exact ⟨_, call_tuple_of, p, ws, rfl, .inr ⟨.inl hs, q.here hr (.tup hs n hp)⟩⟩
  · obtain ⟨xs, e1, rfl⟩ := map_some e
    obtain ⟨v, rfl, r⟩ := rv.one
    obtain ⟨p, ws, rfl, hs, hp⟩ := r.lst
    have ew := ints_of hp e1
    subst ew
    refine ⟨_, cr_sortedI, p, _, rfl, .inl hs, fun ns' a hp1 hp2 hn => ?_⟩
    rw [sortI_of hp1 hp2]
    exact q.lst hr (rps_ints _) a hn
  · cases e
    obtain ⟨v, u, rfl, r1, r2⟩ := rv.two
    cases r1.int
    cases r2.int
    exact ⟨_, call_min2 hc, _, _, rfl, q.here hr (.int _)⟩
  · cases e
    obtain ⟨v, u, rfl, r1, r2⟩ := rv.two
    cases r1.int
    cases r2.int
    exact ⟨_, call_max2 hc, _, _, rfl, q.here hr (.int _)⟩
  · cases e
    obtain ⟨v, rfl, r⟩ := rv.one
    cases r.int
    exact ⟨_, call_int1, .inl ⟨_, rfl, q.here hr (.int _)⟩⟩
  · cases e
    obtain ⟨v, rfl, r⟩ := rv.one
    cases (r.of_ne (fun _ z => D.noConfusion z))
    exact ⟨_, call_int1, .inr ⟨_, rfl, q.here hr (.int _)⟩⟩
  · split at e
    · rename_i hcc
      cases e
      obtain ⟨h1, h2⟩ := pair_and hcc
      obtain ⟨v, u, rfl, r1, r2⟩ := rv.two
      cases r1.int
      cases r2.int
      exact ⟨_, call_divmod, _, _, rfl, ⟨of_decide_eq_true h1, of_decide_eq_true h2⟩, q.tup hr (.cons (.int _) (.cons (.int _) .nil))⟩
    · cases e
  · obtain ⟨bs, e1, e2⟩ := Option.bind_eq_some_iff.mp e
    obtain ⟨m, e3, rfl⟩ := map_some e2
    obtain ⟨v, rfl, r⟩ := rv.one
    obtain ⟨p, ws, rfl, hs, hp⟩ := r.lst
    have ew := ints_of hp e1
    subst ew
    have pm := sortI_perm bs
    have mem : m ∈ bs := pm.mem_iff.mp (List.mem_of_head? e3)
    refine ⟨_, cr_min hc, p, _, rfl, .inl hs, List.length_pos_of_mem mem, fun m' h1 h2 => ?_⟩
    have ri := sortI_rise bs
    have e4 : m' = m := by
      refine Int.le_antisymm (h2 m mem) ?_
      have hm := pm.mem_iff.mpr h1
      cases es : sortI bs with
      | nil => rw [es] at e3; cases e3
      | cons z zs =>
        rw [es] at e3 hm ri
        cases e3
        rcases List.mem_cons.mp hm with q | q
        · rw [q]; exact Int.le_refl _
        · exact (List.pairwise_cons.mp ri).1 m' q
    rw [e4]
    exact q.here hr (.int _)
  · cases e

/-! ### items -/
def rIx (cA : Str → Addr) : R2 := fun x y H Q => ∃ ι M h a b d, HR cA H ι M h ∧ RpV H ι M a x ∧ Rp H ι M b y ∧ ixD h a b = some d ∧ Gives cA H ι M h d Q
theorem IxR.when {r' : R2} (h : ∀ x y H Q, r' x y H Q → ∃ r, IxR X r ∧ r x y H Q) : IxR X r' := fun a b pins s σ H x y v u Q I rx ry q hs => by
  obtain ⟨r, o, z⟩ := h _ _ _ _ q
  exact o a b pins s σ H x y v u Q I rx ry z hs
theorem ixR : IxR X (rIx cA) := by
  refine IxR.when fun x y H Q z => ?_
  obtain ⟨ι, M, h, a, b, d, hr, ra, rb, e, q⟩ := z
  cases b with
  | int i =>
    cases rb
    simp only [ixD] at e
    split at e
    · rename_i xs hx
      split at e
      · rename_i k hk
        obtain ⟨p, ws, rfl, hs, hp⟩ := seq_of (K := X.K) hr ra hx
        obtain ⟨v, ev, rv⟩ := hp.get e
        have at_ : atI ws i = some v := by
          unfold atI
          rw [← hp.length, hk]
          exact ev
        rcases hs with hs | hs
        · exact ⟨_, ix_list, p, ws, i, v, rfl, rfl, hs, at_, q.here hr rv⟩
        · exact ⟨_, ix_tup, p, ws, i, v, rfl, rfl, hs, at_, q.here hr rv⟩
      · cases e
    · cases e
  | _ => cases e

/-! ### slices -/
def rSl (cA : Str → Addr) : V → Option Int → Option Int → Hp → VK → Prop := fun x lo hi H Q => ∃ ι M h a d, HR cA H ι M h ∧ RpV H ι M a x ∧ slD a lo hi = some d ∧ Gives cA H ι M h d Q
theorem rps_cut {H : Hp} {ι M : List Addr} {xs : List D} {vs : List V} (r : Rps H ι M xs vs) (lo hi : Option Int) : Rps H ι M (cutD xs lo hi) (cutV vs lo hi) := by
  unfold cutD cutV
  rw [r.length]
  exact (r.drop _).take _
theorem slR : SlR X (rSl cA) := by
  intro pins s σ H x v vl vu lo hi sl Q I rx hs pl pu z
  obtain ⟨ι, M, h, a, d, hr, ra, e, q⟩ := z
  cases a with
  | lst xs =>
    cases e
    obtain ⟨p, ws, rfl, hs2, hp⟩ := ra.lst
    exact sl_list pins s σ H _ v vl vu lo hi sl Q I rx hs pl pu ⟨p, ws, rfl, .inl hs2, q.lst hr (rps_cut hp lo hi)⟩
  | tup xs =>
    cases e
    obtain ⟨p, ws, rfl, hs2, n, hp⟩ := ra.tup
    refine sl_tupA pins s σ H _ v vl vu lo hi sl Q I rx hs pl pu ⟨p, ws, rfl, .inl hs2, fun z => q.here hr ?_, fun _ => q.tup hr (rps_cut hp lo hi)⟩
    have e : cutD xs lo hi = xs := by
      unfold cutD
      rw [hp.length, z.1, z.2, ← hp.length]
      simp
    rw [e]
    exact .tup hs2 n hp
  | _ => cases e

/-! ### isinstance -/
def Ty.s : Ty → String
  | .int => "int" | .bool => "bool" | .str => "str" | .tuple => "tuple" | .list => "list"
theorem tyX_of {K : PySem.W.Frag} {H : Hp} {ι M : List Addr} {d : D} {v : V} (r : Rp H ι M d v) (t : Ty) {b : Bool} (e : isiD t d = some b) : ∃ u, TyX K H v u ∧ PySem.W.kitOne K u (.type t.s) = some b := by
  cases r with
  | non => cases t <;> cases e <;> exact ⟨_, .base .non, kit_ty (by decide +kernel)⟩
  | bl _ => cases t <;> cases e <;> exact ⟨_, .base (.bl _), kit_ty (by decide +kernel)⟩
  | int _ => cases t <;> cases e <;> exact ⟨_, .base (.int _), kit_ty (by decide +kernel)⟩
  | str _ => cases t <;> cases e <;> exact ⟨_, .base (.str _), kit_ty (by decide +kernel)⟩
  | tup h _ _ =>
    rcases h with h | ⟨o, h⟩
    · cases t <;> cases e <;> exact ⟨_, .base (.tup h), kit_ty (by decide +kernel)⟩
    · cases t <;> cases e <;> exact ⟨_, .fTuple h, kit_ty (by decide +kernel)⟩
  | lst h _ _ =>
    rcases h with h | ⟨o, h⟩
    · cases t <;> cases e <;> exact ⟨_, .base (.lst h), kit_ty (by decide +kernel)⟩
    · cases t <;> cases e <;> exact ⟨_, .base (.frz h), kit_ty (by decide +kernel)⟩
  | ref _ => cases t <;> cases e
end
end Mini

/-! Mini 5: readings by the terms' worth; what a context must have; the check of a term against the text. -/
namespace Mini
open PySem PySem.Spec L2

/-- an exception as it lies -/
def XR (cA : Str → Addr) (H : Hp) (ι M : List Addr) (x : Exn) (cls : Value) (dd : Option Addr) : Prop := cls = .ref (cA x.cls) ∧ match x.by_ with
  | none => dd = none
  | some d => ∃ a v, dd = some a ∧ H a = some (.xd [("by", v)]) ∧ Rp H ι M d v
def Post (cA : Str → Addr) {α : Type} (o : Out α) (H : Hp) (ι M : List Addr) (W : XK) (R : α → Hd → Hp → List Addr → List Addr → Prop) : Prop := match o with
  | .ok a h => ∀ H' ι' M', Stp H ι M H' ι' M' → HR cA H' ι' M' h → R a h H' ι' M'
  | .exc x h => ∀ H' ι' M' cls dd, Stp H ι M H' ι' M' → HR cA H' ι' M' h → XR cA H' ι' M' x cls dd → W cls dd H'
  | .bad => False
section
variable {cA : Str → Addr} {α β : Type} {H : Hp} {ι M : List Addr} {W : XK}
theorem Post.bind {o : Out α} {f : α → Hd → Out β} {R : β → Hd → Hp → List Addr → List Addr → Prop} (p : Post cA (o.bind f) H ι M W R) : Post cA o H ι M W fun a h H' ι' M' => Post cA (f a h) H' ι' M' W R := by
  cases o with
  | ok a h =>
    intro H' ι' M' st hr
    have p : Post cA (f a h) H ι M W R := p
    show Post cA (f a h) H' ι' M' W R
    cases e : f a h with
    | ok b h2 =>
      rw [e] at p
      exact fun H2 ι2 M2 st2 hr2 => p H2 ι2 M2 (st.trans st2) hr2
    | exc x h2 =>
      rw [e] at p
      exact fun H2 ι2 M2 cls dd st2 hr2 => p H2 ι2 M2 cls dd (st.trans st2) hr2
    | bad =>
      rw [e] at p
      exact p
  | exc x h => exact p
  | bad => exact p
theorem Post.mono {o : Out α} {R R' : α → Hd → Hp → List Addr → List Addr → Prop} (p : Post cA o H ι M W R) (k : ∀ a h H' ι' M', Stp H ι M H' ι' M' → HR cA H' ι' M' h → R a h H' ι' M' → R' a h H' ι' M') : Post cA o H ι M W R' := by
  cases o with
  | ok a h => exact fun H' ι' M' st hr => k a h H' ι' M' st hr (p H' ι' M' st hr)
  | exc x h => exact p
  | bad => exact p
theorem Post.of {o : Option α} {h : Hd} {R : α → Hd → Hp → List Addr → List Addr → Prop} (p : Post cA (Out.of o h) H ι M W R) : ∃ a, o = some a ∧ ∀ H' ι' M', Stp H ι M H' ι' M' → HR cA H' ι' M' h → R a h H' ι' M' := by
  cases o with
  | none => exact p.elim
  | some a => exact ⟨a, rfl, p⟩
theorem Post.now {a : α} {h : Hd} {R : α → Hd → Hp → List Addr → List Addr → Prop} (p : Post cA (Out.ok a h) H ι M W R) (hr : HR cA H ι M h) : R a h H ι M := p H ι M Stp.refl hr
end

mutual
def tgs : Tg → List Nat
  | .nm i => [i]
  | .tp l => tgss l
def tgss : List Tg → List Nat
  | [] => []
  | t :: l => tgs t ++ tgss l
end
/-! ### readings -/
section
variable (cA : Str → Addr) (C : Orc) (W : XK)
def RdE (o : Ev → Hd → Out D) : TE := fun σ H Q => ∃ ι M ρ h, Rel cA H ι M ρ h σ ∧ Post cA (o ρ h) H ι M W fun d _ H' ι' M' => ∀ v, Rp H' ι' M' d v → Q v H'
def RdV (o : Ev → Hd → Out D) : TE := fun σ H Q => ∃ ι M ρ h, Rel cA H ι M ρ h σ ∧ Post cA (o ρ h) H ι M W fun d _ H' ι' M' => ∀ v, RpV H' ι' M' d v → Q v H'
def RdT (o : Ev → Hd → Out Bool) : TT := fun σ H Q => ∃ ι M ρ h, Rel cA H ι M ρ h σ ∧ Post cA (o ρ h) H ι M W fun d _ H' _ _ => Q d H'
def RdA (o : Ev → Hd → Out (List D)) : TA := fun σ H Q => ∃ ι M ρ h, Rel cA H ι M ρ h σ ∧ Post cA (o ρ h) H ι M W fun d _ H' ι' M' => ∀ v, Rps H' ι' M' d v → Q v H'
def RdAV (o : Ev → Hd → Out (List D)) : TA := fun σ H Q => ∃ ι M ρ h, Rel cA H ι M ρ h σ ∧ Post cA (o ρ h) H ι M W fun d _ H' ι' M' => ∀ v, RpVs H' ι' M' d v → Q v H'
def RdO (o : Ev → Hd → Out (Option Int)) : TO := fun σ H Q => ∃ ι M ρ h, Rel cA H ι M ρ h σ ∧ Post cA (o ρ h) H ι M W fun d _ H' _ _ => Q d H'
def RE (ir : IR) : TE := RdE cA W (evE C ir)
def RV (ir : IR) : TE := RdV cA W fun ρ h => vw ir ρ h (evE C ir ρ h)
def RT (ir : IR) : TT := RdT cA W fun ρ h => (evE C ir ρ h).bind fun x h => Out.of x.truth h
def RA (l : IRs) : TA := RdA cA W (evA C l)
def RAV (l : IRs) : TA := RdAV cA W (evAV C l)
def RO' (l : IO) : TO := RdO cA W (evO C l)
def RC (l : IO) : TT := RdT cA W (evC C l)
/-- an iterator that gives these, while what it walks isn't changed -/
def WalkD (xs : List D) (H : Hp) (ι M : List Addr) (J : It) : Prop := ∃ G Y, Walk J xs.length G Y ∧ (∀ H' ι' M', StpM H ι M H' ι' M' → G H') ∧
  ∀ i H1 x H2 ι1 M1 h1, i < xs.length → StpM H ι M H1 ι1 M1 → HR cA H1 ι1 M1 h1 → Y i H1 x H2 → Stp H1 ι1 M1 H2 ι1 M1 ∧ HR cA H2 ι1 M1 h1 ∧ ∃ d, xs[i]? = some d ∧ Rp H2 ι1 M1 d x
def RI (it : IT) : TI := fun σ H R => ∃ ι M ρ h, Rel cA H ι M ρ h σ ∧ Post cA (evI C it ρ h) H ι M W fun xs _ H' ι' M' => ∀ J, WalkD cA xs H' ι' M' J → R J H'
def RG (tg : Tg) : TG := fun v σ H Q => ∃ ι M ρ h d ρ', Rel cA H ι M ρ h σ ∧ Rp H ι M d v ∧ asg tg d ρ = some ρ' ∧ ∀ σ', Rel cA H ι M ρ' h σ' → (∀ i, i ∉ tgs tg → σ'[i]? = σ[i]?) → Q σ' H
def RGs (tg : List Tg) : TGs := fun v σ H Q => ∃ ι M ρ h d ρ', Rel cA H ι M ρ h σ ∧ Rps H ι M d v ∧ asgs tg d ρ = some ρ' ∧ ∀ σ', Rel cA H ι M ρ' h σ' → (∀ i, i ∉ tgss tg → σ'[i]? = σ[i]?) → Q σ' H
end

/-! ### the promise of a def -/
def spD (cA : Str → Addr) (T : Nat → Option Df) (n g : Nat) : Sp := fun vs H Q E => ∃ ι M h ds f, T g = some f ∧ ds.length = f.n ∧ HR cA H ι M h ∧ Rps H ι M ds vs ∧
  Post cA (call T n g ds h) H ι M E fun d _ H' ι' M' => ∀ v, Rp H' ι' M' d v → Q v H'
def FOk (X : Cx) (cA : Str → Addr) (T : Nat → Option Df) (n g : Nat) (name : Str) : Prop := ∃ f fd ps, X.mg name = some (.ref f) ∧ PySem.W.keepIn X.K (.ref f) = true ∧ Binds X.K fd ps [] ∧
  FnOk X.prog X.w X.K X.mg X.base (L2.CX X.prog X.w) n f fd ps (spD cA T n g)

/-! ### contexts -/
structure Cfg where
  N : List Str
  sc : Scope
  st : Scope
  nm : Nat → Str
  fs : List Nat
  exns : List Str
  free : List Str
  globs : List (Str × Ck)
def Ck.v : Ck → V
  | .non => .non
  | .bl b => .bl b
  | .int i => .int i
  | .str x => .str x
theorem Ck.rp {H : Hp} {ι M : List Addr} : ∀ c : Ck, Rp H ι M c.d c.v
  | .non => .non
  | .bl _ => .bl _
  | .int _ => .int _
  | .str _ => .str _
structure Gd (cA : Str → Addr) (T : Nat → Option Df) (n : Nat) (cf : Cfg) (W : XK) (X : Cx) : Prop where
  calm : X.calm = true
  room : Room n X.A
  nd : X.N.Nodup
  eN : X.N = cf.N
  eS : X.env.scope = cf.sc
  fn : ∀ x, cf.st.names.lookup x = some .cell → X.fn x = true
  tk : Takes X fun cls d _ H => W cls d H
  fns : ∀ g ∈ cf.fs, FOk X cA T n g (cf.nm g)
  exns : ∀ c ∈ cf.exns, X.mg c = some (.ref (cA c)) ∧ PySem.W.excIn X.K (cA c) [.type "ValueError", .type "Exception", .type "BaseException", .type "object"] "ValueError.__new__" = true ∧ PySem.W.keepIn X.K (.ref (cA c)) = true ∧
    PySem.W.subIn X.K (.ref (cA c)) (.type "BaseException") = some true ∧ PySem.W.typeIn X.K (.ref (cA c)) = some (.type "type")
  frees : ∀ x ∈ cf.free, X.mg x = none
  globs : ∀ x c, cf.globs.lookup x = some c → ∃ u, X.mg x = some u ∧ RelV c.v u
abbrev Cfg.blk (cf : Cfg) (scope : Scope) : Cfg := { cf with sc := relS scope cf.sc, st := scope }
theorem Gd.blk {cA : Str → Addr} {T : Nat → Option Df} {n : Nat} {cf : Cfg} {W : XK} {X : Cx} (g : Gd cA T n cf W X) (s : Shared) (H : Hp) (scope : Scope) (C : Addr) (cl : List (Str × Addr)) (fp : List Addr) :
    Gd cA T n (cf.blk scope) (fun _ _ _ => False) (X.blk s H scope (compEnvC scope cl C X.env) fp) := by
  refine ⟨g.calm, g.room, g.nd, g.eN, ?_, fun x hx => ?_, takes0, g.fns, g.exns, g.frees, g.globs⟩
  · show relabel scope X.env = relS scope cf.sc
    rw [← g.eS]
    rfl
  · show (scope.names.lookup x == some .cell) = true
    rw [show scope.names.lookup x = some .cell from hx]
    rfl

/-! ### the check -/
def okN (x : Str) : Bool := !(x == ("__debug__" : Str)) && !(x == ("__classdict__" : Str))
def visB (sc : Scope) (x : Str) : Bool := match sc.names.lookup x with
  | some .local => true
  | some .cell => true
  | some .free => true
  | _ => false
def locB (cf : Cfg) (x : Str) : Bool := match cf.sc.names.lookup x with
  | some .local => true
  | some .cell => (match cf.st.names.lookup x with
    | some .cell => true
    | _ => false)
  | _ => false
def glB (sc : Scope) (x : Str) : Bool := match sc.names.lookup x with
  | some .globalImplicit => true
  | _ => false
def ckB : Ck → Const → Bool
  | .non, .none => true
  | .bl a, .bool b => a == b
  | .int a, .int b => decide (a = b)
  | .str a, .str b => decide (a = b)
  | _, _ => false
/-- an expression whose truth is its value's, and that is no star -/
def plainB : Expr → Bool
  | .Name .. => true
  | .Call .. => true
  | .Subscript .. => true
  | .Attribute .. => true
  | .Constant .. => true
  | _ => false
def starB : Expr → Bool
  | .Starred .. => true
  | _ => false
mutual
def mG : Tg → Cfg → Expr → Bool
  | .nm i, cf, .Name x _ => decide (cf.N[i]? = some x) && locB cf x
  | .tp l, cf, .Tuple es _ _ => mGs l cf es
  | _, _, _ => false
def mGs : List Tg → Cfg → List Expr → Bool
  | [], _, [] => true
  | t :: l, cf, e :: es => mG t cf e && mGs l cf es
  | _, _, _ => false
end
def freeB (cf : Cfg) (x : Str) : Bool := glB cf.sc x && (cf.free.contains x && !(x == ("__debug__" : Str)))
def plainIxB : Expr → Bool
  | .Name .. => true
  | .Constant (.int _) _ _ => true
  | .UnaryOp .. => true
  | .BinOp .. => true
  | .Call .. => true
  | .Subscript .. => true
  | .Attribute .. => true
  | _ => false
def seqB : Expr → Bool
  | .Set .. => false
  | _ => true
/-- a comprehension's target stores the block's own slots alone -/
def ownB : List (Str × Nat) → Tg → Bool
  | own, tg => (tgs tg).all fun i => (own.map (·.2)).contains i
def ckSame : Option Ck → Ck → Bool
  | some (.int i), .int j => decide (i = j)
  | some (.str i), .str j => decide (i = j)
  | _, _ => false
theorem ckSame_eq {o : Option Ck} {c : Ck} (h : ckSame o c = true) : o = some c := by
  cases o with
  | none => cases h
  | some k => cases k <;> cases c <;> first | (cases h; done) | rw [of_decide_eq_true (show decide _ = true from h)]
mutual
def mE : IR → Cfg → Expr → Bool
  | .var i, cf, e => (match e with | .Name x _ => decide (cf.N[i]? = some x) && (visB cf.sc x && okN x) | _ => false)
  | .own i, cf, e => (match e with | .Name x _ => decide (cf.N[i]? = some x) && (visB cf.sc x && okN x) | _ => false)
  | .k c, _, e => (match e with | .Constant c' _ _ => ckB c c' | _ => false)
  | .glob y c, cf, e => (match e with | .Name x _ => decide (x = y) && (glB cf.sc x && (!(x == ("__debug__" : Str)) && ckSame (cf.globs.lookup x) c)) | _ => false)
  | .bin op a b, cf, e => (match e with | .BinOp x op' y _ => decide (op = op') && (mE a cf x && mE b cf y) | _ => false)
  | .neg a, cf, e => (match e with | .UnaryOp .USub x _ => mE a cf x | _ => false)
  | .not a, cf, e => (match e with | .UnaryOp .Not x _ => mE a cf x | _ => false)
  | .boo op l, cf, e => (match e with | .BoolOp op' es _ => decide (op = op') && mB op l cf es | _ => false)
  | .cmp op a b, cf, e => (match e with | .Compare x [op'] [y] _ => decide (op = op') && (mE a cf x && (mE b cf y && !behindInMarks op y)) | _ => false)
  | .chain op op' a b c, cf, e => (match e with | .Compare x [o1, o2] [y, z] _ => decide (op = o1) && (decide (op' = o2) && (mE a cf x && (mE b cf y && (mE c cf z && !lastMarks [o1, o2] [y, z])))) | _ => false)
  | .ife c a b, cf, e => (match e with | .IfExp x y z _ => mE c cf x && (mE a cf y && mE b cf z) | _ => false)
  | .tup l, cf, e => (match e with | .Tuple es _ _ => mA l cf es && decide (es.length ≤ 1000) | _ => false)
  | .lst l, cf, e => (match e with | .List es _ => mA l cf es && decide (es.length ≤ 1000) | _ => false)
  | .lstM l, cf, e => (match e with | .List es _ => mA l cf es && decide (es.length ≤ 1000) | _ => false)
  | .lrng a, cf, e => (match e with | .Call (.Name x _) [.Call (.Name y _) [e1] [] _] [] _ => decide (x = "list") && (freeB cf x && (decide (y = "range") && (freeB cf y && (mE a cf e1 && !starB e1)))) | _ => false)
  | .call g l, cf, e => (match e with | .Call (.Name x _) es [] _ => cf.fs.contains g && (decide (cf.nm g = x) && (glB cf.sc x && (!(x == ("__debug__" : Str)) && mA l cf es))) | _ => false)
  | .bi f l, cf, e => (match e with | .Call (.Name x _) es [] _ => decide (f.nm = x) && (freeB cf x && mA l cf es) | _ => false)
  | .isi t a, cf, e => (match e with | .Call (.Name x _) [e1, .Name y _] [] _ => decide (x = "isinstance") && (freeB cf x && (decide (y = Str.ofString t.s) && (freeB cf y && (mE a cf e1 && !starB e1)))) | _ => false)
  | .ix a i, cf, e => (match e with | .Subscript x y _ => mE a cf x && (mE i cf y && plainIxB y) | _ => false)
  | .sl a lo hi, cf, e => (match e with | .Subscript x (.Slice l u none _) _ => mE a cf x && (mO lo cf l && mO hi cf u) | _ => false)
  | .comp own tg it c b, cf, e => (match e with | .ListComp elt [⟨t, itx, ifs, 0⟩] scope _ => blkC cf.N cf.sc scope own && (mG tg (cf.blk scope) t && (seqB itx && (mI it cf t itx && (mC c (cf.blk scope) ifs && (mE b (cf.blk scope) elt && ownB own tg))))) | _ => false)
/-- a tuple, a list of written parts -/
def mA : IRs → Cfg → List Expr → Bool
  | .nil, _, [] => true
  | .cons a l, cf, e :: es => mE a cf e && (!starB e && mA l cf es)
  | _, _, _ => false
def mB (op : PySem.BoolOp) : IRs → Cfg → List Expr → Bool
  | .cons a .nil, cf, [e] => mE a cf e
  | .cons a (.cons b l), cf, e :: e2 :: es => mE a cf e && mB op (.cons b l) cf (e2 :: es)
  | _, _, _ => false
def mO : IO → Cfg → Option Expr → Bool
  | .no, _, none => true
  | .yes a, cf, some e => mE a cf e
  | _, _, _ => false
def mC : IO → Cfg → List Expr → Bool
  | .no, _, [] => true
  | .yes a, cf, [e] => mE a cf e
  | _, _, _ => false
def mI : IT → Cfg → Expr → Expr → Bool
  | .seq a, cf, _, e => mE a cf e && seqB e
  | .rng1 a, cf, _, e => (match e with | .Call (.Name x _) [e1] [] _ => decide (x = "range") && (freeB cf x && (mE a cf e1 && !starB e1)) | _ => false)
  | .rng2 a b, cf, _, e => (match e with | .Call (.Name x _) [e1, e2] [] _ => decide (x = "range") && (freeB cf x && (mE a cf e1 && (mE b cf e2 && (!starB e1 && !starB e2)))) | _ => false)
  | .rng3 a b c, cf, _, e => (match e with | .Call (.Name x _) [e1, e2, e3] [] _ => decide (x = "range") && (freeB cf x && (mE a cf e1 && (mE b cf e2 && (mE c cf e3 && (!starB e1 && (!starB e2 && !starB e3)))))) | _ => false)
  | .zip a b, cf, t, e => (match t, e with | .Tuple _ _ _, .Call (.Name x _) [e1, e2] [] _ => decide (x = "zip") && (freeB cf x && (mE a cf e1 && (mE b cf e2 && (!starB e1 && !starB e2)))) | _, _ => false)
  | .enm a, cf, t, e => (match t, e with | .Tuple _ _ _, .Call (.Name x _) [e1] [] _ => decide (x = "enumerate") && (freeB cf x && (mE a cf e1 && !starB e1)) | _, _ => false)
end
end Mini

/-! Mini 6: each construct. -/
namespace Mini
open PySem PySem.Spec L2

end Mini
namespace L2
open PySem PySem.Spec
theorem PE.imp {X : Cx} {e : Expr} {t t' : TE} (h : PE X e t) (k : ∀ σ H Q, t' σ H Q → t σ H Q) : PE X e t' := ⟨fun pins s σ H Q I q => h.run pins s σ H Q I (k _ _ _ q)⟩
theorem PE.when {X : Cx} {e : Expr} {t' : TE} (k : ∀ σ H Q, t' σ H Q → ∃ t, PE X e t ∧ t σ H Q) : PE X e t' := ⟨fun pins s σ H Q I q => by
  obtain ⟨t, h, z⟩ := k _ _ _ q
  exact h.run pins s σ H Q I z⟩
theorem PT.imp {X : Cx} {e : Expr} {t t' : TT} (h : PT X e t) (k : ∀ σ H Q, t' σ H Q → t σ H Q) : PT X e t' := ⟨fun pins s σ H Q I q => h.run pins s σ H Q I (k _ _ _ q)⟩
theorem PW.imp {X : Cx} {e : Expr} {t t' : TT} (h : PW X e t) (k : ∀ σ H Q, t' σ H Q → t σ H Q) : PW X e t' := ⟨fun wh pins s σ H Q I q => h.run wh pins s σ H Q I (k _ _ _ q)⟩
theorem PA.imp {X : Cx} {e : List Expr} {t t' : TA} (h : PA X e t) (k : ∀ σ H Q, t' σ H Q → t σ H Q) : PA X e t' := ⟨fun pos pins s σ H Q I q => h.run pos pins s σ H Q I (k _ _ _ q)⟩
theorem PO.imp {X : Cx} {e : Option Expr} {t t' : TO} (h : PO X e t) (k : ∀ σ H Q, t' σ H Q → t σ H Q) : PO X e t' := ⟨fun pins s σ H Q I q => h.run pins s σ H Q I (k _ _ _ q)⟩
theorem PG.imp {X : Cx} {e : Expr} {t t' : TG} (h : PG X e t) (k : ∀ v σ H Q, t' v σ H Q → t v σ H Q) : PG X e t' := ⟨fun pins s σ H v u Q I r q => h.run pins s σ H v u Q I r (k _ _ _ _ q)⟩
theorem PGs.imp {X : Cx} {e : List Expr} {t t' : TGs} (h : PGs X e t) (k : ∀ v σ H Q, t' v σ H Q → t v σ H Q) : PGs X e t' := ⟨fun pins s σ H v u Q I r q => h.run pins s σ H v u Q I r (k _ _ _ _ q)⟩
theorem PTs.imp {X : Cx} {e : List Expr} {t t' : TT} (h : PTs X e t) (k : ∀ σ H Q, t' σ H Q → t σ H Q) : PTs X e t' := ⟨fun pins s σ H Q I q => h.run pins s σ H Q I (k _ _ _ q)⟩

end L2
namespace Mini
open PySem PySem.Spec L2
section
variable {cA : Str → Addr} {C : Orc} {W : XK} {X : Cx} {T : Nat → Option Df} {n : Nat} {cf : Cfg}
theorem Rel.later {H H' : Hp} {ι M ι' M' : List Addr} {ρ : Ev} {h h' : Hd} {σ : L2.St} (r : Rel cA H ι M ρ h σ) (s : Stp H ι M H' ι' M') (hr : HR cA H' ι' M' h') : Rel cA H' ι' M' ρ h' σ := ⟨hr, r.er.later s r.hr.sub⟩

/-- what follows an operand -/
theorem RdE.go {o : Ev → Hd → Out D} {σ : L2.St} {H : Hp} {ι M : List Addr} {ρ : Ev} {h : Hd} {Q : VK} {α : Type} {f : D → Hd → Out α} {R : α → Hd → Hp → List Addr → List Addr → Prop} (rel : Rel cA H ι M ρ h σ) (p : Post cA ((o ρ h).bind f) H ι M W R)
    (k : ∀ d h1 H1 ι1 M1 v, Stp H ι M H1 ι1 M1 → Rel cA H1 ι1 M1 ρ h1 σ → Rp H1 ι1 M1 d v → Post cA (f d h1) H1 ι1 M1 W R → Q v H1) : RdE cA W o σ H Q :=
  ⟨ι, M, ρ, h, rel, p.bind.mono fun d h1 H1 ι1 M1 st hr q v r => k d h1 H1 ι1 M1 v st (rel.later st hr) r q⟩
theorem RdV.go {o : Ev → Hd → Out D} {σ : L2.St} {H : Hp} {ι M : List Addr} {ρ : Ev} {h : Hd} {Q : VK} {α : Type} {f : D → Hd → Out α} {R : α → Hd → Hp → List Addr → List Addr → Prop} (rel : Rel cA H ι M ρ h σ) (p : Post cA ((o ρ h).bind f) H ι M W R)
    (k : ∀ d h1 H1 ι1 M1 v, Stp H ι M H1 ι1 M1 → Rel cA H1 ι1 M1 ρ h1 σ → RpV H1 ι1 M1 d v → Post cA (f d h1) H1 ι1 M1 W R → Q v H1) : RdV cA W o σ H Q :=
  ⟨ι, M, ρ, h, rel, p.bind.mono fun d h1 H1 ι1 M1 st hr q v r => k d h1 H1 ι1 M1 v st (rel.later st hr) r q⟩
theorem RdT.go {o : Ev → Hd → Out Bool} {σ : L2.St} {H : Hp} {ι M : List Addr} {ρ : Ev} {h : Hd} {Q : Bool → Hp → Prop} {α : Type} {f : Bool → Hd → Out α} {R : α → Hd → Hp → List Addr → List Addr → Prop} (rel : Rel cA H ι M ρ h σ) (p : Post cA ((o ρ h).bind f) H ι M W R)
    (k : ∀ d h1 H1 ι1 M1, Stp H ι M H1 ι1 M1 → Rel cA H1 ι1 M1 ρ h1 σ → Post cA (f d h1) H1 ι1 M1 W R → Q d H1) : RdT cA W o σ H Q :=
  ⟨ι, M, ρ, h, rel, p.bind.mono fun d h1 H1 ι1 M1 st hr q => k d h1 H1 ι1 M1 st (rel.later st hr) q⟩
theorem RdA.go {o : Ev → Hd → Out (List D)} {σ : L2.St} {H : Hp} {ι M : List Addr} {ρ : Ev} {h : Hd} {Q : List V → Hp → Prop} {α : Type} {f : List D → Hd → Out α} {R : α → Hd → Hp → List Addr → List Addr → Prop} (rel : Rel cA H ι M ρ h σ) (p : Post cA ((o ρ h).bind f) H ι M W R)
    (k : ∀ d h1 H1 ι1 M1 v, Stp H ι M H1 ι1 M1 → Rel cA H1 ι1 M1 ρ h1 σ → Rps H1 ι1 M1 d v → Post cA (f d h1) H1 ι1 M1 W R → Q v H1) : RdA cA W o σ H Q :=
  ⟨ι, M, ρ, h, rel, p.bind.mono fun d h1 H1 ι1 M1 st hr q v r => k d h1 H1 ι1 M1 v st (rel.later st hr) r q⟩
theorem RdAV.go {o : Ev → Hd → Out (List D)} {σ : L2.St} {H : Hp} {ι M : List Addr} {ρ : Ev} {h : Hd} {Q : List V → Hp → Prop} {α : Type} {f : List D → Hd → Out α} {R : α → Hd → Hp → List Addr → List Addr → Prop} (rel : Rel cA H ι M ρ h σ) (p : Post cA ((o ρ h).bind f) H ι M W R)
    (k : ∀ d h1 H1 ι1 M1 v, Stp H ι M H1 ι1 M1 → Rel cA H1 ι1 M1 ρ h1 σ → RpVs H1 ι1 M1 d v → Post cA (f d h1) H1 ι1 M1 W R → Q v H1) : RdAV cA W o σ H Q :=
  ⟨ι, M, ρ, h, rel, p.bind.mono fun d h1 H1 ι1 M1 st hr q v r => k d h1 H1 ι1 M1 v st (rel.later st hr) r q⟩
theorem RdO.go {o : Ev → Hd → Out (Option Int)} {σ : L2.St} {H : Hp} {ι M : List Addr} {ρ : Ev} {h : Hd} {Q : Option Int → Hp → Prop} {α : Type} {f : Option Int → Hd → Out α} {R : α → Hd → Hp → List Addr → List Addr → Prop} (rel : Rel cA H ι M ρ h σ) (p : Post cA ((o ρ h).bind f) H ι M W R)
    (k : ∀ d h1 H1 ι1 M1, Stp H ι M H1 ι1 M1 → Rel cA H1 ι1 M1 ρ h1 σ → Post cA (f d h1) H1 ι1 M1 W R → Q d H1) : RdO cA W o σ H Q :=
  ⟨ι, M, ρ, h, rel, p.bind.mono fun d h1 H1 ι1 M1 st hr q => k d h1 H1 ι1 M1 st (rel.later st hr) q⟩
/-- the answer of an operator -/
theorem gives {H : Hp} {ι M : List Addr} {h : Hd} {d : D} {Q : VK} (p : ∀ H' ι' M', Stp H ι M H' ι' M' → HR cA H' ι' M' h → ∀ v, Rp H' ι' M' d v → Q v H') : Gives cA H ι M h d Q := fun v H' st hr r => p H' ι M st hr v r

/-! ### names, constants -/
theorem vis_of {sc : Scope} {x : Str} (h : visB sc x = true) : Vis sc x := by
  unfold visB at h
  unfold Vis
  split at h <;> simp_all
theorem okN_of {x : Str} (h : okN x = true) : (x == ("__debug__" : Str)) = false ∧ (x == ("__classdict__" : Str)) = false := by
  unfold okN at h
  obtain ⟨a, b⟩ := pair_and h
  exact ⟨by simpa using a, by simpa using b⟩
theorem re_var {i : Nat} {x : Str} {pos : Pos} (g : Gd cA T n cf W X) (h1 : cf.N[i]? = some x) (h2 : visB cf.sc x = true) (h3 : okN x = true) : PE X (.Name x pos) (RE cA C W (.var i)) := by
  refine PE.imp (pe_var (i := i) (by rw [g.eN]; exact h1) (by rw [g.eS]; exact vis_of h2) (okN_of h3).1 (okN_of h3).2) fun σ H Q z => ?_
  obtain ⟨ι, M, ρ, h, rel, p⟩ := z
  simp only [evE] at p
  split at p
  · rename_i d e
    obtain ⟨v, e1, r⟩ := rel.er.get e
    exact ⟨v, e1, p.now rel.hr v r⟩
  · exact p.elim
theorem rv_own {i : Nat} {x : Str} {pos : Pos} (g : Gd cA T n cf W X) (h1 : cf.N[i]? = some x) (h2 : visB cf.sc x = true) (h3 : okN x = true) : PE X (.Name x pos) (RV cA C W (.own i)) := by
  refine PE.imp (pe_var (i := i) (by rw [g.eN]; exact h1) (by rw [g.eS]; exact vis_of h2) (okN_of h3).1 (okN_of h3).2) fun σ H Q z => ?_
  obtain ⟨ι, M, ρ, h, rel, p⟩ := z
  simp only [vw] at p
  split at p
  · rename_i d e
    obtain ⟨v, e1, r⟩ := rel.er.sl i _ e
    exact ⟨v, e1, p.now rel.hr v (.inr r)⟩
  · exact p.elim
theorem RV.of {ir : IR} {e : Expr} (hn : ∀ i, ir ≠ .own i) (h : PE X e (RE cA C W ir)) : PE X e (RV cA C W ir) := h.imp fun σ H Q z => by
  obtain ⟨ι, M, ρ, hh, rel, p⟩ := z
  have e : vw ir ρ hh (evE C ir ρ hh) = evE C ir ρ hh := by
    cases ir <;> first | rfl | exact absurd rfl (hn _)
  have p : Post cA (vw ir ρ hh (evE C ir ρ hh)) H ι M W _ := p
  rw [e] at p
  exact ⟨ι, M, ρ, hh, rel, p.mono fun d h1 H1 ι1 M1 st hr q v r => q v (.inl r)⟩
theorem re_own {i : Nat} {e : Expr} : PE X e (RE cA C W (.own i)) := ⟨fun pins s σ H Q I z => by
  obtain ⟨ι, M, ρ, h, rel, p⟩ := z
  exact p.elim⟩
theorem re_k {c : Ck} {c' : Const} {j : Nat} {pos : Pos} (h : ckB c c' = true) : PE X (.Constant c' j pos) (RE cA C W (.k c)) := by
  have fin : ∀ {v : V}, (∀ (H : Hp) (ι M : List Addr), Rp H ι M c.d v) → ∀ σ H Q, RE cA C W (.k c) σ H Q → tC v σ H Q := fun hv σ H Q z => by
    obtain ⟨ι, M, ρ, h, rel, p⟩ := z
    exact p.now rel.hr _ (hv H ι M)
  cases c <;> cases c' <;> first | (simp [ckB] at h; done) | skip
  · exact pe_non.imp (fin fun _ _ _ => .non)
  · rename_i a b
    have e : a = b := by simpa [ckB] using h
    subst e
    exact pe_bl.imp (fin fun _ _ _ => .bl _)
  · rename_i a b
    have e : a = b := by simpa [ckB] using h
    subst e
    exact pe_int.imp (fin fun _ _ _ => .int _)
  · rename_i a b
    have e : a = b := by simpa [ckB] using h
    subst e
    exact pe_str.imp (fin fun _ _ _ => .str _)
theorem gl_of (g : Gd cA T n cf W X) {x : Str} (h : glB cf.sc x = true) : Gl X x := by
  unfold glB at h
  unfold Gl Env.kindOf
  rw [g.eS]
  split at h
  · assumption
  · cases h
theorem nd_of {x : Str} (h : (!(x == ("__debug__" : Str))) = true) : (x == ("__debug__" : Str)) = false := by simpa using h
theorem re_glob {c : Ck} {x : Str} {pos : Pos} (g : Gd cA T n cf W X) (h1 : glB cf.sc x = true) (h2 : (x == ("__debug__" : Str)) = false) (h3 : cf.globs.lookup x = some c) : PE X (.Name x pos) (RE cA C W (.glob x c)) := by
  obtain ⟨u, e, r⟩ := g.globs x c h3
  refine PE.imp (pe_glob (gl_of g h1) e r h2) fun σ H Q z => ?_
  obtain ⟨ι, M, ρ, h, rel, p⟩ := z
  exact p.now rel.hr _ c.rp

/-! ### operators -/
theorem re_bin {a b : IR} {x y : Expr} {op : Operator} {pos : Pos} (ha : PE X x (RV cA C W a)) (hb : PE X y (RV cA C W b)) : PE X (.BinOp x op y pos) (RE cA C W (.bin op a b)) :=
  PE.imp (pe_op (binR (cA := cA) op) ha hb) fun σ H Q z => by
    obtain ⟨ι, M, ρ, h, rel, p⟩ := z
    simp only [evE] at p
    refine RdV.go (o := fun ρ h => vw a ρ h (evE C a ρ h)) rel p fun d h1 H1 ι1 M1 v st rel1 r1 p1 => ?_
    refine RdV.go (o := fun ρ h => vw b ρ h (evE C b ρ h)) rel1 p1 fun d2 h2 H2 ι2 M2 v2 st2 rel2 r2 p2 => ?_
    obtain ⟨d3, e, p3⟩ := p2.of
    exact ⟨ι2, M2, h2, d, d2, d3, rel2.hr, r1.later st2 rel1.hr.sub, r2, e, gives p3⟩
theorem re_neg {a : IR} {x : Expr} {pos : Pos} (ha : PE X x (RE cA C W a)) : PE X (.UnaryOp .USub x pos) (RE cA C W (.neg a)) :=
  PE.imp (pe_un un_neg ha) fun σ H Q z => by
    obtain ⟨ι, M, ρ, h, rel, p⟩ := z
    simp only [evE] at p
    refine RdE.go rel p fun d h1 H1 ι1 M1 v st rel1 r1 p1 => ?_
    cases d with
    | int i =>
      cases r1
      exact ⟨i, rfl, p1.now rel1.hr _ (.int _)⟩
    | _ => exact p1.elim
theorem truth_of {d : D} {b : Bool} {H : Hp} {ι M : List Addr} {v : V} (e : d.truth = some b) (r : Rp H ι M d v) : v = .bl b := by
  cases d with
  | bl c => cases e; cases r; rfl
  | _ => cases e
theorem re_not {a : IR} {x : Expr} {pos : Pos} (ha : PE X x (RE cA C W a)) : PE X (.UnaryOp .Not x pos) (RE cA C W (.not a)) :=
  PE.imp (pe_not ha) fun σ H Q z => by
    obtain ⟨ι, M, ρ, h, rel, p⟩ := z
    simp only [evE] at p
    refine RdE.go rel p fun d h1 H1 ι1 M1 v st rel1 r1 p1 => ?_
    obtain ⟨d3, e, p3⟩ := p1.of
    obtain ⟨b, e1, rfl⟩ := map_some e
    exact ⟨b, truth_of e1 r1, p3 _ _ _ Stp.refl rel1.hr _ (.bl _)⟩
theorem rd_cmp {a b : IR} {op : CmpOp} {σ : L2.St} {H : Hp} {Q : VK} (z : RE cA C W (.cmp op a b) σ H Q) : tOp (rCmp cA (cmpD op)) (RV cA C W a) (RV cA C W b) σ H Q := by
  obtain ⟨ι, M, ρ, h, rel, p⟩ := z
  simp only [evE] at p
  refine RdV.go (o := fun ρ h => vw a ρ h (evE C a ρ h)) rel p fun d h1 H1 ι1 M1 v st rel1 r1 p1 => ?_
  refine RdV.go (o := fun ρ h => vw b ρ h (evE C b ρ h)) rel1 p1 fun d2 h2 H2 ι2 M2 v2 st2 rel2 r2 p2 => ?_
  obtain ⟨d3, e, p3⟩ := p2.of
  obtain ⟨k, e1, rfl⟩ := map_some e
  exact ⟨ι2, M2, h2, d, d2, k, rel2.hr, r1.later st2 rel1.hr.sub, r2, e1, p3 _ _ _ Stp.refl rel2.hr _ (.bl _)⟩
theorem re_cmp {a b : IR} {x y : Expr} {op : CmpOp} {pos : Pos} (hu : X.A.units + 64 < cLine) (ha : PE X x (RV cA C W a)) (hb : PE X y (RV cA C W b)) (hm : behindInMarks op y = false) : PE X (.Compare x [op] [y] pos) (RE cA C W (.cmp op a b)) :=
  PE.imp (pe_cmpR (cmpR (cA := cA) op hu) ha hb hm) fun σ H Q z => rd_cmp z
theorem rd_chain {a b c : IR} {op op' : CmpOp} {σ : L2.St} {H : Hp} {Q : VK} (z : RE cA C W (.chain op op' a b c) σ H Q) : tChain (rCmp cA (cmpD op)) (rCmp cA (cmpD op')) (RE cA C W a) (RE cA C W b) (RE cA C W c) σ H Q := by
    obtain ⟨ι, M, ρ, h, rel, p⟩ := z
    simp only [evE] at p
    refine RdE.go rel p fun d h1 H1 ι1 M1 v st rel1 r1 p1 => ?_
    refine RdE.go rel1 p1 fun d2 h2 H2 ι2 M2 v2 st2 rel2 r2 p2 => ?_
    obtain ⟨k, e1, p3⟩ := p2.bind.of
    refine ⟨ι2, M2, h2, d, d2, k, rel2.hr, .inl (Rp.later (st2.m rel1.hr.sub) _ _ r1), .inl r2, e1, k, rfl, ?_⟩
    have p3 := p3 _ _ _ Stp.refl rel2.hr
    cases k with
    | true =>
      rw [if_pos rfl] at p3 ⊢
      refine RdE.go rel2 p3 fun d4 h4 H4 ι4 M4 v4 st4 rel4 r4 p4 => ?_
      obtain ⟨d3, e, p5⟩ := p4.of
      obtain ⟨k, e2, rfl⟩ := map_some e
      exact ⟨ι4, M4, h4, d2, d4, k, rel4.hr, .inl (Rp.later (st4.m rel2.hr.sub) _ _ r2), .inl r4, e2, p5 _ _ _ Stp.refl rel4.hr _ (.bl _)⟩
    | false =>
      rw [if_neg (by decide)] at p3 ⊢
      exact p3.now rel2.hr _ (.bl _)
theorem re_chain {a b c : IR} {x y w : Expr} {op op' : CmpOp} {pos : Pos} (hu : X.A.units + 64 < cLine) (ha : PE X x (RE cA C W a)) (hb : PE X y (RE cA C W b)) (hc : PE X w (RE cA C W c)) (hm : lastMarks [op, op'] [y, w] = false) :
    PE X (.Compare x [op, op'] [y, w] pos) (RE cA C W (.chain op op' a b c)) :=
  PE.imp (pe_chain (cmpR (cA := cA) op hu) (cmpR (cA := cA) op' hu) ha hb hc hm) fun σ H Q z => rd_chain z
theorem re_ife {c a b : IR} {x y z : Expr} {pos : Pos} (hc : PT X x (RT cA C W c)) (ha : PE X y (RE cA C W a)) (hb : PE X z (RE cA C W b)) : PE X (.IfExp x y z pos) (RE cA C W (.ife c a b)) :=
  PE.imp (pe_ifExp hc ha hb) fun σ H Q z => by
    obtain ⟨ι, M, ρ, h, rel, p⟩ := z
    simp only [evE] at p
    refine ⟨ι, M, ρ, h, rel, ?_⟩
    have e : ((evE C c ρ h).bind fun x h => (Out.of x.truth h).bind fun r h => if r = true then evE C a ρ h else evE C b ρ h) = ((evE C c ρ h).bind fun x h => Out.of x.truth h).bind fun r h => if r = true then evE C a ρ h else evE C b ρ h := by
      cases evE C c ρ h <;> rfl
    rw [e] at p
    refine p.bind.mono fun k h1 H1 ι1 M1 st hr q => ?_
    have rel1 := rel.later st hr
    cases k with
    | true => exact (show RE cA C W a σ H1 Q from ⟨ι1, M1, ρ, h1, rel1, q⟩)
    | false => exact (show RE cA C W b σ H1 Q from ⟨ι1, M1, ρ, h1, rel1, q⟩)

/-! ### and, or -/
theorem rb_one {op : PySem.BoolOp} {a : IR} {x : Expr} {pos : Pos} (ha : PE X x (RE cA C W a)) : PE X (.BoolOp op [x] pos) (RdE cA W (evB C op (.cons a .nil))) := (pe_one ha).imp fun σ H Q z => by
  obtain ⟨ι, M, ρ, h, rel, p⟩ := z
  simp only [evB] at p
  exact ⟨ι, M, ρ, h, rel, p⟩
theorem rb_cons {op : PySem.BoolOp} {a b : IR} {l : IRs} {x y : Expr} {es : List Expr} {pos : Pos} (ha : PE X x (RE cA C W a)) (hb : PE X (.BoolOp op (y :: es) pos) (RdE cA W (evB C op (.cons b l)))) :
    PE X (.BoolOp op (x :: y :: es) pos) (RdE cA W (evB C op (.cons a (.cons b l)))) := by
  cases op with
  | And =>
    refine (pe_and ha hb).imp fun σ H Q z => ?_
    obtain ⟨ι, M, ρ, h, rel, p⟩ := z
    rw [evB] at p
    refine RdE.go rel p fun d h1 H1 ι1 M1 v st rel1 r1 p1 => ?_
    obtain ⟨k, e, p3⟩ := p1.bind.of
    have p3 := p3 _ _ _ Stp.refl rel1.hr
    refine ⟨k, truth_of e r1, ?_⟩
    cases k with
    | true => exact (show RdE cA W (evB C .And (.cons b l)) σ H1 Q from ⟨ι1, M1, ρ, h1, rel1, p3⟩)
    | false => exact (show Q (.bl false) H1 from Post.now (show Post cA (Out.ok (D.bl false) h1) H1 ι1 M1 W _ from p3) rel1.hr _ (.bl _))
  | Or =>
    refine (pe_or ha hb).imp fun σ H Q z => ?_
    obtain ⟨ι, M, ρ, h, rel, p⟩ := z
    rw [evB] at p
    refine RdE.go rel p fun d h1 H1 ι1 M1 v st rel1 r1 p1 => ?_
    obtain ⟨k, e, p3⟩ := p1.bind.of
    have p3 := p3 _ _ _ Stp.refl rel1.hr
    refine ⟨k, truth_of e r1, ?_⟩
    cases k with
    | true => exact (show Q (.bl true) H1 from Post.now (show Post cA (Out.ok (D.bl true) h1) H1 ι1 M1 W _ from p3) rel1.hr _ (.bl _))
    | false => exact (show RdE cA W (evB C .Or (.cons b l)) σ H1 Q from ⟨ι1, M1, ρ, h1, rel1, p3⟩)
/-- the truth of .. -/
abbrev evT (o : Ev → Hd → Out D) : Ev → Hd → Out Bool := fun ρ h => (o ρ h).bind fun x h => Out.of x.truth h
theorem rw_one {op : PySem.BoolOp} {a : IR} {x : Expr} {pos : Pos} (ha : PT X x (RT cA C W a)) : PW X (.BoolOp op [x] pos) (RdT cA W (evT (evB C op (.cons a .nil)))) := by
  have k : ∀ σ H Q, RdT cA W (evT (evB C op (.cons a .nil))) σ H Q → RT cA C W a σ H Q := fun σ H Q z => by
    obtain ⟨ι, M, ρ, h, rel, p⟩ := z
    simp only [evT, evB] at p
    exact ⟨ι, M, ρ, h, rel, p⟩
  cases op with
  | And => exact (pw_and1 ha).imp k
  | Or => exact (pw_or1 ha).imp k
theorem rw_cons {op : PySem.BoolOp} {a b : IR} {l : IRs} {x y : Expr} {es : List Expr} {pos : Pos} (ha : PT X x (RT cA C W a)) (hb : PW X (.BoolOp op (y :: es) pos) (RdT cA W (evT (evB C op (.cons b l))))) :
    PW X (.BoolOp op (x :: y :: es) pos) (RdT cA W (evT (evB C op (.cons a (.cons b l))))) := by
  cases op with
  | And =>
    refine (pw_and ha hb).imp fun σ H Q z => ?_
    obtain ⟨ι, M, ρ, h, rel, p⟩ := z
    have e : evT (evB C .And (.cons a (.cons b l))) ρ h = ((evE C a ρ h).bind fun x h => Out.of x.truth h).bind fun r h => if r = true then evT (evB C .And (.cons b l)) ρ h else .ok false h := by
      simp only [evT]
      rw [evB]
      cases evE C a ρ h with
      | ok d h1 =>
        show ((Out.of d.truth h1).bind _).bind _ = (Out.of d.truth h1).bind _
        cases d.truth with
        | none => rfl
        | some k => cases k <;> rfl
      | _ => rfl
    rw [e] at p
    refine ⟨ι, M, ρ, h, rel, p.bind.mono fun k h1 H1 ι1 M1 st hr q => ?_⟩
    have rel1 := rel.later st hr
    cases k with
    | true => exact (show RdT cA W (evT (evB C .And (.cons b l))) σ H1 Q from ⟨ι1, M1, ρ, h1, rel1, q⟩)
    | false => exact (show Q false H1 from Post.now (show Post cA (Out.ok false h1) H1 ι1 M1 W _ from q) hr)
  | Or =>
    refine (pw_or ha hb).imp fun σ H Q z => ?_
    obtain ⟨ι, M, ρ, h, rel, p⟩ := z
    have e : evT (evB C .Or (.cons a (.cons b l))) ρ h = ((evE C a ρ h).bind fun x h => Out.of x.truth h).bind fun r h => if r = true then .ok true h else evT (evB C .Or (.cons b l)) ρ h := by
      simp only [evT]
      rw [evB]
      cases evE C a ρ h with
      | ok d h1 =>
        show ((Out.of d.truth h1).bind _).bind _ = (Out.of d.truth h1).bind _
        cases d.truth with
        | none => rfl
        | some k => cases k <;> rfl
      | _ => rfl
    rw [e] at p
    refine ⟨ι, M, ρ, h, rel, p.bind.mono fun k h1 H1 ι1 M1 st hr q => ?_⟩
    have rel1 := rel.later st hr
    cases k with
    | true => exact (show Q true H1 from Post.now (show Post cA (Out.ok true h1) H1 ι1 M1 W _ from q) hr)
    | false => exact (show RdT cA W (evT (evB C .Or (.cons b l))) σ H1 Q from ⟨ι1, M1, ρ, h1, rel1, q⟩)

/-! ### tests -/
theorem rt_val {a : IR} {x : Expr} (ha : PE X x (RE cA C W a)) (he : ∀ whole, isTrue x X.env whole = (do let v ← whole; standAt x.pos; holding [v] (truthy v))) : PT X x (RT cA C W a) :=
  PT.imp (pt_val ha he) fun σ H Q z => by
    obtain ⟨ι, M, ρ, h, rel, p⟩ := z
    refine RdE.go rel p fun d h1 H1 ι1 M1 v st rel1 r1 p1 => ?_
    obtain ⟨k, e, p3⟩ := p1.of
    exact ⟨k, truth_of e r1, p3 _ _ _ Stp.refl rel1.hr⟩
theorem rt_not {a : IR} {x : Expr} {pos : Pos} (ha : PT X x (RT cA C W a)) : PT X (.UnaryOp .Not x pos) (RT cA C W (.not a)) :=
  PT.imp (pt_not ha) fun σ H Q z => by
    obtain ⟨ι, M, ρ, h, rel, p⟩ := z
    have e : evT (evE C (.not a)) ρ h = ((evE C a ρ h).bind fun x h => Out.of x.truth h).bind fun r h => .ok (!r) h := by
      simp only [evT, evE]
      cases evE C a ρ h with
      | ok d h1 =>
        show (Out.of (d.truth.map _) h1).bind _ = (Out.of d.truth h1).bind _
        cases d.truth <;> rfl
      | _ => rfl
    have p : Post cA (evT (evE C (.not a)) ρ h) H ι M W _ := p
    rw [e] at p
    exact ⟨ι, M, ρ, h, rel, p.bind.mono fun k h1 H1 ι1 M1 st hr q => q.now hr⟩
theorem rt_of_cmp {a : IR} {x : Expr} {t : TE} (h : ∀ σ H Q, RE cA C W a σ H Q → t σ H Q) (ht : PT X x (tTest t)) : PT X x (RT cA C W a) :=
  PT.imp ht fun σ H Q z => by
    obtain ⟨ι, M, ρ, hh, rel, p⟩ := z
    refine h σ H _ (RdE.go rel p fun d h1 H1 ι1 M1 v st rel1 r1 p1 => ?_)
    obtain ⟨k, e, p3⟩ := p1.of
    exact ⟨k, truth_of e r1, p3 _ _ _ Stp.refl rel1.hr⟩
theorem rt_cmp {a b : IR} {x y : Expr} {op : CmpOp} {pos : Pos} (hu : X.A.units + 64 < cLine) (ha : PE X x (RV cA C W a)) (hb : PE X y (RV cA C W b)) (hm : behindInMarks op y = false) : PT X (.Compare x [op] [y] pos) (RT cA C W (.cmp op a b)) :=
  rt_of_cmp (fun _ _ _ z => rd_cmp z) (pt_cmpR (cmpR (cA := cA) op hu) ha hb hm)
theorem rt_chain {a b c : IR} {x y w : Expr} {op op' : CmpOp} {pos : Pos} (hu : X.A.units + 64 < cLine) (ha : PE X x (RE cA C W a)) (hb : PE X y (RE cA C W b)) (hc : PE X w (RE cA C W c)) (hm : lastMarks [op, op'] [y, w] = false) :
    PT X (.Compare x [op, op'] [y, w] pos) (RT cA C W (.chain op op' a b c)) :=
  rt_of_cmp (fun _ _ _ z => rd_chain z) (pt_chain (cmpR (cA := cA) op hu) (cmpR (cA := cA) op' hu) ha hb hc hm)
end
end Mini

/-! Mini 7: displays, calls, items, what is walked, targets, comprehensions. -/
namespace Mini
open PySem PySem.Spec L2
section
variable {cA : Str → Addr} {C : Orc} {W : XK} {X : Cx} {T : Nat → Option Df} {n : Nat} {cf : Cfg}

/-! ### argument lists -/
theorem star_of {e : Expr} {es : List Expr} {env : Env} (h : starB e = false) : starEach (e :: es) env = (false, eval e env) :: starEach es env := by
  cases e <;> first | rfl | cases h
theorem star_any {es : List Expr} {env : Env} {pos : Pos} (h : ∀ e ∈ es, starB e = false) : (backTo pos (starEach es env)).any (·.1) = false := by
  induction es with
  | nil => rfl
  | cons e es ih =>
    rw [star_of (h e List.mem_cons_self)]
    have q := ih fun e he => h e (List.mem_cons_of_mem _ he)
    show (false || (backTo pos (starEach es env)).any (·.1)) = false
    rw [q]
    rfl
theorem ra_nil : PA X [] (RA cA C W .nil) := PA.imp pa_nil fun σ H Q z => by
  obtain ⟨ι, M, ρ, h, rel, p⟩ := z
  exact p.now rel.hr _ .nil
theorem ra_cons {a : IR} {l : IRs} {e : Expr} {es : List Expr} (ha : PE X e (RE cA C W a)) (hl : PA X es (RA cA C W l)) (hs : starB e = false) : PA X (e :: es) (RA cA C W (.cons a l)) :=
  PA.imp (pa_cons ha hl (star_of hs)) fun σ H Q z => by
    obtain ⟨ι, M, ρ, h, rel, p⟩ := z
    simp only [evA] at p
    refine RdE.go rel p fun d h1 H1 ι1 M1 v st rel1 r1 p1 => ?_
    refine RdA.go rel1 p1 fun d2 h2 H2 ι2 M2 v2 st2 rel2 r2 p2 => ?_
    exact p2.now rel2.hr _ (.cons (Rp.later (st2.m rel1.hr.sub) _ _ r1) r2)
theorem RpVs.later {H H' : Hp} {ι M ι' M' : List Addr} (s : Stp H ι M H' ι' M') (hs : ∀ a ∈ ι, a ∈ M) : ∀ {ds : List D} {vs : List V}, RpVs H ι M ds vs → RpVs H' ι' M' ds vs
  | [], [], _ => trivial
  | _ :: _, _ :: _, r => ⟨r.1.later s hs, RpVs.later s hs r.2⟩
  | [], _ :: _, r => r.elim
  | _ :: _, [], r => r.elim
theorem rav_nil : PA X [] (RAV cA C W .nil) := PA.imp pa_nil fun σ H Q z => by
  obtain ⟨ι, M, ρ, h, rel, p⟩ := z
  exact p.now rel.hr _ trivial
theorem rav_cons {a : IR} {l : IRs} {e : Expr} {es : List Expr} (ha : PE X e (RV cA C W a)) (hl : PA X es (RAV cA C W l)) (hs : starB e = false) : PA X (e :: es) (RAV cA C W (.cons a l)) :=
  PA.imp (pa_cons ha hl (star_of hs)) fun σ H Q z => by
    obtain ⟨ι, M, ρ, h, rel, p⟩ := z
    simp only [evAV] at p
    refine RdV.go (o := fun ρ h => vw a ρ h (evE C a ρ h)) rel p fun d h1 H1 ι1 M1 v st rel1 r1 p1 => ?_
    refine RdAV.go rel1 p1 fun d2 h2 H2 ι2 M2 v2 st2 rel2 r2 p2 => ?_
    exact p2.now rel2.hr _ ⟨r1.later st2 rel1.hr.sub, r2⟩

/-! ### displays -/
def IRs.len : IRs → Nat
  | .nil => 0
  | .cons _ l => l.len + 1
theorem ok_bind {α β : Type} {o : Out α} {f : α → Hd → Out β} {b : β} {h' : Hd} (e : o.bind f = .ok b h') : ∃ a h, o = .ok a h ∧ f a h = .ok b h' := by
  cases o with
  | ok a h => exact ⟨a, h, rfl, e⟩
  | exc _ _ => cases e
  | bad => cases e
theorem ok_of {α : Type} {o : Option α} {b : α} {h h' : Hd} (e : Out.of o h = .ok b h') : o = some b ∧ h = h' := by
  cases o with
  | none => cases e
  | some a => cases e; exact ⟨rfl, rfl⟩
theorem evA_len : ∀ {l : IRs} {ρ : Ev} {h h' : Hd} {ds : List D}, evA C l ρ h = .ok ds h' → ds.length = l.len
  | .nil, _, _, _, _, e => by simp only [evA] at e; cases e; rfl
  | .cons a l, _, _, _, _, e => by
    simp only [evA] at e
    obtain ⟨d, h1, e1, e⟩ := ok_bind e
    obtain ⟨ds, h2, e2, e⟩ := ok_bind e
    cases e
    simp [IRs.len, evA_len e2]
theorem Post.and {α : Type} {o : Out α} {H : Hp} {ι M : List Addr} {R : α → Hd → Hp → List Addr → List Addr → Prop} {P : α → Hd → Prop} (p : Post cA o H ι M W R) (k : ∀ a h, o = .ok a h → P a h) : Post cA o H ι M W fun a h H' ι' M' => P a h ∧ R a h H' ι' M' := by
  cases o with
  | ok a h => exact fun H' ι' M' st hr => ⟨k a h rfl, p H' ι' M' st hr⟩
  | exc x h => exact p
  | bad => exact p
theorem thousand {n : Nat} (h : n ≤ 1000) : n ≤ sizeLine := Nat.le_of_lt (small1000 h)
theorem re_tup {l : IRs} {es : List Expr} {k : Nat} {pos : Pos} (ha : PA X es (RA cA C W l)) (hl : l.len ≤ 1000) : PE X (.Tuple es k pos) (RE cA C W (.tup l)) :=
  PE.imp (pe_tup ha) fun σ H Q z => by
    obtain ⟨ι, M, ρ, h, rel, p⟩ := z
    simp only [evE] at p
    refine ⟨ι, M, ρ, h, rel, (p.bind.and (P := fun a _ => a.length = l.len) fun _ _ e => evA_len e).mono fun ds h1 H1 ι1 M1 st hr q vs r => ?_⟩
    refine ⟨by rw [← r.length, q.1]; exact thousand hl, fun a ha => ?_⟩
    exact Gives.tup hr (gives q.2) r a ha
theorem re_lst {l : IRs} {es : List Expr} {pos : Pos} (ha : PA X es (RA cA C W l)) (hl : l.len ≤ 1000) : PE X (.List es pos) (RE cA C W (.lst l)) :=
  PE.imp (pe_lst ha) fun σ H Q z => by
    obtain ⟨ι, M, ρ, h, rel, p⟩ := z
    simp only [evE] at p
    refine ⟨ι, M, ρ, h, rel, (p.bind.and (P := fun a _ => a.length = l.len) fun _ _ e => evA_len e).mono fun ds h1 H1 ι1 M1 st hr q vs r => ?_⟩
    refine ⟨by rw [← r.length, q.1]; exact thousand hl, fun a ha => ?_⟩
    exact Gives.lst hr (gives q.2) r a ha
theorem re_lstM {l : IRs} {es : List Expr} {pos : Pos} (ha : PA X es (RA cA C W l)) (hl : l.len ≤ 1000) : PE X (.List es pos) (RE cA C W (.lstM l)) :=
  PE.imp (pe_lst ha) fun σ H Q z => by
    obtain ⟨ι, M, ρ, h, rel, p⟩ := z
    simp only [evE] at p
    refine ⟨ι, M, ρ, h, rel, (p.bind.and (P := fun a _ => a.length = l.len) fun _ _ e => evA_len e).mono fun ds h1 H1 ι1 M1 st hr q vs r => ?_⟩
    refine ⟨by rw [← r.length, q.1]; exact thousand hl, fun a ha => ?_⟩
    have sn := Stp.newI (ι := ι1) (M := M1) (o := .lst vs) ha
    refine q.2 _ _ _ sn (hr.newI ha ⟨vs, upd_same, Rps.later (sn.m hr.sub) _ _ r⟩) _ (.ref ?_)
    rw [hr.len]
    simp

/-! ### calls -/
theorem re_call0 {g : Nat} {x : Str} {p pos : Pos} (gd : Gd cA T n cf W X) (hg : g ∈ cf.fs) (hx : cf.nm g = x) (h1 : glB cf.sc x = true) (h2 : (x == ("__debug__" : Str)) = false) :
    PE X (.Call (.Name x p) [] [] pos) (RE cA (call T n) W (.call g .nil)) := by
  obtain ⟨f, fd, ps, e1, e2, e3, F⟩ := gd.fns g hg
  rw [hx] at e1
  refine PE.imp (pe_call0 F gd.room (gl_of gd h1) e1 e2 e3 .nil (passes_call (E := W) gd.tk fun _ _ _ _ z => z) h2) fun σ H Q z => ?_
  obtain ⟨ι, M, ρ, h, rel, p⟩ := z
  simp only [evE, evA] at p
  have p : Post cA (call T n g [] h) H ι M W _ := p
  show spD cA T n g ([] ++ []) H Q W
  have hd : ∃ fd', T g = some fd' ∧ ([] : List D).length = fd'.n := by
    cases n with
    | zero => exact p.elim
    | succ k =>
      simp only [call] at p
      split at p
      · rename_i fd' e
        refine ⟨fd', e, ?_⟩
        unfold runD at p
        split at p
        · rename_i q; exact of_decide_eq_true q
        · exact p.elim
      · exact p.elim
  obtain ⟨fd', e4, e5⟩ := hd
  exact ⟨ι, M, h, [], fd', e4, e5, rel.hr, .nil, p⟩
theorem re_call {g : Nat} {l : IRs} {x : Str} {e : Expr} {es : List Expr} {p pos : Pos} (gd : Gd cA T n cf W X) (hg : g ∈ cf.fs) (hx : cf.nm g = x) (h1 : glB cf.sc x = true) (h2 : (x == ("__debug__" : Str)) = false) (ha : PA X (e :: es) (RA cA (call T n) W l))
    (hs : ∀ y ∈ e :: es, starB y = false) : PE X (.Call (.Name x p) (e :: es) [] pos) (RE cA (call T n) W (.call g l)) := by
  obtain ⟨f, fd, ps, e1, e2, e3, F⟩ := gd.fns g hg
  rw [hx] at e1
  refine PE.imp (pe_call F gd.room (gl_of gd h1) e1 e2 e3 .nil (passes_call (E := W) gd.tk fun _ _ _ _ z => z) ha h2 (star_of (hs e List.mem_cons_self)) (star_any fun y hy => hs y (List.mem_cons_of_mem _ hy))) fun σ H Q z => ?_
  obtain ⟨ι, M, ρ, h, rel, p⟩ := z
  simp only [evE] at p
  refine RdA.go rel p fun ds h1 H1 ι1 M1 vs st rel1 r1 p1 => ?_
  rw [List.append_nil]
  have hd : ∃ fd', T g = some fd' ∧ ds.length = fd'.n := by
    cases n with
    | zero => exact p1.elim
    | succ k =>
      simp only [call] at p1
      split at p1
      · rename_i fd' e
        refine ⟨fd', e, ?_⟩
        unfold runD at p1
        split at p1
        · rename_i q; exact of_decide_eq_true q
        · exact p1.elim
      · exact p1.elim
  obtain ⟨fd', e4, e5⟩ := hd
  exact ⟨ι1, M1, h1, ds, fd', e4, e5, rel1.hr, r1, p1⟩

/-! ### built-in functions -/
theorem free_of (gd : Gd cA T n cf W X) {x : Str} (h : freeB cf x = true) : Gl X x ∧ X.mg x = none ∧ (x == ("__debug__" : Str)) = false := by
  obtain ⟨a, b⟩ := pair_and h
  obtain ⟨b, c⟩ := pair_and b
  exact ⟨gl_of gd a, gd.frees x (List.contains_iff_mem.mp b), nd_of c⟩
theorem boot_bi (f : Bi) : bootBuiltins f.nm = some f.val := by cases f <;> decide +kernel
theorem nm_bi (f : Bi) : f.nm ≠ "__name__" := by cases f <;> decide +kernel
theorem pe_bi {f : Bi} {e : Expr} {es : List Expr} {p pos : Pos} {r : List V → Hp → VK → Prop} {t : TA} (hc : CallR X f.val r) (hg : Gl X f.nm) (hm : X.mg f.nm = none) (hd : (f.nm == ("__debug__" : Str)) = false) (ha : PA X (e :: es) t) (hs : ∀ y ∈ e :: es, starB y = false) :
    PE X (.Call (.Name f.nm p) (e :: es) [] pos) (tCB r t) := by
  have s1 := star_of (es := es) (env := X.env) (hs e List.mem_cons_self)
  have s2 := star_any (env := X.env) (pos := pos) fun y hy => hs y (List.mem_cons_of_mem _ hy)
  have b := boot_bi f
  have nn := nm_bi f
  cases f <;> first | exact pe_callB hc hg hm b ha nn hd s1 s2 | exact pe_callTy hc hg hm b ha nn hd s1 s2
theorem re_bi {f : Bi} {l : IRs} {e : Expr} {es : List Expr} {p pos : Pos} (gd : Gd cA T n cf W X) (hf : freeB cf f.nm = true) (ha : PA X (e :: es) (RAV cA C W l)) (hs : ∀ y ∈ e :: es, starB y = false) : PE X (.Call (.Name f.nm p) (e :: es) [] pos) (RE cA C W (.bi f l)) := by
  obtain ⟨a, b, c⟩ := free_of gd hf
  refine PE.imp (pe_bi (biR (cA := cA) gd.calm f) a b c ha hs) fun σ H Q z => ?_
  obtain ⟨ι, M, ρ, h, rel, p⟩ := z
  simp only [evE] at p
  refine RdAV.go rel p fun ds h1 H1 ι1 M1 vs st rel1 r1 p1 => ?_
  obtain ⟨d, e1, p2⟩ := p1.of
  exact ⟨ι1, M1, h1, ds, d, rel1.hr, r1, e1, gives p2⟩
theorem boot_ty (t : Ty) : bootBuiltins (Str.ofString t.s) = some (.type t.s) := by cases t <;> decide +kernel
theorem nm_ty (t : Ty) : Str.ofString t.s ≠ "__name__" := by cases t <;> decide +kernel
theorem re_isi {t : Ty} {a : IR} {e : Expr} {p p2 pos : Pos} (gd : Gd cA T n cf W X) (h1 : freeB cf "isinstance" = true) (h2 : freeB cf (Str.ofString t.s) = true) (ha : PE X e (RE cA C W a)) (hs : starB e = false) :
    PE X (.Call (.Name "isinstance" p) [e, .Name (Str.ofString t.s) p2] [] pos) (RE cA C W (.isi t a)) := by
  obtain ⟨a1, b1, c1⟩ := free_of gd h1
  obtain ⟨a2, b2, c2⟩ := free_of gd h2
  have ht : PE X (.Name (Str.ofString t.s) p2) (tC (.ty t.s)) := pe_bltn a2 b2 (boot_ty t) rfl (nm_ty t) c2
  refine PE.imp (pe_callB call_isi a1 b1 (by decide +kernel) (pa_cons ha (pa_cons ht pa_nil) (star_of hs)) (by decide +kernel) c1 (star_of hs)) fun σ H Q z => ?_
  obtain ⟨ι, M, ρ, h, rel, p⟩ := z
  simp only [evE] at p
  refine RdE.go rel p fun d h1 H1 ι1 M1 v st rel1 r1 p1 => ?_
  obtain ⟨d3, e1, p3⟩ := p1.of
  obtain ⟨k, e2, rfl⟩ := map_some e1
  obtain ⟨u, ty, kk⟩ := tyX_of (K := X.K) r1 t e2
  exact ⟨v, .ty t.s, u, .type t.s, k, rfl, .ty _, ty, kk, p3 _ _ _ Stp.refl rel1.hr _ (.bl _)⟩

/-! ### items, slices -/
theorem plain_of {y : Expr} (h : plainIxB y = true) : PlainIx y := by
  cases y <;> first | (intro o i; rfl) | (cases h; done) | skip
  all_goals (rename_i c _ _; cases c <;> first | (intro o i; rfl) | cases h)
theorem re_ix {a i : IR} {x y : Expr} {pos : Pos} (ha : PE X x (RV cA C W a)) (hi : PE X y (RE cA C W i)) (hp : PlainIx y) : PE X (.Subscript x y pos) (RE cA C W (.ix a i)) :=
  PE.imp (pe_ix (ixR (cA := cA)) ha hi hp) fun σ H Q z => by
    obtain ⟨ι, M, ρ, h, rel, p⟩ := z
    simp only [evE] at p
    refine RdV.go (o := fun ρ h => vw a ρ h (evE C a ρ h)) rel p fun d h1 H1 ι1 M1 v st rel1 r1 p1 => ?_
    refine RdE.go rel1 p1 fun d2 h2 H2 ι2 M2 v2 st2 rel2 r2 p2 => ?_
    obtain ⟨d3, e, p3⟩ := p2.of
    exact ⟨ι2, M2, h2, d, d2, d3, rel2.hr, r1.later st2 rel1.hr.sub, r2, e, gives p3⟩
theorem ro_no : PO X none (RO' cA C W .no) := PO.imp po_none fun σ H Q z => by
  obtain ⟨ι, M, ρ, h, rel, p⟩ := z
  exact p.now rel.hr
theorem ro_yes {a : IR} {e : Expr} (ha : PE X e (RE cA C W a)) : PO X (some e) (RO' cA C W (.yes a)) := PO.imp (po_some ha) fun σ H Q z => by
  obtain ⟨ι, M, ρ, h, rel, p⟩ := z
  simp only [evO] at p
  refine RdE.go rel p fun d h1 H1 ι1 M1 v st rel1 r1 p1 => ?_
  cases d with
  | int i => cases r1; exact ⟨i, rfl, p1.now rel1.hr⟩
  | _ => exact p1.elim
theorem re_sl {a : IR} {lo hi : IO} {x : Expr} {l u : Option Expr} {p2 pos : Pos} (ha : PE X x (RV cA C W a)) (hl : PO X l (RO' cA C W lo)) (hu : PO X u (RO' cA C W hi)) : PE X (.Subscript x (.Slice l u none p2) pos) (RE cA C W (.sl a lo hi)) :=
  PE.imp (pe_slice (slR (cA := cA)) ha hl hu) fun σ H Q z => by
    obtain ⟨ι, M, ρ, h, rel, p⟩ := z
    simp only [evE] at p
    refine RdV.go (o := fun ρ h => vw a ρ h (evE C a ρ h)) rel p fun d h1 H1 ι1 M1 v st rel1 r1 p1 => ?_
    refine RdO.go rel1 p1 fun l h2 H2 ι2 M2 st2 rel2 p2 => ?_
    refine RdO.go rel2 p2 fun u h3 H3 ι3 M3 st3 rel3 p3 => ?_
    obtain ⟨d3, e, p4⟩ := p3.of
    exact ⟨ι3, M3, h3, d, d3, rel3.hr, (r1.later st2 rel1.hr.sub).later st3 rel2.hr.sub, e, gives p4⟩

/-! ### conditions of comprehensions -/
theorem rc_no : PTs X [] (RC cA C W .no) := PTs.imp pts_nil fun σ H Q z => by
  obtain ⟨ι, M, ρ, h, rel, p⟩ := z
  exact p.now rel.hr
theorem rc_yes {a : IR} {e : Expr} (ha : PT X e (RT cA C W a)) : PTs X [e] (RC cA C W (.yes a)) := PTs.imp (pts_one ha) fun σ H Q z => by
  obtain ⟨ι, M, ρ, h, rel, p⟩ := z
  simp only [evC] at p
  exact ⟨ι, M, ρ, h, rel, p⟩

/-! ### what is walked -/
theorem PI.when {tg e : Expr} {t' : TI} (k : ∀ σ H R, t' σ H R → ∃ t, PI X tg e t ∧ t σ H R) : PI X tg e t' := ⟨fun pins s σ H R I q => by
  obtain ⟨t, h, z⟩ := k _ _ _ q
  exact h.run pins s σ H R I z⟩
theorem kept_of {H H' : Hp} {ι M ι' M' : List Addr} {a : Addr} {u : HO} (r : Rd H a u) (nM : a ∉ M) (s : StpM H ι M H' ι' M') : Rd H' a u := rd_later s.keep r nM
theorem walkD_lst {K : PySem.W.Frag} {H : Hp} {ι M : List Addr} {a : Addr} {ds : List D} {vs : List V} (r : Rd H a (.lst vs)) (nM : a ∉ M) (q : Rps H ι M ds vs) : WalkD cA ds H ι M (Itl K a) := by
  refine ⟨fun H => SqL K H a vs, YAt vs, by rw [q.length]; exact walk_list, fun H' ι' M' s => .inl (kept_of r nM s), fun i H1 x H2 ι1 M1 h1 _ s hr y => ?_⟩
  obtain ⟨rfl, e⟩ := y
  obtain ⟨d, e1, r1⟩ := q.getV e
  exact ⟨Stp.refl, hr, d, e1, Rp.later s _ _ r1⟩
theorem walkD_tup {K : PySem.W.Frag} {H : Hp} {ι M : List Addr} {a : Addr} {ds : List D} {vs : List V} (r : Rd H a (.tup vs)) (nM : a ∉ M) (q : Rps H ι M ds vs) : WalkD cA ds H ι M (Itt K a) := by
  refine ⟨fun H => SqT K H a vs, YAt vs, by rw [q.length]; exact walk_tup, fun H' ι' M' s => .inl (kept_of r nM s), fun i H1 x H2 ι1 M1 h1 _ s hr y => ?_⟩
  obtain ⟨rfl, e⟩ := y
  obtain ⟨d, e1, r1⟩ := q.getV e
  exact ⟨Stp.refl, hr, d, e1, Rp.later s _ _ r1⟩
theorem walkD_rng {H : Hp} {ι M : List Addr} {lo : Int} {k : Nat} : WalkD cA (rngD lo k) H ι M (Itr lo k) := by
  have el : (rngD lo k).length = k := by simp [rngD]
  refine ⟨fun _ => True, YFn fun i => .int (lo + i), by rw [el]; exact walk_range, fun _ _ _ _ => trivial, fun i H1 x H2 ι1 M1 h1 hi s hr y => ?_⟩
  obtain ⟨rfl, rfl⟩ := y
  rw [el] at hi
  exact ⟨Stp.refl, hr, .int (lo + i), by simp [rngD, hi], .int _⟩
/-- a new pair, of what is known -/
theorem pair_new {H1 H2 : Hp} {ι M : List Addr} {h : Hd} {x : V} {f g : Nat → Option V} {i : Nat} (hr : HR cA H1 ι M h) (y : YPair f g i H1 x H2) : ∃ a b, f i = some a ∧ g i = some b ∧ Stp H1 ι M H2 ι M ∧ HR cA H2 ι M h ∧
    ∀ d e, Rp H1 ι M d a → Rp H1 ι M e b → Rp H2 ι M (.tup [d, e]) x := by
  obtain ⟨t, a, b, rfl, ht, rfl, e1, e2⟩ := y
  have st := Stp.new (ι := ι) (M := M) (o := .tup [a, b]) ht
  exact ⟨a, b, e1, e2, st, hr.new ht, fun d e p q => .tup (.inl upd_same) (fresh_not hr ht) (.cons (Rp.later (st.m hr.sub) _ _ p) (.cons (Rp.later (st.m hr.sub) _ _ q) .nil))⟩
theorem zip_at {xs ys : List D} {i : Nat} {d e : D} (h1 : xs[i]? = some d) (h2 : ys[i]? = some e) : ((xs.zip ys).map fun p => D.tup [p.1, p.2])[i]? = some (.tup [d, e]) := by
  simp [List.getElem?_map, List.getElem?_zip_eq_some, h1, h2]
theorem walkD_zipL {K : PySem.W.Frag} {H : Hp} {ι M : List Addr} {a b : Addr} {ds es : List D} {vs us : List V} (r : Rd H a (.lst vs)) (nM : a ∉ M) (q : Rps H ι M ds vs) (r2 : Rd H b (.lst us)) (nM2 : b ∉ M) (q2 : Rps H ι M es us) :
    WalkD cA ((ds.zip es).map fun p => .tup [p.1, p.2]) H ι M (Itz K a b) := by
  refine ⟨fun H => SqL K H a vs ∧ SqL K H b us, YPair (fun i => vs[i]?) (fun i => us[i]?), walk_zip (by simp [q.length, q2.length]), fun H' ι' M' s => ⟨.inl (kept_of r nM s), .inl (kept_of r2 nM2 s)⟩, fun i H1 x H2 ι1 M1 h1 _ s hr y => ?_⟩
  obtain ⟨u, v, e1, e2, st, hr2, k⟩ := pair_new hr y
  obtain ⟨d, f1, p1⟩ := q.getV e1
  obtain ⟨e, f2, p2⟩ := q2.getV e2
  exact ⟨st, hr2, _, zip_at f1 f2, k d e (Rp.later s _ _ p1) (Rp.later s _ _ p2)⟩
theorem walk_zipT {K : PySem.W.Frag} {a b : Addr} {xs ys : List V} : Walk (RZ.ItzT K a b) (min xs.length ys.length) (fun H => SqT K H a xs ∧ SqT K H b ys) (YPair (fun i => xs[i]?) (fun i => ys[i]?)) := by
  refine ⟨fun i H hi g => ?_, fun H g => ⟨xs, ys, g.1, g.2, by omega⟩, fun i H v H' _ g y => ?_⟩
  · have l1 : i < xs.length := by omega
    have l2 : i < ys.length := by omega
    exact ⟨xs, ys, xs[i], ys[i], g.1, g.2, by simp [l1], by simp [l2]⟩
  · obtain ⟨t, x, z, e1, e2, e3, k1, k2⟩ := y
    exact ⟨t, x, z, e1, e2, e3, k1 xs g.1, k2 ys g.2⟩
theorem walkD_zipT {K : PySem.W.Frag} {H : Hp} {ι M : List Addr} {a b : Addr} {ds es : List D} {vs us : List V} (r : Rd H a (.tup vs)) (nM : a ∉ M) (q : Rps H ι M ds vs) (r2 : Rd H b (.tup us)) (nM2 : b ∉ M) (q2 : Rps H ι M es us) :
    WalkD cA ((ds.zip es).map fun p => .tup [p.1, p.2]) H ι M (RZ.ItzT K a b) := by
  refine ⟨fun H => SqT K H a vs ∧ SqT K H b us, YPair (fun i => vs[i]?) (fun i => us[i]?), by simp only [List.length_map, List.length_zip, q.length, q2.length]; exact walk_zipT, fun H' ι' M' s => ⟨.inl (kept_of r nM s), .inl (kept_of r2 nM2 s)⟩, fun i H1 x H2 ι1 M1 h1 _ s hr y => ?_⟩
  obtain ⟨u, v, e1, e2, st, hr2, k⟩ := pair_new hr y
  obtain ⟨d, f1, p1⟩ := q.getV e1
  obtain ⟨e, f2, p2⟩ := q2.getV e2
  exact ⟨st, hr2, _, zip_at f1 f2, k d e (Rp.later s _ _ p1) (Rp.later s _ _ p2)⟩
theorem enm_at {xs : List D} {i : Nat} {d : D} (h1 : xs[i]? = some d) : (xs.zipIdx.map fun p => D.tup [.int p.2, p.1])[i]? = some (.tup [.int (i : Nat), d]) := by
  simp [List.getElem?_map, List.getElem?_zipIdx, h1]
theorem walkD_enmL {K : PySem.W.Frag} {H : Hp} {ι M : List Addr} {a : Addr} {ds : List D} {vs : List V} (r : Rd H a (.lst vs)) (nM : a ∉ M) (q : Rps H ι M ds vs) :
    WalkD cA (ds.zipIdx.map fun p => .tup [.int p.2, p.1]) H ι M (Ite K a) := by
  refine ⟨fun H => SqL K H a vs, YPair (fun i => some (.int (i : Nat))) (fun i => vs[i]?), by simp only [List.length_map, List.length_zipIdx, q.length]; exact walk_enum, fun H' ι' M' s => .inl (kept_of r nM s), fun i H1 x H2 ι1 M1 h1 _ s hr y => ?_⟩
  obtain ⟨u, v, e1, e2, st, hr2, k⟩ := pair_new hr y
  cases e1
  obtain ⟨d, f1, p1⟩ := q.getV e2
  exact ⟨st, hr2, _, enm_at f1, k _ d (.int _) (Rp.later s _ _ p1)⟩

theorem ri_seq {a : IR} {tg e : Expr} (ha : PE X e (RE cA C W a)) : PI X tg e (RI cA C W (.seq a)) := by
  refine PI.when (t' := RI cA C W (.seq a)) fun σ H R z => ?_
  obtain ⟨ι, M, ρ, h, rel, p⟩ := z
  simp only [evI] at p
  have ex : ∀ x h1, evE C a ρ h = .exc x h1 → ∃ t, PI X tg e t ∧ t σ H R := fun x h1 q => by
    rw [q] at p
    refine ⟨_, pi_list ha, ι, M, ρ, h, rel, ?_⟩
    rw [q]
    exact p
  cases q : evE C a ρ h with
  | ok d h1 =>
    rw [q] at p
    cases d with
    | lst xs =>
      refine ⟨_, pi_list ha, ι, M, ρ, h, rel, ?_⟩
      rw [q]
      intro H' ι' M' st hr v r
      cases r with
      | lst r n q => exact ⟨_, rfl, ⟨_, .inl r⟩, p H' ι' M' st hr _ (walkD_lst r n q)⟩
    | tup xs =>
      refine ⟨_, pi_tup ha, ι, M, ρ, h, rel, ?_⟩
      rw [q]
      intro H' ι' M' st hr v r
      cases r with
      | tup r n q => exact ⟨_, rfl, ⟨_, .inl r⟩, p H' ι' M' st hr _ (walkD_tup r n q)⟩
    | _ => exact p.elim
  | exc x h1 => exact ex x h1 q
  | bad => rw [q] at p; exact p.elim
theorem star1 {e : Expr} {env : Env} (h : starB e = false) : starEach [e] env = [(false, eval e env)] := star_of h
theorem small_of {i : Int} (h : small i = true) : -(2 ^ 62) ≤ i ∧ i < 2 ^ 62 := by
  obtain ⟨a, b⟩ := pair_and h
  exact ⟨of_decide_eq_true a, of_decide_eq_true b⟩
theorem ri_rng1 {a : IR} {tg e : Expr} {p pos : Pos} (gd : Gd cA T n cf W X) (hf : freeB cf "range" = true) (ha : PE X e (RE cA C W a)) (hs : starB e = false) : PI X tg (.Call (.Name "range" p) [e] [] pos) (RI cA C W (.rng1 a)) := by
  obtain ⟨a1, b1, _⟩ := free_of gd hf
  refine PI.when (t' := RI cA C W (.rng1 a)) fun σ H R z => ?_
  obtain ⟨ι, M, ρ, h, rel, p⟩ := z
  simp only [evI] at p
  refine ⟨_, pi_range1 a1 b1 (pa_cons ha pa_nil (star_of hs)) (star1 hs), ?_⟩
  refine RdE.go rel p fun d h1 H1 ι1 M1 v st rel1 r1 p1 => ?_
  cases d with
  | int j =>
    cases r1
    dsimp only at p1
    split at p1
    · rename_i q
      exact ⟨j, rfl, (small_of q).1, (small_of q).2, p1.now rel1.hr _ walkD_rng⟩
    · exact p1.elim
  | _ => exact p1.elim
theorem ri_rng2 {a b : IR} {tg e e2 : Expr} {p pos : Pos} (gd : Gd cA T n cf W X) (hf : freeB cf "range" = true) (ha : PE X e (RE cA C W a)) (hb : PE X e2 (RE cA C W b)) (hs : starB e = false) (hs2 : starB e2 = false) : PI X tg (.Call (.Name "range" p) [e, e2] [] pos) (RI cA C W (.rng2 a b)) := by
  obtain ⟨a1, b1, _⟩ := free_of gd hf
  refine PI.when (t' := RI cA C W (.rng2 a b)) fun σ H R z => ?_
  obtain ⟨ι, M, ρ, h, rel, p⟩ := z
  simp only [evI] at p
  refine ⟨_, pi_range2 a1 b1 (pa_cons ha (pa_cons hb pa_nil (star_of hs2)) (star_of hs)) (by rw [star_of hs, star_of hs2]; rfl) (star1 hs2), ?_⟩
  refine RdE.go rel p fun d h1 H1 ι1 M1 v st rel1 r1 p1 => ?_
  refine RdE.go rel1 p1 fun d2 h2 H2 ι2 M2 v2 st2 rel2 r2 p2 => ?_
  cases d with
  | int i =>
    cases d2 with
    | int j =>
      cases r1
      cases r2
      dsimp only at p2
      split at p2
      · rename_i q
        obtain ⟨q1, q2⟩ := pair_and q
        exact ⟨i, j, rfl, ⟨(small_of q1).1, (small_of q1).2, (small_of q2).1, (small_of q2).2⟩, p2.now rel2.hr _ walkD_rng⟩
      · exact p2.elim
    | _ => exact p2.elim
  | _ => exact p2.elim
theorem rps_rng {H : Hp} {ι M : List Addr} (n : Int) : Rps H ι M (rngD 0 n.toNat) (rgV 0 n) := by
  have e1 : rngD 0 n.toNat = ((List.range n.toNat).map fun k => (0 : Int) + (k : Nat)).map .int := by unfold rngD; rw [List.map_map]; rfl
  have e2 : rgV 0 n = ((List.range n.toNat).map fun k => (0 : Int) + (k : Nat)).map .int := by unfold rgV; rw [List.map_map, Int.sub_zero]; rfl
  rw [e1, e2]
  exact rps_ints _
theorem re_lrng {a : IR} {e : Expr} {p p2 pos pos2 : Pos} (gd : Gd cA T n cf W X) (h1 : freeB cf "list" = true) (h2 : freeB cf "range" = true) (ha : PE X e (RE cA C W a)) (hs : starB e = false) :
    PE X (.Call (.Name "list" p) [.Call (.Name "range" p2) [e] [] pos2] [] pos) (RE cA C W (.lrng a)) := by
  obtain ⟨a1, b1, _⟩ := free_of gd h1
  obtain ⟨a2, b2, _⟩ := free_of gd h2
  refine PE.imp (pe_listRg gd.calm a1 b1 (prg_1 a2 b2 ha (star_of hs))) fun σ H Q z => ?_
  obtain ⟨ι, M, ρ, h, rel, p⟩ := z
  simp only [evE] at p
  refine RdE.go rel p fun d h1 H1 ι1 M1 v st rel1 r1 p1 => ?_
  cases d with
  | int j =>
    cases r1
    dsimp only at p1
    split at p1
    · rename_i q
      obtain ⟨q1, q2⟩ := pair_and q
      have q1 := of_decide_eq_true q1
      have q2 := of_decide_eq_true q2
      exact ⟨j, rfl, RgOk.of_le (by omega) (by omega) (by omega) q1, Gives.lst rel1.hr (fun v H' st hr r => p1 H' ι1 M1 st hr v r) (rps_rng j)⟩
    · exact p1.elim
  | _ => exact p1.elim
theorem walkD_down {H : Hp} {ι M : List Addr} {lo : Int} {k : Nat} : WalkD cA (rngU lo k) H ι M (Itc lo (-1) k) := by
  have el : (rngU lo k).length = k := by simp [rngU]
  refine ⟨fun _ => True, YFn fun i => .int (lo + (i : Nat) * (-1)), by rw [el]; exact walk_rangeC, fun _ _ _ _ => trivial, fun i H1 x H2 ι1 M1 h1 hi s hr y => ?_⟩
  obtain ⟨rfl, rfl⟩ := y
  rw [el] at hi
  refine ⟨Stp.refl, hr, .int (lo + (i : Nat) * (-1)), ?_, .int _⟩
  have : lo + (i : Nat) * (-1) = lo - (i : Nat) := by omega
  simp [rngU, hi, this]
  omega
theorem ri_rng3 {a b c : IR} {tg e e2 e3 : Expr} {p pos : Pos} (gd : Gd cA T n cf W X) (hf : freeB cf "range" = true) (ha : PE X e (RE cA C W a)) (hb : PE X e2 (RE cA C W b)) (hc : PE X e3 (RE cA C W c)) (hs : starB e = false) (hs2 : starB e2 = false) (hs3 : starB e3 = false) :
    PI X tg (.Call (.Name "range" p) [e, e2, e3] [] pos) (RI cA C W (.rng3 a b c)) := by
  obtain ⟨a1, b1, _⟩ := free_of gd hf
  refine PI.when (t' := RI cA C W (.rng3 a b c)) fun σ H R z => ?_
  obtain ⟨ι, M, ρ, h, rel, p⟩ := z
  simp only [evI] at p
  refine ⟨_, pi_range3 a1 b1 (pa_cons ha (pa_cons hb (pa_cons hc pa_nil (star_of hs3)) (star_of hs2)) (star_of hs)) (star_of hs) (star_any fun y hy => by
    rcases List.mem_cons.mp hy with q | q
    · rw [q]; exact hs2
    · rw [List.mem_singleton.mp q]; exact hs3), ?_⟩
  refine RdE.go rel p fun d h1 H1 ι1 M1 v st rel1 r1 p1 => ?_
  refine RdE.go rel1 p1 fun d2 h2 H2 ι2 M2 v2 st2 rel2 r2 p2 => ?_
  refine RdE.go rel2 p2 fun d3 h3 H3 ι3 M3 v3 st3 rel3 r3 p3 => ?_
  cases d with
  | int i =>
    cases d2 with
    | int j =>
      cases d3 with
      | int k =>
        cases r1
        cases r2
        cases r3
        dsimp only at p3
        split at p3
        · rename_i q
          obtain ⟨q1, qq⟩ := pair_and q
          obtain ⟨q2, q3⟩ := pair_and qq
          have q3 := of_decide_eq_true q3
          subst q3
          exact ⟨i, j, -1, _, rfl, RgC.neg (small_of q1).1 (small_of q1).2 (small_of q2).1 (small_of q2).2, p3.now rel3.hr _ walkD_down⟩
        · exact p3.elim
      | _ => exact p3.elim
    | _ => exact p3.elim
  | _ => exact p3.elim
theorem ri_zip {a b : IR} {e e2 : Expr} {p pos tpos : Pos} {elts : List Expr} {kk : Nat} (gd : Gd cA T n cf W X) (hf : freeB cf "zip" = true) (ha : PE X e (RE cA C W a)) (hb : PE X e2 (RE cA C W b)) (hs : starB e = false) (hs2 : starB e2 = false) :
    PI X (.Tuple elts kk tpos) (.Call (.Name "zip" p) [e, e2] [] pos) (RI cA C W (.zip a b)) := by
  obtain ⟨a1, b1, _⟩ := free_of gd hf
  refine PI.when (t' := RI cA C W (.zip a b)) fun σ H R z => ?_
  obtain ⟨ι, M, ρ, h, rel, p⟩ := z
  simp only [evI] at p
  refine ⟨_, RZ.pi_zipA a1 b1 (pa_cons ha (pa_cons hb pa_nil (star_of hs2)) (star_of hs)) (star_of hs) (star_any fun y hy => by rw [List.mem_singleton.mp hy]; exact hs2), ?_⟩
  refine RdE.go rel p fun d h1 H1 ι1 M1 v st rel1 r1 p1 => ?_
  refine RdE.go rel1 p1 fun d2 h2 H2 ι2 M2 v2 st2 rel2 r2 p2 => ?_
  have r1 := Rp.later (st2.m rel1.hr.sub) _ _ r1
  cases d with
  | lst xs =>
    cases d2 with
    | lst ys =>
      cases r1 with
      | lst k1 n1 q1 =>
        cases r2 with
        | lst k2 n2 q2 => exact ⟨_, _, _, _, rfl, .inl ⟨.inl k1, .inl k2, p2.now rel2.hr _ (walkD_zipL k1 n1 q1 k2 n2 q2)⟩⟩
    | _ => exact p2.elim
  | tup xs =>
    cases d2 with
    | tup ys =>
      cases r1 with
      | tup k1 n1 q1 =>
        cases r2 with
        | tup k2 n2 q2 => exact ⟨_, _, _, _, rfl, .inr ⟨.inl k1, .inl k2, p2.now rel2.hr _ (walkD_zipT k1 n1 q1 k2 n2 q2)⟩⟩
    | _ => exact p2.elim
  | _ => exact p2.elim
theorem ri_enm {a : IR} {e : Expr} {p pos tpos : Pos} {elts : List Expr} {kk : Nat} (gd : Gd cA T n cf W X) (hf : freeB cf "enumerate" = true) (ha : PE X e (RE cA C W a)) (hs : starB e = false) :
    PI X (.Tuple elts kk tpos) (.Call (.Name "enumerate" p) [e] [] pos) (RI cA C W (.enm a)) := by
  obtain ⟨a1, b1, _⟩ := free_of gd hf
  refine PI.when (t' := RI cA C W (.enm a)) fun σ H R z => ?_
  obtain ⟨ι, M, ρ, h, rel, p⟩ := z
  simp only [evI] at p
  refine ⟨_, pi_enum a1 b1 (pa_cons ha pa_nil (star_of hs)) (star1 hs), ?_⟩
  refine RdE.go rel p fun d h1 H1 ι1 M1 v st rel1 r1 p1 => ?_
  cases d with
  | lst xs =>
    cases r1 with
    | lst k1 n1 q1 => exact ⟨_, _, rfl, .inl k1, p1.now rel1.hr _ (walkD_enmL k1 n1 q1)⟩
  | _ => exact p1.elim
end
end Mini

/-! Mini 8: targets, comprehensions. -/
namespace Mini
open PySem PySem.Spec L2
section
variable {cA : Str → Addr} {C : Orc} {W : XK} {X : Cx} {T : Nat → Option Df} {n : Nat} {cf : Cfg}

/-! ### fewer places that change -/
mutual
theorem Rp.less {H : Hp} {ι M M' : List Addr} (k : ∀ a ∈ M', a ∈ M) : ∀ (d : D) (v : V), Rp H ι M d v → Rp H ι M' d v
  | .non, _, h => by cases h; exact .non
  | .bl _, _, h => by cases h; exact .bl _
  | .int _, _, h => by cases h; exact .int _
  | .str _, _, h => by cases h; exact .str _
  | .tup ds, _, h => by
    cases h with
    | tup r n q => exact .tup r (fun z => n (k _ z)) (Rps.less k ds _ q)
  | .lst ds, _, h => by
    cases h with
    | lst r n q => exact .lst r (fun z => n (k _ z)) (Rps.less k ds _ q)
  | .ref n, _, h => by
    cases h with
    | ref e => exact .ref e
theorem Rps.less {H : Hp} {ι M M' : List Addr} (k : ∀ a ∈ M', a ∈ M) : ∀ (ds : List D) (vs : List V), Rps H ι M ds vs → Rps H ι M' ds vs
  | [], _, h => by cases h; exact .nil
  | d :: ds, _, h => by
    cases h with
    | cons a b => exact .cons (Rp.less k d _ a) (Rps.less k ds _ b)
end
theorem RO.less {H : Hp} {ι M M' : List Addr} (k : ∀ a ∈ M', a ∈ M) {a : Addr} {x : DO} (r : RO cA H ι M a x) : RO cA H ι M' a x := by
  cases x with
  | lst ds => obtain ⟨vs, q, r⟩ := r; exact ⟨vs, q, Rps.less k _ _ r⟩
  | dK ds => obtain ⟨vs, q, r⟩ := r; exact ⟨vs, q, r.1, Rps.less k _ _ r.2⟩
  | dT ds => obtain ⟨vs, q, r⟩ := r; exact ⟨vs, q, r.1, Rps.less k _ _ r.2⟩
  | ins c ds => obtain ⟨dx, vs, q, r⟩ := r; exact ⟨dx, vs, q, r.1, Rps.less k _ _ r.2⟩
theorem HR.less {H : Hp} {ι M M' : List Addr} {h : Hd} (r : HR cA H ι M h) (k : ∀ a ∈ M', a ∈ M) (hs : ∀ a ∈ ι, a ∈ M') : HR cA H ι M' h :=
  ⟨r.len, fun n o a q1 q2 => (r.obj n o a q1 q2).less k, r.nd, hs, fun a z => r.al a (k a z)⟩

/-! ### a slot is stored -/
theorem ER.put {H : Hp} {ι M : List Addr} {ρ : Ev} {σ : L2.St} {i : Nat} {x : Sl} {v : V} (e : ER H ι M ρ σ) (r : SR H ι M x v)
    (ap : ∀ j t a, x.isOwn = true → j ≠ i → ρ[j]? = some (some t) → t.isOwn = true → v = .ref a → σ[j]? = some (some (.ref a)) → False) : ER H ι M (ρ.set i (some x)) (σ.set i (some v)) := by
  have hl := e.len
  refine ⟨by simp [hl], fun j s q => ?_, fun j k s t a jk q1 q2 o1 o2 s1 s2 => ?_⟩
  · by_cases hj : i = j
    · subst hj
      have hi : i < ρ.length := by
        have := (List.getElem?_eq_some_iff.mp q).1
        simpa using this
      rw [List.getElem?_set_self hi] at q
      cases q
      exact ⟨v, by rw [List.getElem?_set_self (by omega)], r⟩
    · rw [List.getElem?_set_ne hj] at q ⊢
      exact e.sl j s q
  · by_cases hj : i = j
    · subst hj
      have hi : i < ρ.length := by
        have := (List.getElem?_eq_some_iff.mp q1).1
        simpa using this
      rw [List.getElem?_set_self hi] at q1
      rw [List.getElem?_set_self (by omega)] at s1
      cases q1
      cases s1
      rw [List.getElem?_set_ne jk] at q2 s2
      exact ap k t a o1 (Ne.symm jk) q2 o2 rfl s2
    · rw [List.getElem?_set_ne hj] at q1 s1
      by_cases hk : i = k
      · subst hk
        have hi : i < ρ.length := by
          have := (List.getElem?_eq_some_iff.mp q2).1
          simpa using this
        rw [List.getElem?_set_self hi] at q2
        rw [List.getElem?_set_self (by omega)] at s2
        cases q2
        cases s2
        exact ap j s a o2 jk q1 o1 rfl s1
      · rw [List.getElem?_set_ne hk] at q2 s2
        exact e.apart j k s t a jk q1 q2 o1 o2 s1 s2
theorem ER.val {H : Hp} {ι M : List Addr} {ρ : Ev} {σ : L2.St} {i : Nat} {d : D} {v : V} (e : ER H ι M ρ σ) (r : Rp H ι M d v) : ER H ι M (ρ.set i (some (.val d))) (σ.set i (some v)) :=
  e.put (x := .val d) r fun _ _ _ z => nomatch z
theorem ER.none {H : Hp} {ι M : List Addr} {ρ : Ev} {σ : L2.St} {i : Nat} (e : ER H ι M ρ σ) : ER H ι M (ρ.set i none) (σ.set i none) := by
  have hl := e.len
  have back : ∀ {j : Nat} {s : Sl}, (ρ.set i Option.none)[j]? = some (some s) → i ≠ j ∧ ρ[j]? = some (some s) := fun {j s} q => by
    by_cases hj : i = j
    · subst hj
      have hi : i < ρ.length := by
        have := (List.getElem?_eq_some_iff.mp q).1
        simpa using this
      rw [List.getElem?_set_self hi] at q
      cases q
    · rw [List.getElem?_set_ne hj] at q
      exact ⟨hj, q⟩
  refine ⟨by simp [hl], fun j s q => ?_, fun j k s t a jk q1 q2 o1 o2 s1 s2 => ?_⟩
  · obtain ⟨hj, q⟩ := back q
    rw [List.getElem?_set_ne hj]
    exact e.sl j s q
  · obtain ⟨hj, q1⟩ := back q1
    obtain ⟨hk, q2⟩ := back q2
    rw [List.getElem?_set_ne hj] at s1
    rw [List.getElem?_set_ne hk] at s2
    exact e.apart j k s t a jk q1 q2 o1 o2 s1 s2
theorem ER.wipe {H : Hp} {ι M : List Addr} {ρ : Ev} {σ : L2.St} (e : ER H ι M ρ σ) : ∀ vs : List Nat, ER H ι M (wipeE ρ vs) (wipe σ vs)
  | [] => e
  | _ :: vs => (ER.wipe e vs).none

mutual
theorem asg_len : ∀ {t : Tg} {d : D} {ρ ρ' : Ev}, asg t d ρ = some ρ' → ρ'.length = ρ.length
  | .nm i, _, _, _, e => by
    simp only [asg] at e
    split at e
    · cases e; simp
    · cases e
  | .tp l, d, _, _, e => by
    cases d with
    | tup ds => simp only [asg] at e; exact asgs_lenE e
    | _ => simp only [asg] at e; cases e
theorem asgs_lenE : ∀ {l : List Tg} {ds : List D} {ρ ρ' : Ev}, asgs l ds ρ = some ρ' → ρ'.length = ρ.length
  | [], [], _, _, e => by simp only [asgs] at e; cases e; rfl
  | [], _ :: _, _, _, e => by simp only [asgs] at e; cases e
  | _ :: _, [], _, _, e => by simp only [asgs] at e; cases e
  | _ :: _, _ :: _, _, _, e => by
    simp only [asgs] at e
    obtain ⟨ρ1, e1, e2⟩ := Option.bind_eq_some_iff.mp e
    rw [asgs_lenE e2, asg_len e1]
end
/-! ### targets -/
theorem loc_of (g : Gd cA T n cf W X) {x : Str} (h : locB cf x = true) : Loc X.env.scope x ∧ (X.fn x = true ∨ X.env.scope.names.lookup x = some .local) := by
  unfold locB at h
  rw [g.eS]
  split at h
  · rename_i q
    exact ⟨.inl q, .inr q⟩
  · rename_i q
    split at h
    · rename_i q2
      exact ⟨.inr q, .inl (g.fn x q2)⟩
    · cases h
  · cases h
theorem rg_nm {i : Nat} {x : Str} {pos : Pos} (g : Gd cA T n cf W X) (h1 : cf.N[i]? = some x) (h2 : locB cf x = true) : PG X (.Name x pos) (RG cA (.nm i)) := by
  obtain ⟨l1, l2⟩ := loc_of g h2
  refine PG.imp (pg_name (i := i) g.nd (by rw [g.eN]; exact h1) l1 l2) fun v σ H Q z => ?_
  obtain ⟨ι, M, ρ, h, d, ρ', rel, r, e, k⟩ := z
  simp only [asg] at e
  split at e
  · cases e
    refine k _ ⟨rel.hr, rel.er.val r⟩ fun j hj => ?_
    have hj : i ≠ j := fun z => hj (by simp [tgs, z])
    rw [List.getElem?_set_ne hj]
  · cases e
theorem rgs_nil : PGs X [] (RGs cA []) := PGs.imp pgs_nil fun vs σ H Q z => by
  obtain ⟨ι, M, ρ, h, d, ρ', rel, r, e, k⟩ := z
  cases r with
  | nil =>
    simp only [asgs] at e
    cases e
    exact ⟨rfl, k σ rel fun _ _ => rfl⟩
  | cons _ _ => simp only [asgs] at e; cases e
theorem asgEach_of {e : Expr} {es : List Expr} {env : Env} (h : starB e = false) : assignEach (e :: es) env = (false, assign e env) :: assignEach es env := by
  cases e <;> first | rfl | cases h
theorem rgs_cons {t : Tg} {l : List Tg} {e : Expr} {es : List Expr} (h1 : PG X e (RG cA t)) (h2 : PGs X es (RGs cA l)) (hs : starB e = false) : PGs X (e :: es) (RGs cA (t :: l)) :=
  PGs.imp (pgs_cons h1 h2 (by rw [asgEach_of hs]; rfl)) fun vs σ H Q z => by
    obtain ⟨ι, M, ρ, h, d, ρ', rel, r, e, k⟩ := z
    cases r with
    | nil => simp only [asgs] at e; cases e
    | cons r rr =>
      simp only [asgs] at e
      obtain ⟨ρ1, e1, e2⟩ := Option.bind_eq_some_iff.mp e
      refine ⟨_, _, rfl, ι, M, ρ, h, _, ρ1, rel, r, e1, fun σ1 rel1 ag1 => ?_⟩
      refine ⟨ι, M, ρ1, h, _, ρ', rel1, rr, e2, fun σ2 rel2 ag2 => k σ2 rel2 fun j hj => ?_⟩
      have hj1 : j ∉ tgs t := fun z => hj (by simp [tgss, z])
      have hj2 : j ∉ tgss l := fun z => hj (by simp [tgss, z])
      rw [ag2 j hj2, ag1 j hj1]
theorem asgs_len : ∀ {l : List Tg} {ds : List D} {ρ ρ' : Ev}, asgs l ds ρ = some ρ' → l.length = ds.length
  | [], [], _, _, _ => rfl
  | [], _ :: _, _, _, e => by simp only [asgs] at e; cases e
  | _ :: _, [], _, _, e => by simp only [asgs] at e; cases e
  | _ :: _, _ :: _, _, _, e => by
    simp only [asgs] at e
    obtain ⟨ρ1, _, e2⟩ := Option.bind_eq_some_iff.mp e
    simp [asgs_len e2]
theorem each_len {es : List Expr} {env : Env} (h : ∀ e ∈ es, starB e = false) : (assignEach es env).length = es.length ∧ (assignEach es env).findIdx? (·.1) = none := by
  induction es with
  | nil => exact ⟨rfl, rfl⟩
  | cons e es ih =>
    obtain ⟨a, b⟩ := ih fun x hx => h x (List.mem_cons_of_mem _ hx)
    rw [asgEach_of (h e List.mem_cons_self)]
    refine ⟨by simp [a], ?_⟩
    rw [List.findIdx?_cons]
    simp [b]
theorem rg_tp {l : List Tg} {es : List Expr} {k : Nat} {pos : Pos} (hc : X.calm = true) (h : PGs X es (RGs cA l)) (hs : ∀ e ∈ es, starB e = false) (hl : l.length = es.length) : PG X (.Tuple es k pos) (RG cA (.tp l)) :=
  PG.imp (pg_tup (n := es.length) hc h (each_len hs).1 (each_len hs).2) fun v σ H Q z => by
    obtain ⟨ι, M, ρ, h, d, ρ', rel, r, e, k⟩ := z
    cases d with
    | tup ds =>
      simp only [asg] at e
      cases r with
      | tup r nn q => exact ⟨_, _, rfl, .inl r, by rw [← q.length, ← asgs_len e, hl], ι, M, ρ, h, ds, ρ', rel, q, e, fun σ' rel' ag => k σ' rel' fun j hj => ag j (by simpa [tgs] using hj)⟩
    | _ => simp only [asg] at e; cases e
mutual
theorem sndG (g : Gd cA T n cf W X) : ∀ (t : Tg) (e : Expr), mG t cf e = true → PG X e (RG cA t)
  | .nm i, e, h => by
    cases e <;> first | (simp [mG] at h; done) | skip
    simp only [mG] at h
    obtain ⟨h1, h2⟩ := pair_and h
    exact rg_nm g (of_decide_eq_true h1) h2
  | .tp l, e, h => by
    cases e <;> first | (simp [mG] at h; done) | skip
    simp only [mG] at h
    obtain ⟨a, b, c⟩ := sndGs g l _ h
    exact rg_tp g.calm a b c
theorem sndGs (g : Gd cA T n cf W X) : ∀ (l : List Tg) (es : List Expr), mGs l cf es = true → PGs X es (RGs cA l) ∧ (∀ e ∈ es, starB e = false) ∧ l.length = es.length
  | [], es, h => by
    cases es with
    | nil => exact ⟨rgs_nil, fun _ z => by simp at z, rfl⟩
    | cons _ _ => simp [mGs] at h
  | t :: l, es, h => by
    cases es with
    | nil => simp [mGs] at h
    | cons e es =>
      simp only [mGs] at h
      obtain ⟨h1, h2⟩ := pair_and h
      obtain ⟨a, b, c⟩ := sndGs g l es h2
      have hs : starB e = false := by
        cases e <;> first | rfl | (cases t <;> simp [mG] at h1)
      refine ⟨rgs_cons (sndG g t e h1) a hs, fun x hx => ?_, by simp [c]⟩
      rcases List.mem_cons.mp hx with q | q
      · rw [q]; exact hs
      · exact b x q
end

/-! ### comprehensions -/
theorem wipe_get {σ : L2.St} {i : Nat} : ∀ {vs : List Nat}, i ∉ vs → (wipe σ vs)[i]? = σ[i]?
  | [], _ => rfl
  | v :: vs, h => by
    unfold wipe
    rw [List.getElem?_set_ne (fun z => h (by simp [z]))]
    exact wipe_get fun z => h (List.mem_cons_of_mem _ z)
theorem wipe_in {σ : L2.St} {i : Nat} : ∀ {vs : List Nat}, i ∈ vs → (wipe σ vs)[i]? = if i < σ.length then some none else none
  | [], h => by simp at h
  | v :: vs, h => by
    unfold wipe
    by_cases e : v = i
    · subst e
      by_cases hi : v < σ.length
      · rw [List.getElem?_set_self (by rw [wipe_length]; exact hi), if_pos hi]
      · rw [List.getElem?_eq_none (by simp [wipe_length]; omega), if_neg hi]
    · rw [List.getElem?_set_ne e]
      rcases List.mem_cons.mp h with q | q
      · exact absurd q.symm e
      · exact wipe_in q
theorem wipe_same {σ σ' : L2.St} {vs : List Nat} (hl : σ'.length = σ.length) (h : ∀ i, i ∉ vs → σ'[i]? = (wipe σ vs)[i]?) : wipe σ' vs = wipe σ vs := by
  refine List.ext_getElem? fun i => ?_
  by_cases hi : i ∈ vs
  · rw [wipe_in hi, wipe_in hi, hl]
  · rw [wipe_get hi, h i hi]
theorem Post.nox {α : Type} {o : Out α} {H : Hp} {ι M : List Addr} {R : α → Hd → Hp → List Addr → List Addr → Prop} (p : Post cA o.nox H ι M W R) : ∃ a h, o = .ok a h ∧ ∀ H' ι' M', Stp H ι M H' ι' M' → HR cA H' ι' M' h → R a h H' ι' M' := by
  cases o with
  | ok a h => exact ⟨a, h, rfl, p⟩
  | exc x h => exact p.elim
  | bad => exact p.elim
/-- a body that lets nothing out: read for any wish -/
theorem Post.any {α : Type} {o : Out α} {a : α} {h : Hd} {H : Hp} {ι M : List Addr} {R : α → Hd → Hp → List Addr → List Addr → Prop} (e : o = .ok a h) (k : ∀ H' ι' M', Stp H ι M H' ι' M' → HR cA H' ι' M' h → R a h H' ι' M') : Post cA o H ι M W R := by
  subst e
  exact k
abbrev nox : XK := fun _ _ _ => False
abbrev turnC (C : Orc) (vs : List Nat) (tg : Tg) (c : IO) (e : IR) (ρ : Ev) : D → Hd → Out (Option D) := fun x h => (Out.of (asg tg x (wipeE ρ vs)) h).bind fun ρ1 h => (evC C c ρ1 h).bind fun b h => if b then (evE C e ρ1 h).bind fun y h => .ok (some y) h else .ok none h
theorem drop_get {α : Type} {xs : List α} {i : Nat} {d : α} (e : xs[i]? = some d) : xs.drop i = d :: xs.drop (i + 1) := by
  obtain ⟨h, q⟩ := List.getElem?_eq_some_iff.mp e
  rw [List.drop_eq_getElem_cons h, q]
theorem re_comp {own : List (Str × Nat)} {tg : Tg} {it : IT} {c : IO} {e : IR} {t itx elt : Expr} {ifs : List Expr} {scope : Scope} (gd : Gd cA T n cf W X) (hi : PI X t itx (RI cA C W it)) (ok : BlkOk X.N X.env.scope scope own)
    (hg : ∀ (s : Shared) (H : Hp) (B : Addr) (cl : List (Str × Addr)) (fp : List Addr), PG (X.blk s H scope (compEnvC scope cl B X.env) fp) t (RG cA tg))
    (ht : ∀ (s : Shared) (H : Hp) (B : Addr) (cl : List (Str × Addr)) (fp : List Addr), PTs (X.blk s H scope (compEnvC scope cl B X.env) fp) ifs (RC cA C nox c))
    (he : ∀ (s : Shared) (H : Hp) (B : Addr) (cl : List (Str × Addr)) (fp : List Addr), PE (X.blk s H scope (compEnvC scope cl B X.env) fp) elt (RE cA C nox e))
    (ho : ∀ i ∈ tgs tg, i ∈ own.map (·.2)) (σ : L2.St) (H : Hp) (Q : VK) (z : RE cA C W (.comp own tg it c e) σ H Q) : tLc (RI cA C W it) (RG cA tg) (RC cA C nox c) (RE cA C nox e) (own.map (·.2)) σ H Q := by
  obtain ⟨ι, M, ρ, h, rel, p⟩ := z
  simp only [evE] at p
  refine ⟨ι, M, ρ, h, rel, p.bind.mono fun xs h1 H1 ι1 M1 st1 hr1 q J hJ B hB => ?_⟩
  have rel1 := rel.later st1 hr1
  obtain ⟨d, hE, e0, k⟩ := Post.nox q
  obtain ⟨ys, hE', e1, e2⟩ := ok_bind e0
  split at e2
  case isFalse => cases e2
  rename_i hys
  cases e2
  have hys := of_decide_eq_true hys
  obtain ⟨G, Y, wk, g0, y0⟩ := hJ
  have nB : B ∉ M1 := fresh_not hr1 hB
  have nBι : B ∉ ι1 := fun z => nB (hr1.sub _ z)
  have s0 := Stp.newM (ι := ι1) (M := M1) (o := .lst []) hB
  let F := turnC C (own.map (·.2)) tg c e ρ
  refine lc_it wk (fun i H => ∃ ι2 M2 h2 acc vacc rest, Stp H1 ι1 M1 H ι2 M2 ∧ HR cA H ι2 M2 h2 ∧ B ∈ M2 ∧ B ∉ ι2 ∧ H B = some (.lst vacc) ∧ Rps H ι2 M2 acc vacc ∧ loopC F (xs.drop i) h2 = .ok rest hE ∧ acc ++ rest = ys) ?_ ?_ ?_ ?_
  · exact ⟨ι1, B :: M1, h1, [], [], ys, s0, hr1.newM hB, List.mem_cons_self, nBι, upd_same, .nil, by simpa using e1, by simp⟩
  · rintro i H2 _ ⟨ι2, M2, h2, acc, vacc, rest, s2, hr2, _⟩
    exact g0 _ _ _ (s2.m hr1.sub)
  · rintro i x H2 H3 hin ⟨ι2, M2, h2, acc, vacc, rest, s2, hr2, bM, bι, hb, ra, el, es⟩ hy
    obtain ⟨s3, hr3, d, ed, rd⟩ := y0 i H2 x H3 ι2 M2 h2 hin (s2.m hr1.sub) hr2 hy
    rw [drop_get ed] at el
    simp only [loopC] at el
    obtain ⟨o, h4, f1, el1⟩ := ok_bind el
    obtain ⟨rest2, h5, f2, el2⟩ := ok_bind el1
    clear el el1
    obtain ⟨ρ1, h6, f3, f1⟩ := ok_bind f1
    obtain ⟨f3a, e3⟩ := ok_of f3
    subst e3
    obtain ⟨b, h7, f4, f1⟩ := ok_bind f1
    have rel3 : Rel cA H3 ι2 M2 (wipeE ρ (own.map (·.2))) h2 (wipe σ (own.map (·.2))) := ⟨hr3, ((rel1.er.later s2 hr1.sub).later s3 hr2.sub).wipe _⟩
    refine ⟨ι2, M2, _, h2, d, ρ1, rel3, rd, f3a, fun σ2 rel4 ag => ⟨?_, ?_⟩⟩
    · refine wipe_same ?_ fun j hj => ag j fun z => hj (ho j z)
      rw [← rel4.er.len, ← rel1.er.len]
      have a1 := rel3.er.len
      rw [wipe_length] at a1
      have a2 : ρ1.length = (wipeE ρ (own.map (·.2))).length := asg_len f3a
      rw [a2, a1, rel1.er.len]
    · have hb3 : H3 B = some (.lst vacc) := s3.keep _ _ hb bι
      have ra3 := Rps.later (s3.m hr2.sub) _ _ ra
      refine ⟨ι2, M2, ρ1, h2, rel4, Post.any f4 fun H4 ι4 M4 s4 hr4 => ?_⟩
      have bι4 : B ∉ ι4 := fun z => by
        obtain ⟨ν, q1, q2⟩ := s4.pre
        rw [q1, List.mem_append] at z
        rcases z with z | z
        · exact bι z
        · rw [q2 B z] at hb3; cases hb3
      have hb4 : H4 B = some (.lst vacc) := s4.keep _ _ hb3 bι
      have ra4 := Rps.later (s4.m hr3.sub) _ _ ra3
      have s14 := (s2.trans s3).trans s4
      cases b with
      | false =>
        have f1 : Out.ok (Option.none : Option D) h7 = Out.ok o h4 := f1
        injection f1 with g1 g2
        subst g1 g2
        cases el2
        exact ⟨ι4, M4, h7, acc, vacc, rest2, s14, hr4, s4.sub _ bM, bι4, hb4, ra4, f2, es⟩
      | true =>
        obtain ⟨y, h8, f5, f6⟩ := ok_bind (show (evE C e ρ1 h7).bind _ = _ from f1)
        refine (show RE cA C nox e σ2 H4 _ from ⟨ι4, M4, ρ1, h7, rel4.later s4 hr4, Post.any f5 fun H5 ι5 M5 s5 hr5 v rv => ?_⟩)
        have bι5 : B ∉ ι5 := fun z => by
          obtain ⟨ν, q1, q2⟩ := s5.pre
          rw [q1, List.mem_append] at z
          rcases z with z | z
          · exact bι4 z
          · rw [q2 B z] at hb4; cases hb4
        have hb5 : H5 B = some (.lst vacc) := s5.keep _ _ hb4 bι4
        have ra5 := Rps.later (s5.m hr4.sub) _ _ ra4
        have bM5 : B ∈ M5 := s5.sub _ (s4.sub _ bM)
        have s15 := s14.trans s5
        -- the new list is longer by one; nobody looks at it
        have up : StpM H5 ι5 M5 (upd H5 B (.lst (vacc ++ [v]))) ι5 M5 := ⟨fun a o q nq => by rw [upd_ne (fun z => nq (by rw [z]; exact bM5))]; exact q, ⟨[], by simp, fun _ z => by simp at z⟩, fun _ z => .inl z, fun _ z => z, fun a q => by
          by_cases z : a = B
          · subst z; rw [upd_same]; simp
          · rw [upd_ne z]; exact q⟩
        injection f6 with g1 g2
        subst g1 g2
        cases el2
        have hlen : vacc.length < 1000000 := by
          have q1 := ra5.length
          have q2 := congrArg List.length es
          simp at q2
          omega
        refine ⟨vacc, hb5, Nat.lt_of_lt_of_le hlen million, ι5, M5, h8, acc ++ [y], vacc ++ [v], rest2, ⟨fun a o q nq => ?_, s15.pre, s15.grow, s15.sub, fun a q => up.alive a (s15.alive a q)⟩, ?_, bM5, bι5, upd_same, Rps.later up _ _ (ra5.snoc rv), f2, by simpa using es⟩
        · have na : a ≠ B := fun z => by rw [z, hB] at q; cases q
          rw [upd_ne na]
          exact s15.keep a o q nq
        · refine ⟨hr5.len, fun m o a q1 q2 => ?_, hr5.nd, hr5.sub, fun a q => up.alive a (hr5.al a q)⟩
          have na : a ≠ B := fun z => bι5 (z ▸ List.mem_of_getElem? q2)
          exact (hr5.obj m o a q1 q2).later up (upd_ne na)
  · rintro H2 ⟨ι2, M2, h2, acc, vacc, rest, s2, hr2, bM, bι, hb, ra, el, es⟩
    rw [List.drop_length] at el
    cases el
    simp only [List.append_nil] at es
    subst es
    have m1 : ∀ a ∈ M2.filter (fun a => decide (a ≠ B)), a ∈ M2 := fun a z => (List.mem_filter.mp z).1
    have m2 : ∀ a, a ∈ M2 → a ≠ B → a ∈ M2.filter (fun a => decide (a ≠ B)) := fun a z q => List.mem_filter.mpr ⟨z, by simpa using q⟩
    refine k H2 ι2 (M2.filter fun a => decide (a ≠ B)) ⟨s2.keep, s2.pre, fun a z => s2.grow a (m1 a z), fun a z => m2 a (s2.sub a z) fun q => nB (q ▸ z), s2.alive⟩ (hr2.less m1 fun a z => m2 a (hr2.sub a z) fun q => bι (q ▸ z)) _ (.lst (.inl hb) (fun z => ?_) (Rps.less m1 _ _ ra))
    simpa using (List.mem_filter.mp z).2
end
end Mini

/-! Mini 9: a checked expression is read by its term's worth. -/
namespace Mini
open PySem PySem.Spec L2
section
variable {cA : Str → Addr} {T : Nat → Option Df} {n : Nat}
theorem not_t {b : Bool} (h : (!b) = true) : b = false := by simpa using h
theorem hu_gd {cf : Cfg} {W : XK} {X : Cx} (g : Gd cA T n cf W X) : X.A.units + 64 < cLine := g.room.units
theorem mA_len : ∀ {l : IRs} {cf : Cfg} {es : List Expr}, mA l cf es = true → l.len = es.length
  | .nil, _, [], _ => rfl
  | .nil, _, _ :: _, h => by simp [mA] at h
  | .cons _ _, _, [], h => by simp [mA] at h
  | .cons a l, cf, e :: es, h => by
    simp only [mA] at h
    obtain ⟨_, h⟩ := pair_and h
    obtain ⟨_, h⟩ := pair_and h
    simp [IRs.len, mA_len h]
theorem mA_star : ∀ {l : IRs} {cf : Cfg} {es : List Expr}, mA l cf es = true → ∀ e ∈ es, starB e = false
  | .nil, _, [], _ => fun _ z => by simp at z
  | .nil, _, _ :: _, h => by simp [mA] at h
  | .cons _ _, _, [], h => by simp [mA] at h
  | .cons a l, cf, e :: es, h => by
    simp only [mA] at h
    obtain ⟨_, h⟩ := pair_and h
    obtain ⟨h1, h⟩ := pair_and h
    intro x hx
    rcases List.mem_cons.mp hx with q | q
    · rw [q]; exact not_t h1
    · exact mA_star h x q
/-- where the truth of a checked expression is its value's -/
theorem plain_truth {e : Expr} {env : Env} (h : plainB e = true) : ∀ whole, isTrue e env whole = (do let v ← whole; standAt e.pos; holding [v] (truthy v)) := by
  cases e <;> first | (intro _; rfl) | cases h
theorem fold_of {e : Expr} {env : Env} (h : seqB e = true) : ∀ x, foldedSetIterable e env x = pure x := by
  cases e <;> first | (intro _; rfl) | cases h
/-- what may be tested -/
def testB : IR → Expr → Bool
  | .cmp .., _ => true
  | .chain .., _ => true
  | .boo .., _ => true
  | .not _, _ => true
  | _, e => plainB e
def truth_ok : Prop := True
mutual
/-- every test within is of a form that the walk serves -/
def tsE : IR → Expr → Bool
  | .bin _ a b, .BinOp x _ y _ => tsE a x && tsE b y
  | .neg a, .UnaryOp _ x _ => tsE a x
  | .not a, .UnaryOp _ x _ => tsE a x
  | .boo _ l, .BoolOp _ es _ => tsA l es
  | .cmp _ a b, .Compare x _ [y] _ => tsE a x && tsE b y
  | .chain _ _ a b c, .Compare x _ [y, z] _ => tsE a x && (tsE b y && tsE c z)
  | .ife c a b, .IfExp x y z _ => tsT c x && (tsE a y && tsE b z)
  | .tup l, .Tuple es _ _ => tsA l es
  | .lst l, .List es _ => tsA l es
  | .lstM l, .List es _ => tsA l es
  | .call _ l, .Call _ es _ _ => tsA l es
  | .lrng a, .Call _ [.Call _ [e] _ _] _ _ => tsE a e
  | .bi _ l, .Call _ es _ _ => tsA l es
  | .isi _ a, .Call _ [e, _] _ _ => tsE a e
  | .ix a i, .Subscript x y _ => tsE a x && tsE i y
  | .sl a lo hi, .Subscript x (.Slice l u _ _) _ => tsE a x && (tsO lo l && tsO hi u)
  | .comp _ _ it c e, .ListComp elt [⟨_, itx, ifs, _⟩] _ _ => tsI it itx && (tsC c ifs && tsE e elt)
  | _, _ => true
/-- a test -/
def tsT : IR → Expr → Bool
  | .not a, .UnaryOp _ x _ => tsT a x
  | .boo _ l, .BoolOp _ es _ => tsAT l es
  | .cmp _ a b, .Compare x _ [y] _ => tsE a x && tsE b y
  | .chain _ _ a b c, .Compare x _ [y, z] _ => tsE a x && (tsE b y && tsE c z)
  | .call _ l, .Call _ es _ _ => tsA l es
  | .bi _ l, .Call _ es _ _ => tsA l es
  | .isi _ a, .Call _ [e, _] _ _ => tsE a e
  | .ix a i, .Subscript x y _ => tsE a x && tsE i y
  | .var _, .Name _ _ => true
  | .k _, .Constant _ _ _ => true
  | _, _ => false
def tsA : IRs → List Expr → Bool
  | .cons a l, e :: es => tsE a e && tsA l es
  | _, _ => true
def tsAT : IRs → List Expr → Bool
  | .cons a l, e :: es => tsT a e && tsAT l es
  | _, _ => true
def tsO : IO → Option Expr → Bool
  | .yes a, some e => tsE a e
  | _, _ => true
def tsC : IO → List Expr → Bool
  | .yes a, [e] => tsT a e
  | _, _ => true
def tsI : IT → Expr → Bool
  | .seq a, e => tsE a e
  | .rng1 a, .Call _ [e] _ _ => tsE a e
  | .rng2 a b, .Call _ [e, e2] _ _ => tsE a e && tsE b e2
  | .zip a b, .Call _ [e, e2] _ _ => tsE a e && tsE b e2
  | .rng3 a b c, .Call _ [e, e2, e3] _ _ => tsE a e && (tsE b e2 && tsE c e3)
  | .enm a, .Call _ [e] _ _ => tsE a e
  | _, _ => true
end
theorem V_of {a : IR} {e : Expr} {cf : Cfg} {W : XK} {X : Cx} (g : Gd cA T n cf W X) (h : mE a cf e = true) (hE : PE X e (RE cA (call T n) W a)) : PE X e (RV cA (call T n) W a) := by
  cases a with
  | own i =>
    simp only [mE] at h
    split at h
    · obtain ⟨h1, ha⟩ := pair_and h
      obtain ⟨h2, h3⟩ := pair_and ha
      exact rv_own g (of_decide_eq_true h1) h2 h3
    · cases h
  | _ => exact RV.of (fun i z => nomatch z) hE
theorem tsT_plain {a : IR} {e : Expr} {W : XK} {X : Cx} (hp : plainB e = true) (hE : PE X e (RE cA (call T n) W a)) : PT X e (RT cA (call T n) W a) := rt_val hE (plain_truth hp)
mutual
theorem snd : ∀ (a : IR) (e : Expr) (cf : Cfg) (W : XK) (X : Cx), Gd cA T n cf W X → mE a cf e = true → (tsE a e = true → PE X e (RE cA (call T n) W a)) ∧ (tsT a e = true → PT X e (RT cA (call T n) W a))
  | .var i, e, cf, W, X, g, h => by
    simp only [mE] at h
    split at h
    · obtain ⟨h1, ha⟩ := pair_and h
      obtain ⟨h2, h3⟩ := pair_and ha
      exact ⟨fun _ => re_var g (of_decide_eq_true h1) h2 h3, fun _ => tsT_plain rfl (re_var g (of_decide_eq_true h1) h2 h3)⟩
    · cases h
  | .own i, e, cf, W, X, g, h => ⟨fun _ => re_own, fun t => by simp [tsT] at t⟩
  | .k c, e, cf, W, X, g, h => by
    simp only [mE] at h
    split at h
    · exact ⟨fun _ => re_k h, fun _ => tsT_plain rfl (re_k h)⟩
    · cases h
  | .glob y c, e, cf, W, X, g, h => by
    simp only [mE] at h
    split at h
    · obtain ⟨h1, ha⟩ := pair_and h
      obtain ⟨h2, hb⟩ := pair_and ha
      obtain ⟨h3, h4⟩ := pair_and hb
      clear h ha hb
      have e1 := of_decide_eq_true h1
      subst e1
      exact ⟨fun _ => re_glob g h2 (nd_of h3) (ckSame_eq h4), fun t => by simp [tsT] at t⟩
    · cases h
  | .bin op a b, e, cf, W, X, g, h => by
    simp only [mE] at h
    split at h
    · refine ⟨fun t => ?_, fun t => by simp [tsT] at t⟩
      simp only [tsE] at t
      obtain ⟨h1, ha⟩ := pair_and h
      obtain ⟨h2, h3⟩ := pair_and ha
      obtain ⟨t1, t2⟩ := pair_and t
      clear h ha
      have e1 := of_decide_eq_true h1
      subst e1
      exact re_bin (V_of g h2 ((snd a _ cf W X g h2).1 t1)) (V_of g h3 ((snd b _ cf W X g h3).1 t2))
    · cases h
  | .lrng a, e, cf, W, X, g, h => by
    simp only [mE] at h
    split at h
    · refine ⟨fun t => ?_, fun t => by simp [tsT] at t⟩
      simp only [tsE] at t
      obtain ⟨h1, h⟩ := pair_and h
      obtain ⟨h2, h⟩ := pair_and h
      obtain ⟨h3, h⟩ := pair_and h
      obtain ⟨h4, h⟩ := pair_and h
      obtain ⟨h5, h6⟩ := pair_and h
      have e1 := of_decide_eq_true h1
      have e2 := of_decide_eq_true h3
      clear h h1 h3
      subst e1
      subst e2
      exact re_lrng g h2 h4 ((snd a _ cf W X g h5).1 t) (not_t h6)
    · cases h
  | .neg a, e, cf, W, X, g, h => by
    simp only [mE] at h
    split at h
    · refine ⟨fun t => ?_, fun t => by simp [tsT] at t⟩
      simp only [tsE] at t
      exact re_neg ((snd a _ cf W X g h).1 t)
    · cases h
  | .not a, e, cf, W, X, g, h => by
    simp only [mE] at h
    split at h
    · refine ⟨fun t => ?_, fun t => ?_⟩
      · simp only [tsE] at t
        exact re_not ((snd a _ cf W X g h).1 t)
      · simp only [tsT] at t
        exact rt_not ((snd a _ cf W X g h).2 t)
    · cases h
  | .boo op l, e, cf, W, X, g, h => by
    simp only [mE] at h
    split at h
    · obtain ⟨h1, h2⟩ := pair_and h
      clear h
      have e1 := of_decide_eq_true h1
      subst e1
      refine ⟨fun t => ?_, fun t => ?_⟩
      · simp only [tsE] at t
        exact PE.imp ((sndL l _ cf W X g).2.1 op _ h2 t) fun σ H Q z => by
          obtain ⟨ι, M, ρ, hh, rel, p⟩ := z
          simp only [evE] at p
          exact ⟨ι, M, ρ, hh, rel, p⟩
      · simp only [tsT] at t
        exact PT.imp ((sndL l _ cf W X g).2.2 op _ h2 t).pt fun σ H Q z => by
          obtain ⟨ι, M, ρ, hh, rel, p⟩ := z
          simp only [evE] at p
          exact ⟨ι, M, ρ, hh, rel, p⟩
    · cases h
  | .cmp op a b, e, cf, W, X, g, h => by
    simp only [mE] at h
    split at h
    · obtain ⟨h1, ha⟩ := pair_and h
      obtain ⟨h2, hb⟩ := pair_and ha
      obtain ⟨h3, h4⟩ := pair_and hb
      clear h ha hb
      have e1 := of_decide_eq_true h1
      subst e1
      refine ⟨fun t => ?_, fun t => ?_⟩
      · simp only [tsE] at t
        obtain ⟨t1, t2⟩ := pair_and t
        exact re_cmp (hu_gd g) (V_of g h2 ((snd a _ cf W X g h2).1 t1)) (V_of g h3 ((snd b _ cf W X g h3).1 t2)) (not_t h4)
      · simp only [tsT] at t
        obtain ⟨t1, t2⟩ := pair_and t
        exact rt_cmp (hu_gd g) (V_of g h2 ((snd a _ cf W X g h2).1 t1)) (V_of g h3 ((snd b _ cf W X g h3).1 t2)) (not_t h4)
    · cases h
  | .chain op op' a b c, e, cf, W, X, g, h => by
    simp only [mE] at h
    split at h
    · obtain ⟨h1, ha⟩ := pair_and h
      obtain ⟨h2, hb⟩ := pair_and ha
      obtain ⟨h3, hc⟩ := pair_and hb
      obtain ⟨h4, hd⟩ := pair_and hc
      obtain ⟨h5, h6⟩ := pair_and hd
      clear h ha hb hc hd
      have e1 := of_decide_eq_true h1
      subst e1
      have e2 := of_decide_eq_true h2
      subst e2
      refine ⟨fun t => ?_, fun t => ?_⟩
      · simp only [tsE] at t
        obtain ⟨t1, ta⟩ := pair_and t
        obtain ⟨t2, t3⟩ := pair_and ta
        exact re_chain (hu_gd g) ((snd a _ cf W X g h3).1 t1) ((snd b _ cf W X g h4).1 t2) ((snd c _ cf W X g h5).1 t3) (not_t h6)
      · simp only [tsT] at t
        obtain ⟨t1, ta⟩ := pair_and t
        obtain ⟨t2, t3⟩ := pair_and ta
        exact rt_chain (hu_gd g) ((snd a _ cf W X g h3).1 t1) ((snd b _ cf W X g h4).1 t2) ((snd c _ cf W X g h5).1 t3) (not_t h6)
    · cases h
  | .ife c a b, e, cf, W, X, g, h => by
    simp only [mE] at h
    split at h
    · refine ⟨fun t => ?_, fun t => by simp [tsT] at t⟩
      simp only [tsE] at t
      obtain ⟨h1, ha⟩ := pair_and h
      obtain ⟨h2, h3⟩ := pair_and ha
      obtain ⟨t1, ta⟩ := pair_and t
      obtain ⟨t2, t3⟩ := pair_and ta
      exact re_ife ((snd c _ cf W X g h1).2 t1) ((snd a _ cf W X g h2).1 t2) ((snd b _ cf W X g h3).1 t3)
    · cases h
  | .tup l, e, cf, W, X, g, h => by
    simp only [mE] at h
    split at h
    · refine ⟨fun t => ?_, fun t => by simp [tsT] at t⟩
      simp only [tsE] at t
      obtain ⟨h1, h2⟩ := pair_and h
      exact re_tup ((sndL l _ cf W X g).1 h1 t).1 (by rw [mA_len h1]; exact of_decide_eq_true h2)
    · cases h
  | .lst l, e, cf, W, X, g, h => by
    simp only [mE] at h
    split at h
    · refine ⟨fun t => ?_, fun t => by simp [tsT] at t⟩
      simp only [tsE] at t
      obtain ⟨h1, h2⟩ := pair_and h
      exact re_lst ((sndL l _ cf W X g).1 h1 t).1 (by rw [mA_len h1]; exact of_decide_eq_true h2)
    · cases h
  | .lstM l, e, cf, W, X, g, h => by
    simp only [mE] at h
    split at h
    · refine ⟨fun t => ?_, fun t => by simp [tsT] at t⟩
      simp only [tsE] at t
      obtain ⟨h1, h2⟩ := pair_and h
      exact re_lstM ((sndL l _ cf W X g).1 h1 t).1 (by rw [mA_len h1]; exact of_decide_eq_true h2)
    · cases h
  | .call k l, e, cf, W, X, g, h => by
    simp only [mE] at h
    split at h
    · rename_i x p0 es p1
      obtain ⟨h1, ha⟩ := pair_and h
      obtain ⟨h2, hb⟩ := pair_and ha
      obtain ⟨h3, hc⟩ := pair_and hb
      obtain ⟨h4, h5⟩ := pair_and hc
      have hk := List.contains_iff_mem.mp h1
      have hx := of_decide_eq_true h2
      have hd := nd_of h4
      have st := mA_star h5
      have main : ∀ t : tsA l es = true, PE X (.Call (.Name x p0) es [] p1) (RE cA (call T n) W (.call k l)) := fun t => by
        have aa := ((sndL l _ cf W X g).1 h5 t).1
        cases es with
        | nil =>
          cases l with
          | nil => exact re_call0 g hk hx h3 hd
          | cons _ _ => simp [mA] at h5
        | cons e es => exact re_call g hk hx h3 hd aa st
      refine ⟨fun t => ?_, fun t => ?_⟩
      · simp only [tsE] at t
        exact main t
      · simp only [tsT] at t
        exact tsT_plain rfl (main t)
    · cases h
  | .bi f l, e, cf, W, X, g, h => by
    simp only [mE] at h
    split at h
    · rename_i x p0 es p1
      obtain ⟨h1, ha⟩ := pair_and h
      obtain ⟨h2, h3⟩ := pair_and ha
      have e1 := of_decide_eq_true h1
      clear h ha h1
      subst e1
      have st := mA_star h3
      have main : ∀ t : tsA l es = true, PE X (.Call (.Name f.nm p0) es [] p1) (RE cA (call T n) W (.bi f l)) := fun t => by
        have aa := ((sndL l _ cf W X g).1 h3 t).2
        cases es with
        | nil =>
          cases l with
          | nil => exact ⟨fun pins s σ H Q I z => by
              obtain ⟨ι, M, ρ, hh, rel, p⟩ := z
              simp only [evE, evAV] at p
              have p : Post cA (Out.of (biD hh f []) hh) H ι M W _ := p
              have e : biD hh f [] = none := by cases f <;> rfl
              rw [e] at p
              exact p.elim⟩
          | cons _ _ => simp [mA] at h3
        | cons e es => exact re_bi g h2 aa st
      refine ⟨fun t => ?_, fun t => ?_⟩
      · simp only [tsE] at t
        exact main t
      · simp only [tsT] at t
        exact tsT_plain rfl (main t)
    · cases h
  | .isi ty a, e, cf, W, X, g, h => by
    simp only [mE] at h
    split at h
    · obtain ⟨h1, ha⟩ := pair_and h
      obtain ⟨h2, hb⟩ := pair_and ha
      obtain ⟨h3, hc⟩ := pair_and hb
      obtain ⟨h4, hd⟩ := pair_and hc
      obtain ⟨h5, h6⟩ := pair_and hd
      have q1 := of_decide_eq_true h1
      have q2 := of_decide_eq_true h3
      clear h ha hb hc hd h1 h3
      subst q1
      subst q2
      refine ⟨fun t => ?_, fun t => ?_⟩
      · simp only [tsE] at t
        exact re_isi g h2 h4 ((snd a _ cf W X g h5).1 t) (not_t h6)
      · simp only [tsT] at t
        exact tsT_plain rfl (re_isi g h2 h4 ((snd a _ cf W X g h5).1 t) (not_t h6))
    · cases h
  | .ix a i, e, cf, W, X, g, h => by
    simp only [mE] at h
    split at h
    · obtain ⟨h1, ha⟩ := pair_and h
      obtain ⟨h2, h3⟩ := pair_and ha
      refine ⟨fun t => ?_, fun t => ?_⟩
      · simp only [tsE] at t
        obtain ⟨t1, t2⟩ := pair_and t
        exact re_ix (V_of g h1 ((snd a _ cf W X g h1).1 t1)) ((snd i _ cf W X g h2).1 t2) (plain_of h3)
      · simp only [tsT] at t
        obtain ⟨t1, t2⟩ := pair_and t
        exact tsT_plain rfl (re_ix (V_of g h1 ((snd a _ cf W X g h1).1 t1)) ((snd i _ cf W X g h2).1 t2) (plain_of h3))
    · cases h
  | .sl a lo hi, e, cf, W, X, g, h => by
    simp only [mE] at h
    split at h
    · refine ⟨fun t => ?_, fun t => by simp [tsT] at t⟩
      simp only [tsE] at t
      obtain ⟨h1, ha⟩ := pair_and h
      obtain ⟨h2, h3⟩ := pair_and ha
      obtain ⟨t1, ta⟩ := pair_and t
      obtain ⟨t2, t3⟩ := pair_and ta
      exact re_sl (V_of g h1 ((snd a _ cf W X g h1).1 t1)) (sndO lo _ cf W X g h2 t2) (sndO hi _ cf W X g h3 t3)
    · cases h
  | .comp own tg it c b, e, cf, W, X, g, h => by
    simp only [mE] at h
    split at h
    · refine ⟨fun t => ?_, fun t => by simp [tsT] at t⟩
      simp only [tsE] at t
      obtain ⟨h1, ha⟩ := pair_and h
      obtain ⟨h2, hb⟩ := pair_and ha
      obtain ⟨h3, hc⟩ := pair_and hb
      obtain ⟨h4, hd⟩ := pair_and hc
      obtain ⟨h5, he⟩ := pair_and hd
      obtain ⟨h6, h7⟩ := pair_and he
      obtain ⟨t1, ta⟩ := pair_and t
      obtain ⟨t2, t3⟩ := pair_and ta
      have bk := blkOk_by h1
      rw [← g.eN, ← g.eS] at bk
      refine PE.imp (pe_lc g.calm g.nd (sndI it _ _ cf W X g h4 t1) bk (fun s H B cl fp => sndG (g.blk s H _ B cl fp) tg _ h2) (fun s H B cl fp => sndC c _ _ _ _ (g.blk s H _ B cl fp) h5 t2)
        (fun s H B cl fp => (snd b _ _ _ _ (g.blk s H _ B cl fp) h6).1 t3) (fold_of h3)) fun σ H Q z => ?_
      exact re_comp g (sndI it _ _ cf W X g h4 t1) bk (fun s H B cl fp => sndG (g.blk s H _ B cl fp) tg _ h2) (fun s H B cl fp => sndC c _ _ _ _ (g.blk s H _ B cl fp) h5 t2)
        (fun s H B cl fp => (snd b _ _ _ _ (g.blk s H _ B cl fp) h6).1 t3) (fun i hi => List.contains_iff_mem.mp (List.all_eq_true.mp h7 i hi)) σ H Q z
    · cases h
theorem sndL : ∀ (l : IRs) (es : List Expr) (cf : Cfg) (W : XK) (X : Cx), Gd cA T n cf W X → (mA l cf es = true → tsA l es = true → PA X es (RA cA (call T n) W l) ∧ PA X es (RAV cA (call T n) W l)) ∧
    (∀ op pos, mB op l cf es = true → tsA l es = true → PE X (.BoolOp op es pos) (RdE cA W (evB (call T n) op l))) ∧ (∀ op pos, mB op l cf es = true → tsAT l es = true → PW X (.BoolOp op es pos) (RdT cA W (evT (evB (call T n) op l))))
  | .nil, es, cf, W, X, g => by
    refine ⟨fun h t => ?_, fun op pos h => ?_, fun op pos h => ?_⟩
    · cases es with
      | nil => exact ⟨ra_nil, rav_nil⟩
      | cons _ _ => simp [mA] at h
    · simp [mB] at h
    · simp [mB] at h
  | .cons a l, es, cf, W, X, g => by
    refine ⟨fun h t => ?_, fun op pos h t => ?_, fun op pos h t => ?_⟩
    · cases es with
      | nil => simp [mA] at h
      | cons e es =>
        simp only [mA] at h
        simp only [tsA] at t
        obtain ⟨h1, ha⟩ := pair_and h
        obtain ⟨h2, h3⟩ := pair_and ha
        obtain ⟨t1, t2⟩ := pair_and t
        have pe := (snd a e cf W X g h1).1 t1
        have pl := (sndL l es cf W X g).1 h3 t2
        exact ⟨ra_cons pe pl.1 (not_t h2), rav_cons (V_of g h1 pe) pl.2 (not_t h2)⟩
    · cases l with
      | nil =>
        rcases es with _ | ⟨e, _ | ⟨e2, es⟩⟩
        · simp [mB] at h
        · simp only [mB] at h
          simp only [tsA] at t
          exact rb_one ((snd a e cf W X g h).1 (pair_and t).1)
        · simp [mB] at h
      | cons b l =>
        rcases es with _ | ⟨e, _ | ⟨e2, es⟩⟩
        · simp [mB] at h
        · simp [mB] at h
        · simp only [mB] at h
          rw [tsA] at t
          obtain ⟨h1, h2⟩ := pair_and h
          obtain ⟨t1, t2⟩ := pair_and t
          exact rb_cons ((snd a e cf W X g h1).1 t1) ((sndL (.cons b l) (e2 :: es) cf W X g).2.1 op pos h2 t2)
    · cases l with
      | nil =>
        rcases es with _ | ⟨e, _ | ⟨e2, es⟩⟩
        · simp [mB] at h
        · simp only [mB] at h
          simp only [tsAT] at t
          exact rw_one ((snd a e cf W X g h).2 (pair_and t).1)
        · simp [mB] at h
      | cons b l =>
        rcases es with _ | ⟨e, _ | ⟨e2, es⟩⟩
        · simp [mB] at h
        · simp [mB] at h
        · simp only [mB] at h
          rw [tsAT] at t
          obtain ⟨h1, h2⟩ := pair_and h
          obtain ⟨t1, t2⟩ := pair_and t
          exact rw_cons ((snd a e cf W X g h1).2 t1) ((sndL (.cons b l) (e2 :: es) cf W X g).2.2 op pos h2 t2)
theorem sndO : ∀ (l : IO) (e : Option Expr) (cf : Cfg) (W : XK) (X : Cx), Gd cA T n cf W X → mO l cf e = true → tsO l e = true → PO X e (RO' cA (call T n) W l)
  | .no, e, cf, W, X, g, h, _ => by
    cases e with
    | none => exact ro_no
    | some _ => simp [mO] at h
  | .yes a, e, cf, W, X, g, h, t => by
    cases e with
    | none => simp [mO] at h
    | some e =>
      simp only [mO] at h
      simp only [tsO] at t
      exact ro_yes ((snd a e cf W X g h).1 t)
theorem sndC : ∀ (l : IO) (e : List Expr) (cf : Cfg) (W : XK) (X : Cx), Gd cA T n cf W X → mC l cf e = true → tsC l e = true → PTs X e (RC cA (call T n) W l)
  | .no, e, cf, W, X, g, h, _ => by
    cases e with
    | nil => exact rc_no
    | cons _ _ => simp [mC] at h
  | .yes a, e, cf, W, X, g, h, t => by
    rcases e with _ | ⟨e, _ | ⟨e2, es⟩⟩
    · simp [mC] at h
    · simp only [mC] at h
      simp only [tsC] at t
      exact rc_yes ((snd a e cf W X g h).2 t)
    · simp [mC] at h
theorem sndI : ∀ (l : IT) (t e : Expr) (cf : Cfg) (W : XK) (X : Cx), Gd cA T n cf W X → mI l cf t e = true → tsI l e = true → PI X t e (RI cA (call T n) W l)
  | .seq a, x, e, cf, W, X, g, h, t => by
    simp only [mI] at h
    simp only [tsI] at t
    exact ri_seq ((snd a e cf W X g (pair_and h).1).1 t)
  | .rng1 a, x, e, cf, W, X, g, h, t => by
    simp only [mI] at h
    split at h
    · obtain ⟨h1, ha⟩ := pair_and h
      obtain ⟨h2, hb⟩ := pair_and ha
      obtain ⟨h3, h4⟩ := pair_and hb
      simp only [tsI] at t
      have q1 := of_decide_eq_true h1
      clear h h1 ha hb
      subst q1
      exact ri_rng1 g h2 ((snd a _ cf W X g h3).1 t) (not_t h4)
    · cases h
  | .rng2 a b, x, e, cf, W, X, g, h, t => by
    simp only [mI] at h
    split at h
    · obtain ⟨h1, ha⟩ := pair_and h
      obtain ⟨h2, hb⟩ := pair_and ha
      obtain ⟨h3, hc⟩ := pair_and hb
      obtain ⟨h4, hd⟩ := pair_and hc
      obtain ⟨h5, h6⟩ := pair_and hd
      simp only [tsI] at t
      obtain ⟨t1, t2⟩ := pair_and t
      have q1 := of_decide_eq_true h1
      clear h h1 ha hb hc hd
      subst q1
      exact ri_rng2 g h2 ((snd a _ cf W X g h3).1 t1) ((snd b _ cf W X g h4).1 t2) (not_t h5) (not_t h6)
    · cases h
  | .rng3 a b c, x, e, cf, W, X, g, h, t => by
    simp only [mI] at h
    split at h
    · obtain ⟨h1, h⟩ := pair_and h
      obtain ⟨h2, h⟩ := pair_and h
      obtain ⟨h3, h⟩ := pair_and h
      obtain ⟨h4, h⟩ := pair_and h
      obtain ⟨h5, h⟩ := pair_and h
      obtain ⟨h6, h⟩ := pair_and h
      obtain ⟨h7, h8⟩ := pair_and h
      simp only [tsI] at t
      obtain ⟨t1, t⟩ := pair_and t
      obtain ⟨t2, t3⟩ := pair_and t
      have q1 := of_decide_eq_true h1
      clear h h1 t
      subst q1
      exact ri_rng3 g h2 ((snd a _ cf W X g h3).1 t1) ((snd b _ cf W X g h4).1 t2) ((snd c _ cf W X g h5).1 t3) (not_t h6) (not_t h7) (not_t h8)
    · cases h
  | .zip a b, x, e, cf, W, X, g, h, t => by
    simp only [mI] at h
    split at h
    · obtain ⟨h1, ha⟩ := pair_and h
      obtain ⟨h2, hb⟩ := pair_and ha
      obtain ⟨h3, hc⟩ := pair_and hb
      obtain ⟨h4, hd⟩ := pair_and hc
      obtain ⟨h5, h6⟩ := pair_and hd
      simp only [tsI] at t
      obtain ⟨t1, t2⟩ := pair_and t
      have q1 := of_decide_eq_true h1
      clear h h1 ha hb hc hd
      subst q1
      exact ri_zip g h2 ((snd a _ cf W X g h3).1 t1) ((snd b _ cf W X g h4).1 t2) (not_t h5) (not_t h6)
    · cases h
  | .enm a, x, e, cf, W, X, g, h, t => by
    simp only [mI] at h
    split at h
    · obtain ⟨h1, ha⟩ := pair_and h
      obtain ⟨h2, hb⟩ := pair_and ha
      obtain ⟨h3, h4⟩ := pair_and hb
      simp only [tsI] at t
      have q1 := of_decide_eq_true h1
      clear h h1 ha hb
      subst q1
      exact ri_enm g h2 ((snd a _ cf W X g h3).1 t) (not_t h4)
    · cases h
end
end
end Mini

/-! Mini 10: statements. -/
namespace Mini
open PySem PySem.Spec L2
/-! ### a tuple of names from a tuple of values -/
def namesOn (sc : Scope) (ts : List Expr) : List Str := ts.filterMap fun
  | .Name id pos => if sc.names.lookup id == some .local && pos.line == (ts.head?.map (·.pos.line)).getD 0 then some id else none
  | _ => none
def swapO (sc : Scope) (ts vs : List Expr) : Option (Option (List Str)) :=
  if (!(ts.length == 2 || ts.length == 3) || vs.length != ts.length) = true then some none
  else if vs.any starB = true then some none
  else if ((namesOn sc ts).length != ts.length || (namesOn sc ts).eraseDups.length != (namesOn sc ts).length) = true then some none
  else if vs.all (foldedForSure 8) = true then some none
  else if vs.all (constantsAlone 8) = true then none
  else some (some (namesOn sc ts))
theorem swap_of {ts vs : List Expr} {k k2 : Nat} {p p2 : Pos} {env : Env} {r : Option (List Str)} (hk : env.scope.kind = .function) (h : swapO env.scope ts vs = some r) : swappedStores [.Tuple ts k p] (.Tuple vs k2 p2) env = pure r := by
  have hb : (env.blockKind != ScopeKind.function) = false := by unfold Env.blockKind; rw [hk]; rfl
  have hn : (ts.filterMap fun
    | .Name id pos => if env.kindOf id == some .local && pos.line == (ts.head?.map (·.pos.line)).getD 0 then some id else none
    | _ => none) = namesOn env.scope ts := rfl
  unfold swappedStores
  simp only [hb, Bool.or_false]
  unfold swapO at h
  by_cases c1 : (!(ts.length == 2 || ts.length == 3) || vs.length != ts.length) = true
  · rw [if_pos c1] at h
    cases h
    exact if_pos c1
  rw [if_neg c1] at h
  refine (if_neg c1).trans ?_
  by_cases c2 : vs.any starB = true
  · rw [if_pos c2] at h
    cases h
    exact if_pos c2
  rw [if_neg c2] at h
  refine (if_neg c2).trans ?_
  by_cases c3 : ((namesOn env.scope ts).length != ts.length || (namesOn env.scope ts).eraseDups.length != (namesOn env.scope ts).length) = true
  · rw [if_pos c3] at h
    cases h
    exact if_pos c3
  rw [if_neg c3] at h
  refine (if_neg c3).trans ?_
  by_cases c4 : vs.all (foldedForSure 8) = true
  · rw [if_pos c4] at h
    cases h
    exact if_pos c4
  rw [if_neg c4] at h
  refine (if_neg c4).trans ?_
  by_cases c5 : vs.all (constantsAlone 8) = true
  · rw [if_pos c5] at h
    cases h
  rw [if_neg c5] at h
  refine (if_neg c5).trans ?_
  cases h
  rfl

/-! ### readings of statements -/
/-- a place that a slot holds alone -/
def OwnA (ρ : Ev) (σ : L2.St) (a : Addr) : Prop := ∃ (i : Nat) (s : Sl), ρ[i]? = some (some s) ∧ s.isOwn = true ∧ σ[i]? = some (some (V.ref a))
structure StpR (H : Hp) (ι M : List Addr) (ρ : Ev) (σ : L2.St) (H' : Hp) (ι' M' : List Addr) : Prop where
  keep : ∀ a o, H a = some o → a ∉ ι → ¬ OwnA ρ σ a → H' a = some o
  pre : ∃ ν, ι' = ι ++ ν ∧ ∀ b ∈ ν, H b = none
  grow : ∀ a ∈ M', a ∈ M ∨ H a = none
  sub : ∀ a ∈ M, ¬ OwnA ρ σ a → a ∈ M'
  alive : ∀ a, H a ≠ none → H' a ≠ none
structure StpS (H : Hp) (ι M : List Addr) (ρ : Ev) (σ : L2.St) (H' : Hp) (ι' M' : List Addr) (ρ' : Ev) (σ' : L2.St) : Prop extends StpR H ι M ρ σ H' ι' M' where
  own : ∀ a, OwnA ρ' σ' a → OwnA ρ σ a ∨ H a = none
  all : ∀ a ∈ M, a ∈ M'
section
variable {H H1 H2 : Hp} {ι M ι1 M1 ι2 M2 : List Addr} {ρ ρ1 ρ2 : Ev} {σ σ1 σ2 : L2.St}
theorem Stp.r (s : Stp H ι M H1 ι1 M1) : StpR H ι M ρ σ H1 ι1 M1 := ⟨fun a o e n _ => s.keep a o e n, s.pre, s.grow, fun a z _ => s.sub a z, s.alive⟩
theorem Stp.s (s : Stp H ι M H1 ι1 M1) : StpS H ι M ρ σ H1 ι1 M1 ρ σ := ⟨s.r, fun _ z => .inl z, s.sub⟩
theorem StpS.transR (al : ∀ a ∈ M, H a ≠ none) (s : StpS H ι M ρ σ H1 ι1 M1 ρ1 σ1) (t : StpR H1 ι1 M1 ρ1 σ1 H2 ι2 M2) : StpR H ι M ρ σ H2 ι2 M2 := by
  obtain ⟨ν, e1, n1⟩ := s.pre
  obtain ⟨ν2, e2, n2⟩ := t.pre
  have nown : ∀ a, H a ≠ none → ¬ OwnA ρ σ a → ¬ OwnA ρ1 σ1 a := fun a h n z => (s.own a z).elim n h
  refine ⟨fun a o e n no => t.keep a o (s.keep a o e n no) (fun z => ?_) (nown a (by rw [e]; simp) no), ⟨ν ++ ν2, by rw [e2, e1, List.append_assoc], fun b hb => ?_⟩, fun a z => ?_, fun a z n => t.sub a (s.sub a z n) (nown a (al a z) n), fun a z => t.alive a (s.alive a z)⟩
  · rw [e1, List.mem_append] at z
    rcases z with z | z
    · exact n z
    · rw [n1 a z] at e; cases e
  · rcases List.mem_append.mp hb with q | q
    · exact n1 b q
    · exact none_back s.alive (n2 b q)
  · rcases t.grow a z with q | q
    · exact s.grow a q
    · exact .inr (none_back s.alive q)
theorem StpS.trans (al : ∀ a ∈ M, H a ≠ none) (s : StpS H ι M ρ σ H1 ι1 M1 ρ1 σ1) (t : StpS H1 ι1 M1 ρ1 σ1 H2 ι2 M2 ρ2 σ2) : StpS H ι M ρ σ H2 ι2 M2 ρ2 σ2 :=
  ⟨s.transR al t.toStpR, fun a z => (t.own a z).elim (s.own a) fun q => .inr (none_back s.alive q), fun a z => t.all a (s.all a z)⟩
/-- where what slots hold alone is among M -/
theorem StpR.m (s : StpR H ι M ρ σ H1 ι1 M1) (hs : ∀ a ∈ ι, a ∈ M) (ho : ∀ a, OwnA ρ σ a → a ∈ M) (sub : ∀ a ∈ M, a ∈ M1) : StpM H ι M H1 ι1 M1 :=
  ⟨fun a o e n => s.keep a o e (fun z => n (hs a z)) fun z => n (ho a z), s.pre, s.grow, sub, s.alive⟩
theorem ER.ownM (e : ER H ι M ρ σ) : ∀ a, OwnA ρ σ a → a ∈ M ∧ a ∉ ι := fun a ⟨i, s, q1, q2, q3⟩ => by
  obtain ⟨v, w, r⟩ := e.sl i s q1
  rw [q3] at w
  cases w
  cases s with
  | val d => cases q2
  | own xs => obtain ⟨b, vs, z, m, n, _⟩ := r; cases z; exact ⟨m, n⟩
  | ownK xs => obtain ⟨b, vs, z, m, n, _⟩ := r; cases z; exact ⟨m, n⟩
  | ownT xs => obtain ⟨b, vs, z, m, n, _⟩ := r; cases z; exact ⟨m, n⟩
end
theorem StpS.m {H H1 : Hp} {ι M ι1 M1 : List Addr} {ρ ρ1 : Ev} {σ σ1 : L2.St} (s : StpS H ι M ρ σ H1 ι1 M1 ρ1 σ1) (hs : ∀ a ∈ ι, a ∈ M) (e : ER H ι M ρ σ) : StpM H ι M H1 ι1 M1 := s.toStpR.m hs (fun a z => (e.ownM a z).1) s.all
def PostG (cA : Str → Addr) (o : SO) (H : Hp) (ι M : List Addr) (ρ : Ev) (σ : L2.St) (W : XK) (N : Ev → Hd → L2.St → Hp → List Addr → List Addr → Prop) (R : VK) : Prop := match o with
  | .nx ρ' h' => ∀ σ' H' ι' M', StpS H ι M ρ σ H' ι' M' ρ' σ' → Rel cA H' ι' M' ρ' h' σ' → N ρ' h' σ' H' ι' M'
  | .rt d h' => ∀ v H' ι' M', StpR H ι M ρ σ H' ι' M' → HR cA H' ι' M' h' → Rp H' ι' M' d v → R v H'
  | .exc x h' => ∀ H' ι' M' cls dd, StpR H ι M ρ σ H' ι' M' → HR cA H' ι' M' h' → XR cA H' ι' M' x cls dd → W cls dd H'
  | .bad => False
abbrev PostS (cA : Str → Addr) (o : SO) (H : Hp) (ι M : List Addr) (ρ : Ev) (σ : L2.St) (W : XK) (E : Ends) : Prop := PostG cA o H ι M ρ σ W (fun _ _ σ' H' _ _ => E.nx σ' H') E.rt
section
variable (cA : Str → Addr) (W : XK)
def RdS (o : Ev → Hd → SO) : TS := fun E σ H => ∃ ι M ρ h, Rel cA H ι M ρ h σ ∧ PostS cA (o ρ h) H ι M ρ σ W E
end
section
variable {cA : Str → Addr} {W : XK} {H H1 : Hp} {ι M ι1 M1 : List Addr} {ρ ρ1 : Ev} {σ σ1 : L2.St} {h h1 : Hd} {E : Ends} {N : Ev → Hd → L2.St → Hp → List Addr → List Addr → Prop} {R : VK}
theorem PostG.from (al : ∀ a ∈ M, H a ≠ none) {o : SO} (p : PostG cA o H ι M ρ σ W N R) (s : StpS H ι M ρ σ H1 ι1 M1 ρ1 σ1) : PostG cA o H1 ι1 M1 ρ1 σ1 W N R := by
  cases o with
  | nx ρ' h' => exact fun σ' H' ι' M' t r => p σ' H' ι' M' (s.trans al t) r
  | rt d h' => exact fun v H' ι' M' t => p v H' ι' M' (s.transR al t)
  | exc x h' => exact fun H' ι' M' cls dd t => p H' ι' M' cls dd (s.transR al t)
  | bad => exact p
theorem PostG.seq (al : ∀ a ∈ M, H a ≠ none) {o : SO} {f : Ev → Hd → SO} (p : PostG cA (o.seq f) H ι M ρ σ W N R) : PostG cA o H ι M ρ σ W (fun ρ' h' σ' H' ι' M' => PostG cA (f ρ' h') H' ι' M' ρ' σ' W N R) R := by
  cases o with
  | nx ρ' h' => exact fun σ' H' ι' M' s r => PostG.from al (show PostG cA (f ρ' h') H ι M ρ σ W N R from p) s
  | rt d h' => exact p
  | exc x h' => exact p
  | bad => exact p
theorem PostG.mono {o : SO} {N' : Ev → Hd → L2.St → Hp → List Addr → List Addr → Prop} {R' : VK} (p : PostG cA o H ι M ρ σ W N R)
    (k : ∀ ρ' h' σ' H' ι' M', StpS H ι M ρ σ H' ι' M' ρ' σ' → Rel cA H' ι' M' ρ' h' σ' → N ρ' h' σ' H' ι' M' → N' ρ' h' σ' H' ι' M') (k2 : ∀ v H', R v H' → R' v H') : PostG cA o H ι M ρ σ W N' R' := by
  cases o with
  | nx ρ' h' => exact fun σ' H' ι' M' s r => k _ _ _ _ _ _ s r (p σ' H' ι' M' s r)
  | rt d h' => exact fun v H' ι' M' t hr r => k2 _ _ (p v H' ι' M' t hr r)
  | exc x h' => exact p
  | bad => exact p
/-- behind an expression -/
theorem PostG.of (al : ∀ a ∈ M, H a ≠ none) {α : Type} {o : Out α} {f : α → Hd → SO} (p : PostG cA (SO.of o f) H ι M ρ σ W N R) : Post cA o H ι M W fun d h1 H1 ι1 M1 => PostG cA (f d h1) H1 ι1 M1 ρ σ W N R := by
  cases o with
  | ok d h1 => exact fun H' ι' M' st hr => PostG.from al (show PostG cA (f d h1) H ι M ρ σ W N R from p) st.s
  | exc x h1 => exact fun H' ι' M' cls dd st => p H' ι' M' cls dd st.r
  | bad => exact p
theorem RdE.goS {o : Ev → Hd → Out D} {Q : VK} {f : D → Hd → SO} (rel : Rel cA H ι M ρ h σ) (p : PostG cA (SO.of (o ρ h) f) H ι M ρ σ W N R)
    (k : ∀ d h1 H1 ι1 M1 v, Stp H ι M H1 ι1 M1 → Rel cA H1 ι1 M1 ρ h1 σ → Rp H1 ι1 M1 d v → PostG cA (f d h1) H1 ι1 M1 ρ σ W N R → Q v H1) : RdE cA W o σ H Q :=
  ⟨ι, M, ρ, h, rel, (p.of rel.hr.al).mono fun d h1 H1 ι1 M1 st hr q v r => k d h1 H1 ι1 M1 v st (rel.later st hr) r q⟩
theorem RdA.goS {o : Ev → Hd → Out (List D)} {Q : List V → Hp → Prop} {f : List D → Hd → SO} (rel : Rel cA H ι M ρ h σ) (p : PostG cA (SO.of (o ρ h) f) H ι M ρ σ W N R)
    (k : ∀ d h1 H1 ι1 M1 v, Stp H ι M H1 ι1 M1 → Rel cA H1 ι1 M1 ρ h1 σ → Rps H1 ι1 M1 d v → PostG cA (f d h1) H1 ι1 M1 ρ σ W N R → Q v H1) : RdA cA W o σ H Q :=
  ⟨ι, M, ρ, h, rel, (p.of rel.hr.al).mono fun d h1 H1 ι1 M1 st hr q v r => k d h1 H1 ι1 M1 v st (rel.later st hr) r q⟩
theorem of_some {α : Type} {o : Option α} {f : α → Hd → SO} (p : PostG cA (SO.of (Out.of o h) f) H ι M ρ σ W N R) : ∃ a, o = some a ∧ PostG cA (f a h) H ι M ρ σ W N R := by
  cases o with
  | none => exact p.elim
  | some a => exact ⟨a, rfl, p⟩
theorem of_if {c : Bool} {o : SO} (p : PostG cA (if c = true then o else .bad) H ι M ρ σ W N R) : c = true ∧ PostG cA o H ι M ρ σ W N R := by
  cases c with
  | true => exact ⟨rfl, p⟩
  | false => exact p.elim
/-- a slot that is stored: what it held alone is nobody's -/
theorem own_set {i : Nat} {s : Sl} {v : V} (hl : ρ.length = σ.length) : ∀ a, OwnA (ρ.set i (some s)) (σ.set i (some v)) a → OwnA ρ σ a ∨ (s.isOwn = true ∧ v = .ref a) := fun a ⟨j, t, q1, q2, q3⟩ => by
  by_cases hj : i = j
  · subst hj
    have hi : i < ρ.length := by
      have := (List.getElem?_eq_some_iff.mp q1).1
      simpa using this
    rw [List.getElem?_set_self hi] at q1
    rw [List.getElem?_set_self (by omega)] at q3
    cases q1
    cases q3
    exact .inr ⟨q2, rfl⟩
  · rw [List.getElem?_set_ne hj] at q1 q3
    exact .inl ⟨j, t, q1, q2, q3⟩
theorem stp_val {i : Nat} {d : D} {v : V} (rel : Rel cA H ι M ρ h σ) : StpS H ι M ρ σ H ι M (ρ.set i (some (.val d))) (σ.set i (some v)) :=
  ⟨Stp.refl.r, fun a z => (own_set rel.er.len a z).elim .inl fun q => (nomatch q.1), fun _ z => z⟩
end
end Mini

/-! Mini 11: each statement. -/
namespace L2
open PySem PySem.Spec
theorem PS.imp {X : Cx} {st : Stmt} {t t' : TS} (h : PS X st t) (k : ∀ D σ H, t' D σ H → t D σ H) : PS X st t' := ⟨fun pins s σ H D I q => h.run pins s σ H D I (k _ _ _ q)⟩
theorem PSs.imp {X : Cx} {st : List Stmt} {t t' : TS} (h : PSs X st t) (k : ∀ D σ H, t' D σ H → t D σ H) : PSs X st t' := ⟨fun pins s σ H D I q => h.run pins s σ H D I (k _ _ _ q)⟩
theorem PS.when {X : Cx} {st : Stmt} {t' : TS} (k : ∀ D σ H, t' D σ H → ∃ t, PS X st t ∧ t D σ H) : PS X st t' := ⟨fun pins s σ H D I q => by
  obtain ⟨t, h, z⟩ := k _ _ _ q
  exact h.run pins s σ H D I z⟩
end L2
namespace Mini
open PySem PySem.Spec L2
section
variable {cA : Str → Addr} {C : Orc} {W : XK} {X : Cx} {T : Nat → Option Df} {n : Nat} {cf : Cfg}
abbrev RS (cA : Str → Addr) (C : Orc) (W : XK) (s : IS) : TS := RdS cA W (evS C s)
abbrev RSs (cA : Str → Addr) (C : Orc) (W : XK) (s : ISs) : TS := RdS cA W (evSs C s)

theorem rss_nil : PSs X [] (RSs cA C W .nil) := PSs.imp pss_nil fun D σ H z => by
  obtain ⟨ι, M, ρ, h, rel, p⟩ := z
  simp only [evSs] at p
  exact p σ H ι M Stp.refl.s rel
theorem rss_cons {a : IS} {l : ISs} {st : Stmt} {sts : List Stmt} (ha : PS X st (RS cA C W a)) (hl : PSs X sts (RSs cA C W l)) : PSs X (st :: sts) (RSs cA C W (.cons a l)) :=
  PSs.imp (pss_cons ha hl) fun D σ H z => by
    obtain ⟨ι, M, ρ, h, rel, p⟩ := z
    simp only [evSs] at p
    exact ⟨ι, M, ρ, h, rel, (PostG.seq rel.hr.al p).mono (fun ρ' h' σ' H' ι' M' s r q => ⟨ι', M', ρ', h', r, q⟩) fun _ _ q => q⟩
theorem rd_set {i : Nat} {e : IR} {D : Ends} {σ : L2.St} {H : Hp} (z : RS cA C W (.set i e) D σ H) : tAsg (RE cA C W e) (gName i) D σ H := by
  obtain ⟨ι, M, ρ, h, rel, p⟩ := z
  simp only [evS] at p
  refine RdE.goS rel p fun d h1 H1 ι1 M1 v st rel1 r1 p1 => ?_
  obtain ⟨hi, p1⟩ := of_if p1
  exact p1 _ H1 ι1 M1 (stp_val rel1) ⟨rel1.hr, rel1.er.val r1⟩
theorem swaps_no {e : Expr} {t : Option Expr} {l : Nat} {env : Env} (h : (match e with | .ListComp .. => false | .SetComp .. => false | .DictComp .. => false | _ => true) = true) : swapsWith e t l env = pure false := by
  cases e <;> first | rfl | cases h
theorem rs_set {i : Nat} {e : IR} {x : Str} {v : Expr} {p1 p2 : Pos} (g : Gd cA T n cf W X) (hN : cf.N[i]? = some x) (hx : locB cf x = true) (he : PE X v (RE cA C W e)) (hs : swapsWith v (some (.Name x p1)) p2.line X.env = pure false) :
    PS X (.Assign [.Name x p1] v p2) (RS cA C W (.set i e)) := by
  obtain ⟨l1, l2⟩ := loc_of g hx
  exact PS.imp (ps_set (i := i) g.nd (by rw [g.eN]; exact hN) l1 he hs l2) fun D σ H z => rd_set z
theorem rs_setO {i : Nat} {l : IRs} {x : Str} {es : List Expr} {p1 p2 p3 : Pos} (g : Gd cA T n cf W X) (hN : cf.N[i]? = some x) (hx : locB cf x = true) (he : PA X es (RA cA C W l)) (hl : l.len ≤ 1000) :
    PS X (.Assign [.Name x p1] (.List es p2) p3) (RS cA C W (.setO i l)) := by
  obtain ⟨l1, l2⟩ := loc_of g hx
  refine PS.imp (ps_set (i := i) g.nd (by rw [g.eN]; exact hN) l1 (pe_lst he) rfl l2) fun D σ H z => ?_
  obtain ⟨ι, M, ρ, h, rel, p⟩ := z
  simp only [evS] at p
  refine ⟨ι, M, ρ, h, rel, ((p.of rel.hr.al).and (P := fun a _ => a.length = l.len) fun _ _ e => evA_len e).mono fun ds h1 H1 ι1 M1 st hr q vs r => ?_⟩
  have rel1 := rel.later st hr
  refine ⟨by rw [← r.length, q.1]; exact thousand hl, fun a ha => ?_⟩
  obtain ⟨hi, p1⟩ := of_if q.2
  have sn := Stp.newM (ι := ι1) (M := M1) (o := .lst vs) ha
  have nM := fresh_not hr ha
  refine p1 _ _ ι1 (a :: M1) ⟨sn.r, fun b z => (own_set rel1.er.len b z).imp id fun q => ?_, sn.sub⟩ ⟨hr.newM ha, ER.put (x := .own ds) (rel1.er.later sn hr.sub) ⟨a, vs, rfl, List.mem_cons_self, fun z => nM (hr.sub _ z), upd_same, Rps.later (sn.m hr.sub) _ _ r⟩ fun j t b _ _ q1 q2 q3 q4 => ?_⟩
  · have := q.2; cases this; exact ha
  · cases q3
    exact nM (rel1.er.ownM a ⟨j, t, q1, q2, q4⟩).1
mutual
theorem asg_own : ∀ {t : Tg} {d : D} {ρ ρ' : Ev} {i : Nat} {s : Sl}, asg t d ρ = some ρ' → ρ'[i]? = some (some s) → s.isOwn = true → i ∉ tgs t ∧ ρ[i]? = some (some s)
  | .nm k, d, ρ, ρ', i, s, e, q1, q2 => by
    simp only [asg] at e
    split at e
    · rename_i hk
      cases e
      by_cases hj : k = i
      · subst hj
        rw [List.getElem?_set_self (of_decide_eq_true hk)] at q1
        cases q1
        cases q2
      · rw [List.getElem?_set_ne hj] at q1
        exact ⟨by simpa [tgs] using Ne.symm hj, q1⟩
    · cases e
  | .tp l, d, _, _, _, _, e, q1, q2 => by
    cases d with
    | tup ds =>
      simp only [asg] at e
      simpa [tgs] using asgs_own e q1 q2
    | _ => simp only [asg] at e; cases e
theorem asgs_own : ∀ {l : List Tg} {ds : List D} {ρ ρ' : Ev} {i : Nat} {s : Sl}, asgs l ds ρ = some ρ' → ρ'[i]? = some (some s) → s.isOwn = true → i ∉ tgss l ∧ ρ[i]? = some (some s)
  | [], [], _, _, _, _, e, q1, q2 => by simp only [asgs] at e; cases e; exact ⟨by simp [tgss], q1⟩
  | [], _ :: _, _, _, _, _, e, _, _ => by simp only [asgs] at e; cases e
  | _ :: _, [], _, _, _, _, e, _, _ => by simp only [asgs] at e; cases e
  | _ :: _, _ :: _, _, _, _, _, e, q1, q2 => by
    simp only [asgs] at e
    obtain ⟨ρ1, e1, e2⟩ := Option.bind_eq_some_iff.mp e
    obtain ⟨n2, q3⟩ := asgs_own e2 q1 q2
    obtain ⟨n1, q4⟩ := asg_own e1 q3 q2
    exact ⟨by simp [tgss, n1, n2], q4⟩
end
theorem stp_asg {H : Hp} {ι M : List Addr} {t : Tg} {d : D} {ρ ρ' : Ev} {σ σ' : L2.St} (e : asg t d ρ = some ρ') (ag : ∀ i, i ∉ tgs t → σ'[i]? = σ[i]?) : StpS H ι M ρ σ H ι M ρ' σ' :=
  ⟨Stp.refl.r, fun a ⟨i, s, q1, q2, q3⟩ => (.inl ⟨i, s, (asg_own e q1 q2).2, q2, (ag i (asg_own e q1 q2).1) ▸ q3⟩), fun _ z => z⟩
theorem rs_unp {tg : Tg} {e : IR} {t v : Expr} {p2 : Pos} (hg : PG X t (RG cA tg)) (he : PE X v (RE cA C W e)) (hs : swapsWithSole [t] v p2.line X.env = pure false) (hw : swappedStores [t] v X.env = pure none)
    (h1 : (assignEach [t] X.env).map (·.2) = [assign t X.env]) : PS X (.Assign [t] v p2) (RS cA C W (.unp tg e)) :=
  PS.imp (ps_asg he hg hs hw h1) fun D σ H z => by
    obtain ⟨ι, M, ρ, h, rel, p⟩ := z
    simp only [evS] at p
    refine RdE.goS rel p fun d h1 H1 ι1 M1 v st rel1 r1 p1 => ?_
    obtain ⟨ρ', e1, p2⟩ := of_some p1
    exact ⟨ι1, M1, ρ, h1, d, ρ', rel1, r1, e1, fun σ' rel' ag => p2 σ' H1 ι1 M1 (stp_asg e1 ag) rel'⟩
theorem loc_loc {sc : Scope} {x : Str} (h : sc.names.lookup x = some .local) : Loc sc x := .inl h
theorem rs_par2 {i j : Nat} {a b : IR} {x y : Str} {v w : Expr} {px py pt pos pt2 : Pos} {kt k2 : Nat} (g : Gd cA T n cf W X) (hi : cf.N[i]? = some x) (hj : cf.N[j]? = some y) (hij : i ≠ j) (hx : cf.sc.names.lookup x = some .local) (hy : cf.sc.names.lookup y = some .local)
    (ha : PE X v (RE cA C W a)) (hb : PE X w (RE cA C W b)) (s1 : starB v = false) (s2 : starB w = false) (hw : swappedStores [.Tuple [.Name x px, .Name y py] kt pt] (.Tuple [v, w] k2 pt2) X.env = pure (some [x, y])) :
    PS X (.Assign [.Tuple [.Name x px, .Name y py] kt pt] (.Tuple [v, w] k2 pt2) pos) (RS cA C W (.par2 i j a b)) :=
  PS.imp (ps_par g.calm g.nd (by rw [g.eN]; exact hi) (by rw [g.eN]; exact hj) hij (by rw [g.eS]; exact hx) (by rw [g.eS]; exact hy) (pa_cons ha (pa_cons hb pa_nil (star_of s2)) (star_of s1)) hw rfl) fun D σ H z => by
    obtain ⟨ι, M, ρ, h, rel, p⟩ := z
    simp only [evS] at p
    refine RdE.goS rel p fun d h1 H1 ι1 M1 v st rel1 r1 p1 => ?_
    refine RdE.goS rel1 p1 fun d2 h2 H2 ι2 M2 v2 st2 rel2 r2 p2 => ?_
    obtain ⟨hc, p3⟩ := of_if p2
    have e1 := rel2.er.val (i := i) (Rp.later (st2.m rel1.hr.sub) _ _ r1)
    have rel3 : Rel cA H2 ι2 M2 (ρ.set i (some (.val d))) h2 (σ.set i (some v)) := ⟨rel2.hr, e1⟩
    exact ⟨v, v2, rfl, p3 _ H2 ι2 M2 (StpS.trans rel2.hr.al (stp_val rel2) (stp_val rel3)) ⟨rel2.hr, e1.val r2⟩⟩
theorem rs_par3 {i j k : Nat} {a b c : IR} {x y u : Str} {v w o : Expr} {px py pu pt pos pt2 : Pos} {kt k2 : Nat} (g : Gd cA T n cf W X) (hi : cf.N[i]? = some x) (hj : cf.N[j]? = some y) (hk : cf.N[k]? = some u) (hij : i ≠ j) (hik : i ≠ k) (hjk : j ≠ k)
    (hx : cf.sc.names.lookup x = some .local) (hy : cf.sc.names.lookup y = some .local) (hu : cf.sc.names.lookup u = some .local) (ha : PE X v (RE cA C W a)) (hb : PE X w (RE cA C W b)) (hc : PE X o (RE cA C W c)) (s1 : starB v = false) (s2 : starB w = false) (s3 : starB o = false)
    (hw : swappedStores [.Tuple [.Name x px, .Name y py, .Name u pu] kt pt] (.Tuple [v, w, o] k2 pt2) X.env = pure (some [x, y, u])) :
    PS X (.Assign [.Tuple [.Name x px, .Name y py, .Name u pu] kt pt] (.Tuple [v, w, o] k2 pt2) pos) (RS cA C W (.par3 i j k a b c)) :=
  PS.imp (ps_par3 g.calm g.nd (by rw [g.eN]; exact hi) (by rw [g.eN]; exact hj) (by rw [g.eN]; exact hk) hij hik hjk (by rw [g.eS]; exact hx) (by rw [g.eS]; exact hy) (by rw [g.eS]; exact hu) (pa_cons ha (pa_cons hb (pa_cons hc pa_nil (star_of s3)) (star_of s2)) (star_of s1)) hw rfl) fun D σ H z => by
    obtain ⟨ι, M, ρ, h, rel, p⟩ := z
    simp only [evS] at p
    refine RdE.goS rel p fun d h1 H1 ι1 M1 v st rel1 r1 p1 => ?_
    refine RdE.goS rel1 p1 fun d2 h2 H2 ι2 M2 v2 st2 rel2 r2 p2 => ?_
    refine RdE.goS rel2 p2 fun d3 h3 H3 ι3 M3 v3 st3 rel3 r3 p3 => ?_
    obtain ⟨hc, p4⟩ := of_if p3
    have e1 := rel3.er.val (i := i) (Rp.later (st3.m rel2.hr.sub) _ _ (Rp.later (st2.m rel1.hr.sub) _ _ r1))
    have e2 := e1.val (i := j) (Rp.later (st3.m rel2.hr.sub) _ _ r2)
    have rel4 : Rel cA H3 ι3 M3 (ρ.set i (some (.val d))) h3 (σ.set i (some v)) := ⟨rel3.hr, e1⟩
    have rel5 : Rel cA H3 ι3 M3 ((ρ.set i (some (.val d))).set j (some (.val d2))) h3 ((σ.set i (some v)).set j (some v2)) := ⟨rel3.hr, e2⟩
    exact ⟨v, v2, v3, rfl, p4 _ H3 ι3 M3 (StpS.trans rel3.hr.al (StpS.trans rel3.hr.al (stp_val rel3) (stp_val rel4)) (stp_val rel5)) ⟨rel3.hr, e2.val r3⟩⟩
theorem keepO {H H1 : Hp} {ι M ι1 M1 : List Addr} {a : Addr} {o : HO} (s : Stp H ι M H1 ι1 M1) (e : H a = some o) (n : a ∉ ι) : H1 a = some o ∧ a ∉ ι1 := by
  refine ⟨s.keep a o e n, fun z => ?_⟩
  obtain ⟨ν, e1, n1⟩ := s.pre
  rw [e1, List.mem_append] at z
  rcases z with z | z
  · exact n z
  · rw [n1 a z] at e; cases e
/-- a value asked from a later place, what is behind it still told from the first -/
theorem RdE.goB {o : Ev → Hd → Out D} {σ : L2.St} {H H0 : Hp} {ι M ι0 M0 : List Addr} {ρ : Ev} {h : Hd} {N : Ev → Hd → L2.St → Hp → List Addr → List Addr → Prop} {R : VK} {Q : VK} {f : D → Hd → SO} (al : ∀ a ∈ M, H a ≠ none) (s0 : Stp H ι M H0 ι0 M0) (rel : Rel cA H0 ι0 M0 ρ h σ) (p : PostG cA (SO.of (o ρ h) f) H ι M ρ σ W N R)
    (k : ∀ d h1 H1 ι1 M1 v, Stp H0 ι0 M0 H1 ι1 M1 → Rel cA H1 ι1 M1 ρ h1 σ → Rp H1 ι1 M1 d v → PostG cA (f d h1) H ι M ρ σ W N R → Q v H1) : RdE cA W o σ H0 Q := by
  refine ⟨ι0, M0, ρ, h, rel, ?_⟩
  cases e : o ρ h with
  | ok d h1 =>
    rw [e] at p
    exact fun H' ι' M' st hr v r => k d h1 H' ι' M' v st (rel.later st hr) r p
  | exc x h1 =>
    rw [e] at p
    exact fun H' ι' M' cls dd st => p H' ι' M' cls dd (s0.s.transR al st.r)
  | bad =>
    rw [e] at p
    exact p
theorem rs_par3O {i j k : Nat} {b c : IR} {x y u : Str} {w o : Expr} {px py pu pt pos pt2 pl : Pos} {kt k2 : Nat} (g : Gd cA T n cf W X) (hi : cf.N[i]? = some x) (hj : cf.N[j]? = some y) (hk : cf.N[k]? = some u) (hij : i ≠ j) (hik : i ≠ k) (hjk : j ≠ k)
    (hx : cf.sc.names.lookup x = some .local) (hy : cf.sc.names.lookup y = some .local) (hu : cf.sc.names.lookup u = some .local) (hb : PE X w (RE cA C W b)) (hc : PE X o (RE cA C W c)) (s2 : starB w = false) (s3 : starB o = false)
    (hw : swappedStores [.Tuple [.Name x px, .Name y py, .Name u pu] kt pt] (.Tuple [.List [] pl, w, o] k2 pt2) X.env = pure (some [x, y, u])) :
    PS X (.Assign [.Tuple [.Name x px, .Name y py, .Name u pu] kt pt] (.Tuple [.List [] pl, w, o] k2 pt2) pos) (RS cA C W (.par3O i j k b c)) :=
  PS.imp (ps_par3 g.calm g.nd (by rw [g.eN]; exact hi) (by rw [g.eN]; exact hj) (by rw [g.eN]; exact hk) hij hik hjk (by rw [g.eS]; exact hx) (by rw [g.eS]; exact hy) (by rw [g.eS]; exact hu) (pa_cons (pe_lst pa_nil) (pa_cons hb (pa_cons hc pa_nil (star_of s3)) (star_of s2)) (star_of (e := .List [] pl) rfl)) hw rfl) fun D σ H z => by
    obtain ⟨ι, M, ρ, h, rel, p⟩ := z
    simp only [evS] at p
    refine ⟨by simp, fun a ha => ?_⟩
    have nM := fresh_not rel.hr ha
    have nI : a ∉ ι := fun z => nM (rel.hr.sub _ z)
    have sn := Stp.newM (ι := ι) (M := M) (o := .lst []) ha
    have rel0 := rel.later sn (rel.hr.newM ha)
    refine RdE.goB rel.hr.al sn rel0 p fun d h1 H1 ι1 M1 v st rel1 r1 p1 => ?_
    obtain ⟨a1, i1⟩ := keepO st upd_same nI
    refine RdE.goB rel.hr.al (sn.trans st) rel1 p1 fun d2 h2 H2 ι2 M2 v2 st2 rel2 r2 p2 => ?_
    obtain ⟨a2, i2⟩ := keepO st2 a1 i1
    obtain ⟨hc, p3⟩ := of_if p2
    have m2 : a ∈ M2 := st2.sub a (st.sub a List.mem_cons_self)
    have e0 := ER.put (i := i) (x := .own []) rel2.er ⟨a, [], rfl, m2, i2, a2, .nil⟩ fun j t b _ _ q1 q2 q3 q4 => by
      cases q3
      exact nM (rel.er.ownM a ⟨j, t, q1, q2, q4⟩).1
    have e1 := e0.val (i := j) (Rp.later (st2.m rel1.hr.sub) _ _ r1)
    have e2 := e1.val (i := k) r2
    have s2 : Stp H ι M H2 ι2 M2 := (sn.trans st).trans st2
    refine ⟨.ref a, v, v2, rfl, p3 _ H2 ι2 M2 ⟨s2.r, fun b z => ?_, s2.sub⟩ ⟨rel2.hr, e2⟩⟩
    rcases own_set e1.len b z with z | z
    · rcases own_set e0.len b z with z | z
      · rcases own_set rel2.er.len b z with z | z
        · exact .inl z
        · have := z.2
          cases this
          exact .inr ha
      · exact nomatch z.1
    · exact nomatch z.1
/-- an object of the heap of what changes is changed -/
theorem HR.put {H : Hp} {ι M : List Addr} {h : Hd} {k : Nat} {a : Addr} {o : HO} {x : DO} (r : HR cA H ι M h) (ha : ι[k]? = some a) (hx : RO cA (upd H a o) ι M a x) : HR cA (upd H a o) ι M (h.set k x) := by
  have am := r.sub a (List.mem_of_getElem? ha)
  have up : StpM H ι M (upd H a o) ι M := ⟨fun b u q nq => by rw [upd_ne (fun z => nq (by rw [z]; exact am))]; exact q, ⟨[], by simp, fun _ z => by simp at z⟩, fun _ z => .inl z, fun _ z => z, fun b q => by
    by_cases z : b = a
    · subst z; rw [upd_same]; simp
    · rw [upd_ne z]; exact q⟩
  refine ⟨by simp [r.len], fun m y b q1 q2 => ?_, r.nd, r.sub, fun b q => up.alive b (r.al b q)⟩
  by_cases hm : k = m
  · subst hm
    rw [ha] at q2
    cases q2
    have hk : k < h.length := by
      have := (List.getElem?_eq_some_iff.mp q1).1
      simpa using this
    rw [List.getElem?_set_self hk] at q1
    cases q1
    exact hx
  · rw [List.getElem?_set_ne hm] at q1
    have nb : b ≠ a := fun z => by
      subst z
      obtain ⟨l1, e1⟩ := List.getElem?_eq_some_iff.mp ha
      obtain ⟨l2, e2⟩ := List.getElem?_eq_some_iff.mp q2
      exact hm ((List.getElem_inj r.nd).mp (e1.trans e2.symm))
    exact (r.obj m y b q1 q2).later up (upd_ne nb)
theorem Stp.put {H : Hp} {ι M : List Addr} {a : Addr} {o : HO} (ha : a ∈ ι) : Stp H ι M (upd H a o) ι M := ⟨fun b u q nq => by rw [upd_ne (fun z => nq (by rw [z]; exact ha))]; exact q, ⟨[], by simp, fun _ z => by simp at z⟩, fun _ z => .inl z, fun _ z => z, fun b q => by
    by_cases z : b = a
    · subst z; rw [upd_same]; simp
    · rw [upd_ne z]; exact q⟩
theorem rs_six {a i e : IR} {x y v : Expr} {pt p2 : Pos} (ha : PE X x (RE cA C W a)) (hi : PE X y (RE cA C W i)) (he : PE X v (RE cA C W e)) (hg : PG X (.Subscript x y pt) (gSub (RE cA C W a) (RE cA C W i) rSetL)) (hs : swapsWithSole [.Subscript x y pt] v p2.line X.env = pure false) (hw : swappedStores [.Subscript x y pt] v X.env = pure none)
    (h1 : (assignEach [.Subscript x y pt] X.env).map (·.2) = [assign (.Subscript x y pt) X.env]) : PS X (.Assign [.Subscript x y pt] v p2) (RS cA C W (.six a i e)) :=
  PS.imp (ps_asg he hg hs hw h1) fun D σ H z => by
    obtain ⟨ι, M, ρ, h, rel, p⟩ := z
    simp only [evS] at p
    refine RdE.goS rel p fun d h1 H1 ι1 M1 v st rel1 r1 p1 => ?_
    refine RdE.goS rel1 p1 fun d2 h2 H2 ι2 M2 v2 st2 rel2 r2 p2 => ?_
    refine RdE.goS rel2 p2 fun d3 h3 H3 ι3 M3 v3 st3 rel3 r3 p3 => ?_
    have r1 := Rp.later (st3.m rel2.hr.sub) _ _ (Rp.later (st2.m rel1.hr.sub) _ _ r1)
    have r2 := Rp.later (st3.m rel2.hr.sub) _ _ r2
    cases d2 with
    | ref m =>
      cases d3 with
      | int j =>
        cases r3
        cases r2 with
        | ref hm =>
          rename_i q
          dsimp only at p3
          split at p3
          · rename_i xs ho
            split at p3
            · rename_i k hk
              obtain ⟨vs, hv, rv⟩ := rel3.hr.obj m _ _ ho hm
              have am := List.mem_of_getElem? hm
              have sp := Stp.put (H := H3) (M := M3) (o := .lst (vs.set k v)) am
              refine ⟨_, vs, j, k, rfl, rfl, hv, by rw [← rv.length]; exact hk, p3 σ _ ι3 M3 sp.s ⟨rel3.hr.put hm ⟨_, upd_same, Rps.later (sp.m rel3.hr.sub) _ _ (Rps.set r1 k rv)⟩, rel3.er.later sp rel3.hr.sub⟩⟩
            · exact p3.elim
          · exact p3.elim
      | _ => exact p3.elim
    | _ => exact p3.elim
theorem rs_expr {e : IR} {v : Expr} {p2 : Pos} (he : PE X v (RE cA C W e)) (hs : swapsWith v none p2.line X.env = pure false) : PS X (.Expr v p2) (RS cA C W (.expr e)) :=
  PS.imp (ps_expr he hs) fun D σ H z => by
    obtain ⟨ι, M, ρ, h, rel, p⟩ := z
    simp only [evS] at p
    exact RdE.goS rel p fun d h1 H1 ι1 M1 v st rel1 r1 p1 => p1 σ H1 ι1 M1 Stp.refl.s rel1
theorem rs_ret {e : IR} {v : Expr} {p2 : Pos} (he : PE X v (RE cA C W e)) : PS X (.Return (some v) p2) (RS cA C W (.ret e)) :=
  PS.imp (ps_ret he) fun D σ H z => by
    obtain ⟨ι, M, ρ, h, rel, p⟩ := z
    simp only [evS] at p
    exact RdE.goS rel p fun d h1 H1 ι1 M1 v st rel1 r1 p1 => p1 v H1 ι1 M1 Stp.refl.r rel1.hr r1
theorem rs_retN {p2 : Pos} : PS X (.Return none p2) (RS cA C W .retN) := PS.imp ps_retN fun D σ H z => by
  obtain ⟨ι, M, ρ, h, rel, p⟩ := z
  simp only [evS] at p
  exact p _ H ι M Stp.refl.r rel.hr .non
theorem rs_retO {i : Nat} {x : Str} {p1 p2 : Pos} (g : Gd cA T n cf W X) (h1 : cf.N[i]? = some x) (h2 : visB cf.sc x = true) (h3 : okN x = true) : PS X (.Return (some (.Name x p1)) p2) (RS cA C W (.retO i)) := by
  refine PS.imp (ps_ret (pe_var (i := i) (by rw [g.eN]; exact h1) (by rw [g.eS]; exact vis_of h2) (okN_of h3).1 (okN_of h3).2)) fun D σ H z => ?_
  obtain ⟨ι, M, ρ, h, rel, p⟩ := z
  simp only [evS] at p
  split at p
  · rename_i xs e
    obtain ⟨v, e1, a, vs, rfl, aM, aι, ha, ra⟩ := rel.er.sl i _ e
    have m1 : ∀ b ∈ M.filter (fun b => decide (b ≠ a)), b ∈ M := fun b z => (List.mem_filter.mp z).1
    have m2 : ∀ b, b ∈ M → b ≠ a → b ∈ M.filter (fun b => decide (b ≠ a)) := fun b z q => List.mem_filter.mpr ⟨z, by simpa using q⟩
    refine ⟨_, e1, p _ H ι (M.filter fun b => decide (b ≠ a)) ⟨fun b o q _ _ => q, ⟨[], by simp, fun _ z => by simp at z⟩, fun b z => .inl (m1 b z), fun b z no => m2 b z fun q => no ⟨i, _, e, rfl, by rw [q]; exact e1⟩, fun _ z => z⟩ (rel.hr.less m1 fun b z => m2 b (rel.hr.sub b z) fun q => aι (q ▸ z)) (.lst (.inl ha) (fun z => ?_) (Rps.less m1 _ _ ra))⟩
    simpa using (List.mem_filter.mp z).2
  · exact p.elim
theorem rs_pass {p2 : Pos} : PS X (.Pass p2) (RS cA C W .pass) := PS.imp ps_pass fun D σ H z => by
  obtain ⟨ι, M, ρ, h, rel, p⟩ := z
  simp only [evS] at p
  exact p σ H ι M Stp.refl.s rel
theorem rs_ife {c : IR} {a b : ISs} {e : Expr} {sa sb : List Stmt} {p2 : Pos} (hc : PT X e (RT cA C W c)) (ha : PSs X sa (RSs cA C W a)) (hb : PSs X sb (RSs cA C W b)) : PS X (.If e sa sb p2) (RS cA C W (.ife c a b)) :=
  PS.imp (ps_if hc ha hb) fun D σ H z => by
    obtain ⟨ι, M, ρ, h, rel, p⟩ := z
    simp only [evS] at p
    have e : (SO.of (evE C c ρ h) fun x h => SO.of (Out.of x.truth h) fun r h => if r = true then evSs C a ρ h else evSs C b ρ h) = SO.of ((evE C c ρ h).bind fun x h => Out.of x.truth h) fun r h => if r = true then evSs C a ρ h else evSs C b ρ h := by
      cases evE C c ρ h <;> rfl
    rw [e] at p
    refine ⟨ι, M, ρ, h, rel, (PostG.of rel.hr.al p).mono fun k h1 H1 ι1 M1 st hr q => ?_⟩
    have rel1 := rel.later st hr
    cases k with
    | true => exact (show RSs cA C W a D σ H1 from ⟨ι1, M1, ρ, h1, rel1, q⟩)
    | false => exact (show RSs cA C W b D σ H1 from ⟨ι1, M1, ρ, h1, rel1, q⟩)
theorem rs_for {tg : Tg} {it : IT} {b : ISs} {t itx : Expr} {body : List Stmt} {p2 : Pos} (g : Gd cA T n cf W X) (hp : PassesOwn (model X.prog X.w) X.A X.env X.xe) (hi : PI X t itx (RI cA C W it)) (hg : PG X t (RG cA tg)) (hb : PSs X body (RSs cA C W b)) (hs : seqB itx = true) :
    PS X (.For t itx body [] p2) (RS cA C W (.forr tg it b)) :=
  PS.imp (ps_for hp g.calm hi hg hb (fold_of hs)) fun D σ H z => by
    obtain ⟨ι, M, ρ, h, rel, p⟩ := z
    simp only [evS] at p
    refine ⟨ι, M, ρ, h, rel, (PostG.of rel.hr.al p).mono fun xs h1 H1 ι1 M1 st hr q J hJ => ?_⟩
    have rel1 := rel.later st hr
    obtain ⟨G, Y, wk, g0, y0⟩ := hJ
    let F : Mini.D → Ev → Hd → SO := fun x ρ h => SO.of (Out.of (asg tg x ρ) h) fun ρ h => evSs C b ρ h
    refine for_it wk (fun i σ' H' => ∃ ι' M' ρ' h', StpS H1 ι1 M1 ρ σ H' ι' M' ρ' σ' ∧ Rel cA H' ι' M' ρ' h' σ' ∧ PostS cA (forL F (xs.drop i) ρ' h') H' ι' M' ρ' σ' W D) ?_ ?_ ?_ ?_
    · exact ⟨ι1, M1, ρ, h1, Stp.refl.s, rel1, by simpa using q⟩
    · rintro i σ' H' _ ⟨ι', M', ρ', h', s, r, _⟩
      exact g0 _ _ _ (s.m rel1.hr.sub rel1.er)
    · rintro i x σ' H' H2 hin ⟨ι', M', ρ', h', s, r, po⟩ hy
      obtain ⟨s3, hr3, d, ed, rd⟩ := y0 i H' x H2 ι' M' h' hin (s.m rel1.hr.sub rel1.er) r.hr hy
      rw [drop_get ed] at po
      simp only [forL] at po
      have r3 := r.later s3 hr3
      have po2 := PostG.seq r3.hr.al (PostG.from r.hr.al po s3.s)
      obtain ⟨ρ1, e1, po3⟩ := of_some po2
      refine ⟨ι', M', ρ', h', d, ρ1, r3, rd, e1, fun σ1 rel4 ag => ⟨ι', M', ρ1, h', rel4, ?_⟩⟩
      have sa : StpS H2 ι' M' ρ' σ' H2 ι' M' ρ1 σ1 := stp_asg e1 ag
      refine (PostG.from r3.hr.al po3 sa).mono (fun ρ5 h5 σ5 H5 ι5 M5 s5 r5 q5 => ?_) fun _ _ q => q
      exact ⟨ι5, M5, ρ5, h5, StpS.trans rel1.hr.al s (StpS.trans r.hr.al s3.s (StpS.trans r3.hr.al sa s5)), r5, q5⟩
    · rintro σ' H' ⟨ι', M', ρ', h', s, r, po⟩
      rw [List.drop_length] at po
      simp only [forL] at po
      exact po σ' H' ι' M' Stp.refl.s r
theorem rs_rais {c m : Str} {j : Nat} {p p2 pos pos2 : Pos} (g : Gd cA T n cf W X) (hc : c ∈ cf.exns) (hg : glB cf.sc c = true) (hd : (c == ("__debug__" : Str)) = false) : PS X (.Raise (some (.Call (.Name c p) [.Constant (.str m) j p2] [] pos)) none pos2) (RS cA C W (.rais c)) := by
  obtain ⟨e1, e2, e3, e4, e5⟩ := g.exns c hc
  refine PS.imp (ps_raise g.calm g.tk (pmk_own PySem.F.excBase_ValueError e2 e1 e3 (raises_own e4 e5) (gl_of g hg) hd)) fun D σ H z => ?_
  obtain ⟨ι, M, ρ, h, rel, p⟩ := z
  simp only [evS] at p
  exact p H ι M _ _ Stp.refl.r rel.hr ⟨rfl, rfl⟩
end
end Mini

/-! Mini 12: a list that a slot holds alone grows; the check of statements. -/
namespace Mini
open PySem PySem.Spec L2
section
variable {cA : Str → Addr} {C : Orc} {W : XK} {X : Cx} {T : Nat → Option Df} {n : Nat} {cf : Cfg}
/-- what one slot holds alone is changed -/
theorem ER.own {H : Hp} {ι M : List Addr} {ρ : Ev} {σ : L2.St} {i : Nat} {s s' : Sl} {a : Addr} {o : HO} (e : ER H ι M ρ σ) (hs : ρ[i]? = some (some s)) (ho : s.isOwn = true) (ha : σ[i]? = some (some (.ref a))) (h' : s'.isOwn = true)
    (up : StpM H ι M (upd H a o) ι M) (r : SR (upd H a o) ι M s' (.ref a)) : ER (upd H a o) ι M (ρ.set i (some s')) σ := by
  have hi : i < ρ.length := (List.getElem?_eq_some_iff.mp hs).1
  have key : ∀ {j : Nat} {t : Sl}, (ρ.set i (some s'))[j]? = some (some t) → (i = j ∧ t = s') ∨ (i ≠ j ∧ ρ[j]? = some (some t)) := fun {j t} q => by
    by_cases hj : i = j
    · subst hj
      rw [List.getElem?_set_self hi] at q
      cases q
      exact .inl ⟨rfl, rfl⟩
    · rw [List.getElem?_set_ne hj] at q
      exact .inr ⟨hj, q⟩
  have aown : OwnA ρ σ a := ⟨i, s, hs, ho, ha⟩
  refine ⟨by simp [e.len], fun j t q => ?_, fun j k t u b jk q1 q2 o1 o2 s1 s2 => ?_⟩
  · rcases key q with ⟨rfl, rfl⟩ | ⟨hj, q⟩
    · exact ⟨_, ha, r⟩
    · obtain ⟨v, q1, q2⟩ := e.sl j t q
      refine ⟨v, q1, ?_⟩
      have ne : ∀ b, v = .ref b → t.isOwn = true → b ≠ a := fun b z o2 w => by
        rw [z, w] at q1
        exact e.apart i j s t a hj hs q ho o2 ha q1
      cases t with
      | val d => exact Rp.later up d v q2
      | own ds =>
        obtain ⟨b, vs, z, m, nn, hb, rr⟩ := q2
        exact ⟨b, vs, z, m, nn, by rw [upd_ne (ne b z rfl)]; exact hb, Rps.later up _ _ rr⟩
      | ownK ds =>
        obtain ⟨b, vs, z, m, nn, hb, rr⟩ := q2
        exact ⟨b, vs, z, m, nn, by rw [upd_ne (ne b z rfl)]; exact hb, rr.later up⟩
      | ownT ds =>
        obtain ⟨b, vs, z, m, nn, hb, rr⟩ := q2
        exact ⟨b, vs, z, m, nn, by rw [upd_ne (ne b z rfl)]; exact hb, rr.later up⟩
  · rcases key q1 with ⟨rfl, rfl⟩ | ⟨hj, q1'⟩
    · rcases key q2 with ⟨rfl, rfl⟩ | ⟨hk, q2'⟩
      · exact jk rfl
      · exact e.apart i k s u b jk hs q2' ho o2 s1 s2
    · rcases key q2 with ⟨rfl, rfl⟩ | ⟨hk, q2'⟩
      · exact e.apart j i t s b jk q1' hs o1 ho s1 s2
      · exact e.apart j k t u b jk q1' q2' o1 o2 s1 s2
theorem up_own {H : Hp} {ι M : List Addr} {a : Addr} {o : HO} (am : a ∈ M) : StpM H ι M (upd H a o) ι M := ⟨fun b u q nq => by rw [upd_ne (fun z => nq (by rw [z]; exact am))]; exact q, ⟨[], by simp, fun _ z => by simp at z⟩, fun _ z => .inl z, fun _ z => z, fun b q => by
    by_cases z : b = a
    · subst z; rw [upd_same]; simp
    · rw [upd_ne z]; exact q⟩
theorem HR.own {H : Hp} {ι M : List Addr} {h : Hd} {a : Addr} {o : HO} (r : HR cA H ι M h) (am : a ∈ M) (ai : a ∉ ι) : HR cA (upd H a o) ι M h := by
  have up := up_own (H := H) (ι := ι) (o := o) am
  refine ⟨r.len, fun m y b q1 q2 => ?_, r.nd, r.sub, fun b q => up.alive b (r.al b q)⟩
  have nb : b ≠ a := fun z => ai (z ▸ List.mem_of_getElem? q2)
  exact (r.obj m y b q1 q2).later up (upd_ne nb)
theorem stp_own {H : Hp} {ι M : List Addr} {ρ : Ev} {σ : L2.St} {i : Nat} {s s' : Sl} {a : Addr} {o : HO} (hs : ρ[i]? = some (some s)) (ho : s.isOwn = true) (ha : σ[i]? = some (some (.ref a))) (am : a ∈ M) : StpS H ι M ρ σ (upd H a o) ι M (ρ.set i (some s')) σ := by
  have up := up_own (H := H) (ι := ι) (o := o) am
  have aown : OwnA ρ σ a := ⟨i, s, hs, ho, ha⟩
  refine ⟨⟨fun b u q _ no => by rw [upd_ne (fun z => no (by rw [z]; exact aown))]; exact q, up.pre, up.grow, fun b z _ => z, up.alive⟩, fun b ⟨j, t, q1, q2, q3⟩ => ?_, fun _ z => z⟩
  by_cases hj : i = j
  · subst hj
    rw [ha] at q3
    cases q3
    exact .inl aown
  · rw [List.getElem?_set_ne hj] at q1
    exact .inl ⟨j, t, q1, q2, q3⟩
theorem rs_app {i : Nat} {e : IR} {x : Str} {v : Expr} {p1 apos cpos p2 : Pos} (g : Gd cA T n cf W X) (h1 : cf.N[i]? = some x) (h2 : visB cf.sc x = true) (h3 : okN x = true) (he : PE X v (RE cA C W e)) (hs : starB v = false) (hl : (apos.endLine == cpos.line) = true) :
    PS X (.Expr (.Call (.Attribute (.Name x p1) "append" apos) [v] [] cpos) p2) (RS cA C W (.app i e)) := by
  refine PS.imp (ps_expr (pe_bm PySem.F.plainAttrs_list PySem.F.slot_list_append PySem.F.type_list_append mt_append (pe_var (i := i) (by rw [g.eN]; exact h1) (by rw [g.eS]; exact vis_of h2) (okN_of h3).1 (okN_of h3).2) (pa_cons he pa_nil (star_of hs))
    rfl (by rw [star1 hs]; rfl) hl (star_of hs) rfl) rfl) fun D σ H z => ?_
  obtain ⟨ι, M, ρ, h, rel, p⟩ := z
  simp only [evS] at p
  split at p
  · rename_i xs eo
    obtain ⟨w, e1, a, vs, rfl, aM, aι, ha, ra⟩ := rel.er.sl i _ eo
    refine ⟨_, e1, .inl ⟨rfl, _, .inl (.inl ha)⟩, RdE.goS rel p fun d h1 H1 ι1 M1 v st rel1 r1 p1 => ?_⟩
    obtain ⟨w2, e2, a2, vs2, z, aM1, aι1, ha1, ra1⟩ := rel1.er.sl i _ eo
    rw [e1] at e2
    cases e2
    cases z
    obtain ⟨hc, p2⟩ := of_if p1
    have hlen := ra1.length
    have hc := of_decide_eq_true hc
    have hm := million
    refine ⟨a, vs2, v, rfl, rfl, ha1, by omega, ?_⟩
    have up := up_own (H := H1) (ι := ι1) (o := .lst (vs2 ++ [v])) aM1
    exact p2 σ _ ι1 M1 (stp_own eo rfl e1 aM1) ⟨rel1.hr.own aM1 aι1, ER.own (s' := .own (xs ++ [d])) rel1.er eo rfl e1 rfl up ⟨a, _, rfl, aM1, aι1, upd_same, Rps.later up _ _ (ra1.snoc r1)⟩⟩
  · exact p.elim
/-! ### name = [.. for ..] -/
theorem sw_cell {elt : Expr} {gs : List Comprehension} {scope : Scope} {pos py : Pos} {y : Str} {l : Nat} {env : Env} (hy : env.scope.names.lookup y = some .cell) : swapsWith (.ListComp elt gs scope pos) (some (.Name y py)) l env = pure false := by
  have ky : env.kindOf y = some .cell := hy
  unfold swapsWith
  simp only [ky]
  have e : (some NameKind.cell == some NameKind.local) = false := rfl
  simp only [e, Bool.and_false, Bool.false_and]
def fnK (cf : Cfg) : Bool := match cf.sc.kind with
  | .function => true
  | _ => false
theorem fnK_of (g : Gd cA T n cf W X) (h : fnK cf = true) : X.env.scope.kind = .function := by
  rw [g.eS]
  unfold fnK at h
  split at h
  · assumption
  · cases h
def swAny (scope : Scope) (y : Str) : Bool := scope.names.any fun (n, k) => n == y && (k == .local || k == .cell)
def compO (cf : Cfg) (y : Str) (py : Pos) : Expr → Option Bool
  | .ListComp _ _ scope pos => (match cf.sc.names.lookup y with
    | some .cell => some false
    | some .local => if ((py.line == pos.line) && (fnK cf && !swAny scope y)) = true then some true else none
    | _ => none)
  | .SetComp .. => none
  | .DictComp .. => none
  | _ => some false
theorem compO_no {v : Expr} {y : Str} {py p2 : Pos} (g : Gd cA T n cf W X) (h : compO cf y py v = some false) : swapsWith v (some (.Name y py)) p2.line X.env = pure false := by
  cases v <;> first | rfl | (simp [compO] at h; done) | skip
  simp only [compO] at h
  split at h
  · rename_i q
    exact sw_cell (by rw [g.eS]; exact q)
  · split at h
    · cases h
    · cases h
  · cases h
theorem rs_setC {i : Nat} {own : List (Str × Nat)} {tg : Tg} {it : IT} {c : IO} {b : IR} {y : Str} {e : Expr} {py p2 : Pos} (g : Gd cA T n cf W X) (hN : cf.N[i]? = some y) (h : mE (.comp own tg it c b) cf e = true) (t : tsE (.comp own tg it c b) e = true) (hc : compO cf y py e = some true) :
    PS X (.Assign [.Name y py] e p2) (RS cA (call T n) W (.set i (.comp own tg it c b))) := by
  simp only [mE] at h
  split at h
  · simp only [tsE] at t
    obtain ⟨h1, ha⟩ := pair_and h
    obtain ⟨h2, hb⟩ := pair_and ha
    obtain ⟨h3, hcc⟩ := pair_and hb
    obtain ⟨h4, hd⟩ := pair_and hcc
    obtain ⟨h5, he⟩ := pair_and hd
    obtain ⟨h6, h7⟩ := pair_and he
    obtain ⟨t1, ta⟩ := pair_and t
    obtain ⟨t2, t3⟩ := pair_and ta
    have bk := blkOk_by h1
    rw [← g.eN, ← g.eS] at bk
    simp only [compO] at hc
    split at hc
    · cases hc
    · rename_i hl
      split at hc
      · rename_i hq
        obtain ⟨q1, q2⟩ := pair_and hq
        obtain ⟨q2, q3⟩ := pair_and q2
        have hk := fnK_of g q2
        refine PS.imp (ps_setLc (i := i) g.calm g.nd (by rw [g.eN]; exact hN) (by rw [g.eS]; exact hl) (sw_true hk (by rw [g.eS]; exact hl) q1 (not_t q3)) (sndI it _ _ cf W X g h4 t1) bk (fun s H B cl fp => sndG (g.blk s H _ B cl fp) tg _ h2) (fun s H B cl fp => sndC c _ _ _ _ (g.blk s H _ B cl fp) h5 t2)
          (fun s H B cl fp => (snd b _ _ _ _ (g.blk s H _ B cl fp) h6).1 t3) (fold_of h3)) fun D σ H z => ?_
        exact re_comp g (sndI it _ _ cf W X g h4 t1) bk (fun s H B cl fp => sndG (g.blk s H _ B cl fp) tg _ h2) (fun s H B cl fp => sndC c _ _ _ _ (g.blk s H _ B cl fp) h5 t2)
          (fun s H B cl fp => (snd b _ _ _ _ (g.blk s H _ B cl fp) h6).1 t3) (fun i hi => List.contains_iff_mem.mp (List.all_eq_true.mp h7 i hi)) σ H _ (rd_set z)
      · cases hc
    · cases hc
  · cases h
end
/-! ### the check -/
def eE (a : IR) (cf : Cfg) (e : Expr) : Bool := mE a cf e && tsE a e
def eT (a : IR) (cf : Cfg) (e : Expr) : Bool := mE a cf e && tsT a e
def isLoc (cf : Cfg) (x : Str) : Bool := match cf.sc.names.lookup x with
  | some .local => true
  | _ => false
def isComp : IR → Bool
  | .comp .. => true
  | _ => false
def noComp : Expr → Bool
  | .ListComp .. => false
  | .SetComp .. => false
  | .DictComp .. => false
  | _ => true
mutual
def mS : IS → Cfg → Stmt → Bool
  | .set i e, cf, st => (match st with | .Assign [.Name x p1] v _ => decide (cf.N[i]? = some x) && (locB cf x && (eE e cf v && (match compO cf x p1 v with | some b => !b || isComp e | none => false))) | _ => false)
  | .setO i l, cf, st => (match st with | .Assign [.Name x _] (.List es _) _ => decide (cf.N[i]? = some x) && (locB cf x && (mA l cf es && (tsA l es && decide (es.length ≤ 1000)))) | _ => false)
  | .unp tg e, cf, st => (match st with | .Assign [.Tuple ts k p] v _ => mG tg cf (.Tuple ts k p) && (eE e cf v && (noComp v && (match v with | .Tuple vs _ _ => fnK cf && decide (swapO cf.sc ts vs = some none) | _ => true))) | _ => false)
  | .par2 i j a b, cf, st => (match st with | .Assign [.Tuple [.Name x px, .Name y py] _ _] (.Tuple [v, w] _ _) _ => decide (cf.N[i]? = some x) && decide (cf.N[j]? = some y) && decide (i ≠ j) && isLoc cf x && isLoc cf y && eE a cf v && eE b cf w && !starB v && !starB w && fnK cf && decide (swapO cf.sc [.Name x px, .Name y py] [v, w] = some (some [x, y])) | _ => false)
  | .par3 i j k a b c, cf, st => (match st with | .Assign [.Tuple [.Name x px, .Name y py, .Name z pz] _ _] (.Tuple [v, w, o] _ _) _ => decide (cf.N[i]? = some x) && decide (cf.N[j]? = some y) && decide (cf.N[k]? = some z) && decide (i ≠ j) && decide (i ≠ k) && decide (j ≠ k) && isLoc cf x && isLoc cf y && isLoc cf z && eE a cf v && eE b cf w && eE c cf o && !starB v && !starB w && !starB o && fnK cf && decide (swapO cf.sc [.Name x px, .Name y py, .Name z pz] [v, w, o] = some (some [x, y, z])) | _ => false)
  | .par3O i j k b c, cf, st => (match st with | .Assign [.Tuple [.Name x px, .Name y py, .Name z pz] _ _] (.Tuple [.List [] pl, w, o] _ _) _ => decide (cf.N[i]? = some x) && decide (cf.N[j]? = some y) && decide (cf.N[k]? = some z) && decide (i ≠ j) && decide (i ≠ k) && decide (j ≠ k) && isLoc cf x && isLoc cf y && isLoc cf z && eE b cf w && eE c cf o && !starB w && !starB o && fnK cf && decide (swapO cf.sc [.Name x px, .Name y py, .Name z pz] [.List [] pl, w, o] = some (some [x, y, z])) | _ => false)
  | .six a i e, cf, st => (match st with | .Assign [.Subscript x y _] v _ => eE a cf x && (eE i cf y && (eE e cf v && (noComp v && plainIxB y))) | _ => false)
  | .app i e, cf, st => (match st with | .Expr (.Call (.Attribute (.Name x _) m apos) [v] [] cpos) _ => decide (m = "append") && (decide (cf.N[i]? = some x) && (visB cf.sc x && (okN x && (eE e cf v && (!starB v && (apos.endLine == cpos.line)))))) | _ => false)
  | .expr e, cf, st => (match st with | .Expr v _ => eE e cf v && noComp v | _ => false)
  | .ife c a b, cf, st => (match st with | .If e x y _ => eT c cf e && (mSs a cf x && mSs b cf y) | _ => false)
  | .forr tg it b, cf, st => (match st with | .For t e body [] _ => mG tg cf t && (mI it cf t e && (tsI it e && (seqB e && mSs b cf body))) | _ => false)
  | .ret e, cf, st => (match st with | .Return (some v) _ => eE e cf v | _ => false)
  | .retN, _, st => (match st with | .Return none _ => true | _ => false)
  | .retO i, cf, st => (match st with | .Return (some (.Name x _)) _ => decide (cf.N[i]? = some x) && (visB cf.sc x && okN x) | _ => false)
  | .rais c, cf, st => (match st with | .Raise (some (.Call (.Name x _) [.Constant (.str _) _ _] [] _)) none _ => decide (x = c) && (cf.exns.contains c && (glB cf.sc c && !(c == ("__debug__" : Str)))) | _ => false)
  | .pass, _, st => (match st with | .Pass _ => true | _ => false)
def mSs : ISs → Cfg → List Stmt → Bool
  | .nil, _, sts => (match sts with | [] => true | _ => false)
  | .cons a l, cf, sts => (match sts with | st :: sts => mS a cf st && mSs l cf sts | _ => false)
end
section
variable {cA : Str → Addr} {W : XK} {X : Cx} {T : Nat → Option Df} {n : Nat} {cf : Cfg}
theorem isLoc_of {x : Str} (h : isLoc cf x = true) : cf.sc.names.lookup x = some .local := by
  unfold isLoc at h
  split at h
  · assumption
  · cases h
theorem eE_of {a : IR} {e : Expr} (g : Gd cA T n cf W X) (h : eE a cf e = true) : PE X e (RE cA (call T n) W a) := (snd a e cf W X g (pair_and h).1).1 (pair_and h).2
theorem eT_of {a : IR} {e : Expr} (g : Gd cA T n cf W X) (h : eT a cf e = true) : PT X e (RT cA (call T n) W a) := (snd a e cf W X g (pair_and h).1).2 (pair_and h).2
theorem noComp_s {e : Expr} {t : Option Expr} {l : Nat} {env : Env} (h : noComp e = true) : swapsWith e t l env = pure false := by
  cases e <;> first | rfl | cases h
theorem noComp_1 {e t : Expr} {l : Nat} {env : Env} (h : noComp e = true) : swapsWithSole [t] e l env = pure false := noComp_s h
theorem swap_else {t v : Expr} {env : Env} (h : ∀ vs k p, v ≠ .Tuple vs k p) : swappedStores [t] v env = pure none := by
  cases v <;> first | (cases t <;> rfl) | exact absurd rfl (h _ _ _)
theorem swap_sub {x y v : Expr} {p : Pos} {env : Env} : swappedStores [.Subscript x y p] v env = pure none := by
  cases v <;> rfl
theorem pg_sub_of {x y : Expr} {pt : Pos} {to ti : TE} (hx : PE X x to) (hy : PE X y ti) (hp : plainIxB y = true) : PG X (.Subscript x y pt) (gSub to ti rSetL) := by
  cases y <;> first | exact pg_sub hx hy set_list | cases hp
mutual
theorem sndS (hp : PassesOwn (model X.prog X.w) X.A X.env X.xe) (g : Gd cA T n cf W X) : ∀ (s : IS) (st : Stmt), mS s cf st = true → PS X st (RS cA (call T n) W s)
  | .set i e, st, h => by
    simp only [mS] at h
    split at h
    · obtain ⟨h1, ha⟩ := pair_and h
      obtain ⟨h2, hb⟩ := pair_and ha
      obtain ⟨h3, h4⟩ := pair_and hb
      split at h4
      · rename_i b hb2
        cases b with
        | false => exact rs_set g (of_decide_eq_true h1) h2 (eE_of g h3) (compO_no g hb2)
        | true =>
          cases e with
          | comp own tg it c b => exact rs_setC g (of_decide_eq_true h1) (pair_and h3).1 (pair_and h3).2 hb2
          | _ => cases h4
      · cases h4
    · cases h
  | .setO i l, st, h => by
    simp only [mS] at h
    split at h
    · obtain ⟨h1, ha⟩ := pair_and h
      obtain ⟨h2, hb⟩ := pair_and ha
      obtain ⟨h3, hc⟩ := pair_and hb
      obtain ⟨h4, h5⟩ := pair_and hc
      exact rs_setO g (of_decide_eq_true h1) h2 ((sndL l _ cf W X g).1 h3 h4).1 (by rw [mA_len h3]; exact of_decide_eq_true h5)
    · cases h
  | .unp tg e, st, h => by
    simp only [mS] at h
    split at h
    · rename_i ts k p v p2
      obtain ⟨h1, ha⟩ := pair_and h
      obtain ⟨h2, hb⟩ := pair_and ha
      obtain ⟨h3, h4⟩ := pair_and hb
      refine rs_unp (sndG g tg _ h1) (eE_of g h2) (noComp_1 h3) ?_ rfl
      split at h4
      · obtain ⟨h5, h6⟩ := pair_and h4
        exact swap_of (fnK_of g h5) (by rw [g.eS]; exact of_decide_eq_true h6)
      · rename_i nt
        exact swap_else fun vs k p z => nt vs k p z
    · cases h
  | .par2 i j a b, st, h => by
    simp only [mS] at h
    split at h
    · obtain ⟨h, hB⟩ := pair_and h
      obtain ⟨h, hA⟩ := pair_and h
      obtain ⟨h, h9⟩ := pair_and h
      obtain ⟨h, h8⟩ := pair_and h
      obtain ⟨h, h7⟩ := pair_and h
      obtain ⟨h, h6⟩ := pair_and h
      obtain ⟨h, h5⟩ := pair_and h
      obtain ⟨h, h4⟩ := pair_and h
      obtain ⟨h, h3⟩ := pair_and h
      obtain ⟨h1, h2⟩ := pair_and h
      exact rs_par2 g (of_decide_eq_true h1) (of_decide_eq_true h2) (of_decide_eq_true h3) (isLoc_of h4) (isLoc_of h5) (eE_of g h6) (eE_of g h7) (not_t h8) (not_t h9) (swap_of (fnK_of g hA) (by rw [g.eS]; exact of_decide_eq_true hB))
    · cases h
  | .par3 i j k a b c, st, h => by
    simp only [mS] at h
    split at h
    · obtain ⟨h, hZ⟩ := pair_and h
      obtain ⟨h, hY⟩ := pair_and h
      obtain ⟨h, s3⟩ := pair_and h
      obtain ⟨h, s2⟩ := pair_and h
      obtain ⟨h, s1⟩ := pair_and h
      obtain ⟨h, e3⟩ := pair_and h
      obtain ⟨h, e2⟩ := pair_and h
      obtain ⟨h, e1⟩ := pair_and h
      obtain ⟨h, h9⟩ := pair_and h
      obtain ⟨h, h8⟩ := pair_and h
      obtain ⟨h, h7⟩ := pair_and h
      obtain ⟨h, h6⟩ := pair_and h
      obtain ⟨h, h5⟩ := pair_and h
      obtain ⟨h, h4⟩ := pair_and h
      obtain ⟨h, h3⟩ := pair_and h
      obtain ⟨h1, h2⟩ := pair_and h
      exact rs_par3 g (of_decide_eq_true h1) (of_decide_eq_true h2) (of_decide_eq_true h3) (of_decide_eq_true h4) (of_decide_eq_true h5) (of_decide_eq_true h6) (isLoc_of h7) (isLoc_of h8) (isLoc_of h9) (eE_of g e1) (eE_of g e2) (eE_of g e3) (not_t s1) (not_t s2) (not_t s3) (swap_of (fnK_of g hY) (by rw [g.eS]; exact of_decide_eq_true hZ))
    · cases h
  | .par3O i j k b c, st, h => by
    simp only [mS] at h
    split at h
    · obtain ⟨h, hZ⟩ := pair_and h
      obtain ⟨h, hY⟩ := pair_and h
      obtain ⟨h, s3⟩ := pair_and h
      obtain ⟨h, s2⟩ := pair_and h
      obtain ⟨h, e3⟩ := pair_and h
      obtain ⟨h, e2⟩ := pair_and h
      obtain ⟨h, h9⟩ := pair_and h
      obtain ⟨h, h8⟩ := pair_and h
      obtain ⟨h, h7⟩ := pair_and h
      obtain ⟨h, h6⟩ := pair_and h
      obtain ⟨h, h5⟩ := pair_and h
      obtain ⟨h, h4⟩ := pair_and h
      obtain ⟨h, h3⟩ := pair_and h
      obtain ⟨h1, h2⟩ := pair_and h
      exact rs_par3O g (of_decide_eq_true h1) (of_decide_eq_true h2) (of_decide_eq_true h3) (of_decide_eq_true h4) (of_decide_eq_true h5) (of_decide_eq_true h6) (isLoc_of h7) (isLoc_of h8) (isLoc_of h9) (eE_of g e2) (eE_of g e3) (not_t s2) (not_t s3) (swap_of (fnK_of g hY) (by rw [g.eS]; exact of_decide_eq_true hZ))
    · cases h
  | .six a i e, st, h => by
    simp only [mS] at h
    split at h
    · obtain ⟨h1, ha⟩ := pair_and h
      obtain ⟨h2, hb⟩ := pair_and ha
      obtain ⟨h3, hc⟩ := pair_and hb
      obtain ⟨h4, h5⟩ := pair_and hc
      exact rs_six (eE_of g h1) (eE_of g h2) (eE_of g h3) (pg_sub_of (eE_of g h1) (eE_of g h2) h5) (noComp_1 h4) swap_sub rfl
    · cases h
  | .app i e, st, h => by
    simp only [mS] at h
    split at h
    · obtain ⟨h1, ha⟩ := pair_and h
      obtain ⟨h2, hb⟩ := pair_and ha
      obtain ⟨h3, hc⟩ := pair_and hb
      obtain ⟨h4, hd⟩ := pair_and hc
      obtain ⟨h5, he⟩ := pair_and hd
      obtain ⟨h6, h7⟩ := pair_and he
      have q1 := of_decide_eq_true h1
      clear h h1
      subst q1
      exact rs_app g (of_decide_eq_true h2) h3 h4 (eE_of g h5) (not_t h6) h7
    · cases h
  | .expr e, st, h => by
    simp only [mS] at h
    split at h
    · obtain ⟨h1, h2⟩ := pair_and h
      exact rs_expr (eE_of g h1) (noComp_s h2)
    · cases h
  | .ife c a b, st, h => by
    simp only [mS] at h
    split at h
    · obtain ⟨h1, ha⟩ := pair_and h
      obtain ⟨h2, h3⟩ := pair_and ha
      exact rs_ife (eT_of g h1) (sndSs hp g a _ h2) (sndSs hp g b _ h3)
    · cases h
  | .forr tg it b, st, h => by
    simp only [mS] at h
    split at h
    · obtain ⟨h1, ha⟩ := pair_and h
      obtain ⟨h2, hb⟩ := pair_and ha
      obtain ⟨h3, hc⟩ := pair_and hb
      obtain ⟨h4, h5⟩ := pair_and hc
      exact rs_for g hp (sndI it _ _ cf W X g h2 h3) (sndG g tg _ h1) (sndSs hp g b _ h5) h4
    · cases h
  | .ret e, st, h => by
    simp only [mS] at h
    split at h
    · exact rs_ret (eE_of g h)
    · cases h
  | .retN, st, h => by
    simp only [mS] at h
    split at h
    · exact rs_retN
    · cases h
  | .retO i, st, h => by
    simp only [mS] at h
    split at h
    · obtain ⟨h1, ha⟩ := pair_and h
      obtain ⟨h2, h3⟩ := pair_and ha
      exact rs_retO g (of_decide_eq_true h1) h2 h3
    · cases h
  | .rais c, st, h => by
    simp only [mS] at h
    split at h
    · obtain ⟨h1, ha⟩ := pair_and h
      obtain ⟨h2, hb⟩ := pair_and ha
      obtain ⟨h3, h4⟩ := pair_and hb
      have q1 := of_decide_eq_true h1
      clear h h1
      subst q1
      exact rs_rais g (List.contains_iff_mem.mp h2) h3 (nd_of h4)
    · cases h
  | .pass, st, h => by
    simp only [mS] at h
    split at h
    · exact rs_pass
    · cases h
theorem sndSs (hp : PassesOwn (model X.prog X.w) X.A X.env X.xe) (g : Gd cA T n cf W X) : ∀ (l : ISs) (sts : List Stmt), mSs l cf sts = true → PSs X sts (RSs cA (call T n) W l)
  | .nil, sts, h => by
    simp only [mSs] at h
    split at h
    · exact rss_nil
    · cases h
  | .cons a l, sts, h => by
    simp only [mSs] at h
    split at h
    · obtain ⟨h1, h2⟩ := pair_and h
      exact rss_cons (sndS hp g a _ h1) (sndSs hp g l _ h2)
    · cases h
end
end
end Mini

/-! Mini 13: defs, calls within calls, the end. -/
namespace Mini
open PySem PySem.Spec L2

/-! ### a def -/
theorem start_rel {cA : Str → Addr} {H : Hp} {ι M : List Addr} {h : Hd} {ds : List D} {vs : List V} {N : List Str} (hr : HR cA H ι M h) (r : Rps H ι M ds vs) : Rel cA H ι M (Mini.start N.length ds) h (L2.start N vs) := by
  have hl := r.length
  have hn : ∀ {i : Nat} {s : Sl}, (Mini.start N.length ds)[i]? = some (some s) → ∃ d, ds[i]? = some d ∧ s = .val d := fun {i s} q => by
    unfold Mini.start at q
    by_cases hi : i < ds.length
    · rw [List.getElem?_append_left (by simpa using hi), List.getElem?_map] at q
      obtain ⟨d, e, q⟩ := Option.map_eq_some_iff.mp q
      cases q
      exact ⟨d, e, rfl⟩
    · rw [List.getElem?_append_right (by simpa using hi)] at q
      rw [List.getElem?_replicate] at q
      split at q <;> cases q
  refine ⟨hr, ?_, fun i s q => ?_, fun i j s t a _ q1 _ o1 => ?_⟩
  · unfold Mini.start L2.start
    simp [hl]
  · obtain ⟨d, e, rfl⟩ := hn q
    obtain ⟨v, e1, rv⟩ := r.get e
    refine ⟨v, ?_, rv⟩
    unfold L2.start
    have hi : i < vs.length := (List.getElem?_eq_some_iff.mp e1).1
    rw [List.getElem?_append_left (by simpa using hi), List.getElem?_map, e1]
    rfl
  · obtain ⟨d, _, rfl⟩ := hn q1
    cases o1
theorem start_own {ds : List D} {m : Nat} {σ : L2.St} {a : Addr} : ¬ OwnA (Mini.start m ds) σ a := fun ⟨i, s, q, o, _⟩ => by
  unfold Mini.start at q
  by_cases hi : i < ds.length
  · rw [List.getElem?_append_left (by simpa using hi), List.getElem?_map] at q
    obtain ⟨d, e, q⟩ := Option.map_eq_some_iff.mp q
    cases q
    cases o
  · rw [List.getElem?_append_right (by simpa using hi)] at q
    rw [List.getElem?_replicate] at q
    split at q <;> cases q
theorem stp_of {H H' : Hp} {ι M ι' M' : List Addr} {ρ : Ev} {σ : L2.St} (s : StpR H ι M ρ σ H' ι' M') (h : ∀ a, ¬ OwnA ρ σ a) : Stp H ι M H' ι' M' := ⟨fun a o e n => s.keep a o e n (h a), s.pre, s.grow, fun a z => s.sub a z (h a), s.alive⟩

/-- one def: its number, its name, its slots, its parameters, its term, where it stands -/
structure Ent (T : Nat → Option Df) where
  g : Nat
  nm : Str
  N : List Str
  ps : List Str
  df : Df
  dd : He.DefD
  tab : T g = some df
  bind : ∀ (kV doc pm : Value) (an : Option Addr) (cdv ct : Value) (us : List Value), us.length = ps.length → bindArgs (PySem.W.fnOf dd.name dd.qual dd.params dd.body dd.scope .none kV doc pm an cdv ct) ⟨us, []⟩ = pure (ps.zip us)
/-- what all defs share -/
structure Env0' where
  exns : List Str
  free : List Str
  globs : List (Str × Ck)
section
variable {T : Nat → Option Df}
def nmOf (es : List (Ent T)) (g : Nat) : Str := match es.find? (fun e => e.g == g) with
  | some e => e.nm
  | none => Str.empty
def cfOf (es : List (Ent T)) (v : Env0') (N : List Str) (sc : Scope) : Cfg := ⟨N, sc, sc, nmOf es, es.map (·.g), v.exns, v.free, v.globs⟩
def scB (N ps : List Str) (sc : Scope) : Bool := (match sc.kind with | .function => true | _ => false) && !sc.isCoroutine && !sc.isGenerator && decide N.Nodup && decide (N.take ps.length = ps) &&
  (ps.all fun x => match sc.names.lookup x with | some .local => true | some .cell => true | _ => false) && (sc.names.all fun y => !(y.2 == .free))
theorem scB_of {N ps : List Str} {sc : Scope} (h : scB N ps sc = true) : FnScope N ps sc := by
  unfold scB at h
  obtain ⟨h, h7⟩ := pair_and h
  obtain ⟨h, h6⟩ := pair_and h
  obtain ⟨h, h5⟩ := pair_and h
  obtain ⟨h, h4⟩ := pair_and h
  obtain ⟨h, h3⟩ := pair_and h
  obtain ⟨h1, h2⟩ := pair_and h
  refine ⟨?_, not_t h2, not_t h3, of_decide_eq_true h4, of_decide_eq_true h5, fun x hx => ?_, fun y hy => ?_⟩
  · split at h1
    · assumption
    · cases h1
  · have q := List.all_eq_true.mp h6 x hx
    split at q
    · exact .inl (by assumption)
    · exact .inr (by assumption)
    · cases q
  · have q := List.all_eq_true.mp h7 y hy
    intro z
    rw [z] at q
    cases q
def chk (es : List (Ent T)) (v : Env0') (e : Ent T) : Bool := scB e.N e.ps e.dd.scope && decide (e.df.n = e.ps.length) && decide (e.df.m = e.N.length) && (e.dd.dfl.isEmpty && e.dd.kwd.isEmpty) && mSs e.df.b (cfOf es v e.N e.dd.scope) e.dd.body
section
variable {P : Program} {w : World} {K : PySem.W.Frag} {mg : Str → Option Value} {base : Heap}
/-- the facts of the top -/
structure Tops (K : PySem.W.Frag) (mg : Str → Option Value) (es : List (Ent T)) (v : Env0') : Prop where
  fn : ∀ e ∈ es, mg e.nm = some (.ref (He.fAd K e.dd.at_)) ∧ ∃ fd, FunD K e.dd.name e.dd.qual e.dd.params e.dd.body e.dd.scope [] [] (He.fAd K e.dd.at_) fd
  exns : ∀ c ∈ v.exns, mg c = some (.ref (He.ga K c)) ∧ PySem.W.excIn K (He.ga K c) [.type "ValueError", .type "Exception", .type "BaseException", .type "object"] "ValueError.__new__" = true ∧ PySem.W.keepIn K (.ref (He.ga K c)) = true ∧
    PySem.W.subIn K (.ref (He.ga K c)) (.type "BaseException") = some true ∧ PySem.W.typeIn K (.ref (He.ga K c)) = some (.type "type")
  frees : ∀ x ∈ v.free, mg x = none
  globs : ∀ x c, v.globs.lookup x = some c → ∃ u, mg x = some u ∧ RelV c.v u
theorem body_ok {es : List (Ent T)} {v : Env0'} (t : Tops K mg es v) {e : Ent T} (hc : chk es v e = true) {n : Nat} (ih : ∀ e ∈ es, ∀ fd, FunD K e.dd.name e.dd.qual e.dd.params e.dd.body e.dd.scope [] [] (He.fAd K e.dd.at_) fd → FnOk P w K mg base (L2.CX P w) n (He.fAd K e.dd.at_) fd e.ps (spD (He.ga K) T n e.g))
    {fd : FuncData} (F : FunD K e.dd.name e.dd.qual e.dd.params e.dd.body e.dd.scope [] [] (He.fAd K e.dd.at_) fd) : FnOk P w K mg base (L2.CX P w) (n + 1) (He.fAd K e.dd.at_) fd e.ps (spD (He.ga K) T (n + 1) e.g) := by
  unfold chk at hc
  obtain ⟨hc, c5⟩ := pair_and hc
  obtain ⟨hc, c4⟩ := pair_and hc
  obtain ⟨hc, c3⟩ := pair_and hc
  obtain ⟨c1, c2⟩ := pair_and hc
  have S := scB_of c1
  have e2 := of_decide_eq_true c2
  have e3 := of_decide_eq_true c3
  refine FunD.ok F S (fun vs H Q E z => ?_) fun cdv A outer s H vs Q E hr z => ?_
  · obtain ⟨ι, M, h, ds, f, q1, q2, _, q3, _⟩ := z
    rw [e.tab] at q1
    cases q1
    rw [← q3.length, q2, e2]
  · let X := cxOf (L2.CX P w) P w K mg base e.N e.dd.qual e.dd.scope (He.fAd K e.dd.at_) cdv A outer s H E
    have gd : Gd (He.ga K) T n (cfOf es v e.N e.dd.scope) E X := by
      refine ⟨rfl, hr, S.nd, rfl, rfl, fun _ _ => rfl, takes_of rfl rfl rfl rfl, fun g hg => ?_, t.exns, t.frees, t.globs⟩
      have hg : g ∈ es.map (·.g) := hg
      obtain ⟨e', he, rfl⟩ := List.mem_map.mp hg
      have hf : ∃ e2, es.find? (fun e => e.g == e'.g) = some e2 := by
        cases q : es.find? (fun e => e.g == e'.g) with
        | some e2 => exact ⟨e2, rfl⟩
        | none =>
          have := List.find?_eq_none.mp q e' he
          simp at this
      obtain ⟨e2, hf⟩ := hf
      have m2 := List.mem_of_find?_eq_some hf
      have g2 : e2.g = e'.g := by simpa using List.find?_some hf
      obtain ⟨a1, fd2, F2⟩ := t.fn e2 m2
      refine ⟨_, fd2, e2.ps, ?_, F2.kp, FunD.bindsN F2 e2.bind, ?_⟩
      · show mg (nmOf es e'.g) = _
        unfold nmOf
        rw [hf]
        exact a1
      · rw [← g2]
        exact ih e2 m2 fd2 F2
    refine ⟨RSs (He.ga K) (call T n) E e.df.b, sndSs (passes_of rfl) gd _ _ c5, ?_⟩
    obtain ⟨ι, M, h, ds, f, q1, q2, hrr, q3, q4⟩ := z
    rw [e.tab] at q1
    cases q1
    refine ⟨ι, M, Mini.start e.N.length ds, h, start_rel hrr q3, ?_⟩
    have q4 : Post (He.ga K) (match T e.g with | some f => runD (call T n) f ds h | none => .bad) H ι M E _ := q4
    rw [e.tab] at q4
    have q4 : Post (He.ga K) (runD (call T n) e.df ds h) H ι M E _ := q4
    unfold runD at q4
    rw [if_pos (decide_eq_true q2), e3] at q4
    cases o : evSs (call T n) e.df.b (Mini.start e.N.length ds) h with
    | nx ρ' h' =>
      rw [o] at q4
      exact fun σ' H' ι' M' s r => q4 H' ι' M' (stp_of s.toStpR fun _ => start_own) r.hr _ .non
    | rt d h' =>
      rw [o] at q4
      exact fun v H' ι' M' s r rv => q4 H' ι' M' (stp_of s fun _ => start_own) r v rv
    | exc x h' =>
      rw [o] at q4
      exact fun H' ι' M' cls dd s => q4 H' ι' M' cls dd (stp_of s fun _ => start_own)
    | bad =>
      rw [o] at q4
      exact q4
theorem defs_ok {es : List (Ent T)} {v : Env0'} (t : Tops K mg es v) (hc : es.all (chk es v) = true) : ∀ n, ∀ e ∈ es, ∀ fd, FunD K e.dd.name e.dd.qual e.dd.params e.dd.body e.dd.scope [] [] (He.fAd K e.dd.at_) fd →
    FnOk P w K mg base (L2.CX P w) n (He.fAd K e.dd.at_) fd e.ps (spD (He.ga K) T n e.g)
  | 0, e, he, fd, F => by
    have c := List.all_eq_true.mp hc e he
    unfold chk at c
    obtain ⟨c, _⟩ := pair_and c
    obtain ⟨c, _⟩ := pair_and c
    obtain ⟨c, _⟩ := pair_and c
    obtain ⟨_, c2⟩ := pair_and c
    refine ⟨fun vs H Q E z => ?_, fun A outer s H args us vs Q E _ _ _ _ z => ?_⟩
    · obtain ⟨ι, M, h, ds, f, q1, q2, _, q3, _⟩ := z
      rw [e.tab] at q1
      cases q1
      rw [← q3.length, q2, of_decide_eq_true c2]
    · obtain ⟨ι, M, h, ds, f, q1, q2, _, q3, q4⟩ := z
      exact q4.elim
  | n + 1, e, he, fd, F => body_ok t (List.all_eq_true.mp hc e he) (defs_ok t hc n) F
end
end

/-! ### the head's facts -/
def notL (q : Addr × Obj) : Bool := match q.2.cls with
  | .type n => decide (n ≠ "list")
  | _ => true
/-- a part of the heap, without lists -/
def frN (g : Addr → Option Obj) (as : List Addr) : PySem.W.Frag := (He.frG g as).filter notL
theorem frG_mem {g : Addr → Option Obj} {as : List Addr} {a : Addr} {o : Obj} (h : (a, o) ∈ He.frG g as) : g a = some o := by
  obtain ⟨b, _, e⟩ := List.mem_filterMap.mp h
  obtain ⟨u, e1, e2⟩ := Option.map_eq_some_iff.mp e
  cases e2
  exact e1
theorem mem_of_lk {a : Addr} {o : Obj} : ∀ {l : List (Addr × Obj)}, l.lookup a = some o → (a, o) ∈ l
  | [], h => by simp at h
  | (b, u) :: r, h => by
    rw [List.lookup_cons] at h
    split at h
    · rename_i q
      cases h
      rw [eq_of_beq q]
      exact List.mem_cons_self
    · exact List.mem_cons_of_mem _ (mem_of_lk h)
theorem frN_in {as : List Addr} {h : Heap} : (frN h.get? as).In h := fun _ _ e => frG_mem (List.mem_filter.mp (mem_of_lk e)).1
def NoL (K : PySem.W.Frag) : Prop := ∀ a o, K.lookup a = some o → o.cls ≠ .type "list"
theorem frN_nol {g : Addr → Option Obj} {as : List Addr} : NoL (frN g as) := fun a o e z => by
  have q := (List.mem_filter.mp (mem_of_lk e)).2
  have z : o.cls = Value.type "list" := z
  simp only [notL, z] at q
  simp at q
def obsN (n : Nat) (fa : List He.Fa) (fn : List He.DefD) (g : Addr → Option Obj) : He.AlD := He.obsD fa fn (frN g (He.asD g n))
def hookN (n : Nat) (fa : List He.Fa) (fn : List He.DefD) : PySem.W.Hook where
  α := He.AlD
  obs := fun s => obsN n fa fn s.heap.get?
  val := fun _ => He.valD fn
  says := fun _ h => ∃ K : PySem.W.Frag, K.In h ∧ He.SaysD fa fn K ∧ NoL K
  of := fun _ _ e => ⟨_, frN_in, e, frN_nol⟩
  keeps := fun _ _ _ ⟨K, hK, c, l⟩ k => ⟨K, PySem.W.Frag.In.keeps hK k, c, l⟩
theorem obsN_eq {n : Nat} {fa : List He.Fa} {fn : List He.DefD} {g : Addr → Option Obj} {s : Shared} (h : ∀ a, g a = s.heap.get? a) : obsN n fa fn g = (hookN n fa fn).obs s := by
  have e : g = s.heap.get? := funext h
  rw [e] <;> rfl
theorem says_mem {fa : List He.Fa} {fn : List He.DefD} {K : PySem.W.Frag} (c : He.SaysD fa fn K) {f : He.Fa} (h : f ∈ fa) : f.ok K = true := by
  obtain ⟨i, e⟩ := List.getElem?_of_mem h
  exact c.fact i e
section
variable {T : Nat → Option Df}
def faOf (es : List (Ent T)) (v : Env0') : List He.Fa := (es.map fun e => He.Fa.glo e.nm) ++ ((v.exns.map fun c => He.Fa.glo c) ++ ((v.exns.map fun c => He.Fa.exc c) ++ ((v.free.map fun x => He.Fa.free x) ++ (v.globs.map fun q => match q.2 with
  | .int i => He.Fa.int q.1 i
  | .str z => He.Fa.str q.1 z
  | _ => He.Fa.free "__name__"))))
/-- a module's def: it stands under its name, without defaults; constants are numbers and texts -/
def topB (es : List (Ent T)) (v : Env0') : Bool := (es.all fun e => decide (e.dd.at_ = (e.nm, none)) && (e.dd.dfl.isEmpty && e.dd.kwd.isEmpty)) && v.globs.all fun q => match q.2 with
  | .int _ => true
  | .str _ => true
  | _ => false
theorem lk_mem {α : Type} {x : Str} {c : α} : ∀ {l : List (Str × α)}, l.lookup x = some c → (x, c) ∈ l
  | [], h => by simp at h
  | (b, u) :: r, h => by
    rw [List.lookup_cons] at h
    split at h
    · rename_i q
      cases h
      rw [eq_of_beq q]
      exact List.mem_cons_self
    · exact List.mem_cons_of_mem _ (lk_mem h)
theorem tops_of {es : List (Ent T)} {v : Env0'} {K : PySem.W.Frag} {h : Heap} {mg : Str → Option Value} (X : K.In h) (G : h.Ns mainGlobals mg) (c : He.SaysD (faOf es v) (es.map (·.dd)) K) (hb : topB es v = true) : Tops K mg es v := by
  obtain ⟨b1, b2⟩ := pair_and hb
  refine ⟨fun e he => ?_, fun x hx => ?_, fun x hx => ?_, fun x k hk => ?_⟩
  · have q := List.all_eq_true.mp b1 e he
    obtain ⟨q1, q2⟩ := pair_and q
    obtain ⟨q2, q3⟩ := pair_and q2
    have q1 := of_decide_eq_true q1
    have ho := says_mem c (f := .glo e.nm) (List.mem_append_left _ (List.mem_map.mpr ⟨e, he, rfl⟩))
    obtain ⟨i, ei⟩ := List.getElem?_of_mem he
    obtain ⟨fd, F⟩ := c.def_ i (d := e.dd) (by rw [List.getElem?_map, ei]; rfl)
    have d1 : e.dd.dvs K = [] := by
      unfold He.DefD.dvs
      rw [List.isEmpty_iff.mp q2]
      rfl
    have d2 : e.dd.kws K = [] := by
      unfold He.DefD.kws
      rw [List.isEmpty_iff.mp q3]
      rfl
    rw [d1, d2] at F
    refine ⟨?_, fd, F⟩
    rw [q1]
    exact He.glo_ok X G ho
  · have h1 := says_mem c (f := .glo x) (List.mem_append_right _ (List.mem_append_left _ (List.mem_map.mpr ⟨x, hx, rfl⟩)))
    have h2 := says_mem c (f := .exc x) (List.mem_append_right _ (List.mem_append_right _ (List.mem_append_left _ (List.mem_map.mpr ⟨x, hx, rfl⟩))))
    exact ⟨He.glo_ok X G h1, He.exc_ok h2⟩
  · have h1 := says_mem c (f := .free x) (List.mem_append_right _ (List.mem_append_right _ (List.mem_append_right _ (List.mem_append_left _ (List.mem_map.mpr ⟨x, hx, rfl⟩)))))
    exact He.free_ok X G h1
  · have hm := lk_mem hk
    have q := List.all_eq_true.mp b2 _ hm
    have pos : ∀ f, (match k with | .int i => He.Fa.int x i | .str z => He.Fa.str x z | _ => He.Fa.free "__name__") = f → f.ok K = true := fun f e => says_mem c (List.mem_append_right _ (List.mem_append_right _ (List.mem_append_right _ (List.mem_append_right _ (List.mem_map.mpr ⟨_, hm, e⟩)))))
    cases k with
    | int i =>
      obtain ⟨t, e⟩ := He.int_ok X G (pos _ rfl)
      exact ⟨_, e, t, rfl⟩
    | str i =>
      obtain ⟨t, e⟩ := He.str_ok X G (pos _ rfl)
      exact ⟨_, e, t, rfl⟩
    | _ => cases q
end
/-! ### the end -/
theorem walk_bits {l : PySem.W.OpenLaw} {n k : Nat} {q : Program} {loose : List Str} {XP : (Str → Option Value) → Heap → Prop} {YP : World → Heap → Prop} {d : DefRec} {CX : World → CXT} {x : Str}
    (hn : l.most = some n) (hn2 : n ≤ sizeLine) (hdf : d.params.defaults = []) (hr : Room k callerA)
    (F : ∀ (w : World) (mg : Str → Option Value) (fa : Addr) (h : Heap), YP w h → h.Ns mainGlobals mg → mg d.name = some (.ref fa) →
      ∃ (K : PySem.W.Frag) (fd : FuncData) (sp : Sp), K.In h ∧ (∀ (s : Shared) (u : Value), BindsTo s fd ⟨[u], []⟩ [(x, u)]) ∧
        (∀ (H : Hp) (a : Addr) (ns : List Int), ns.length ≤ n → (∀ z ∈ ns, Builtin.Int.intBits z ≤ 1048576) → Only H → SqL K H a (ns.map V.int) → sp [.ref a] H (fun v _ => v = .bl true) fun _ _ _ => False) ∧
        ∀ base : Heap, K.In base → base.Ns mainGlobals mg → FnOk l.prog w K mg base (CX w) k fa fd [x] sp)
    (hCX : ∀ (w : World) (H : Hp) (s : Shared) (e : Value) (s' : Shared), CX w [] H s (fun _ _ _ => False) e s' → False) :
    PySem.W.WalkO q loose XP YP l.row.toRowW d [] (fun f vs => PySem.call f vs) := by
  refine Att.attach_callB hn hdf fun w s0 s1 mg mb fa o pm cd doc a vs ns G Y _ _ _ hmg hobj hints hlen hbits hg => ?_
  obtain ⟨K, fd, sp, KX, hb, hsp, hF⟩ := F w mg fa _ Y G.T.g hmg
  exact law_call KX G.T.g G.T.b G.T.builtins G.T.nolimit hg hobj hints (Nat.le_trans hlen hn2) hr hF hb (fun H hO hS => hsp H a ns hlen hbits hO hS) fun H e s' => hCX w H s1 e s'
/-- the whole: what is left is a fact of the small language -/
theorem law_end {T : Nat → Option Df} {l : PySem.W.OpenLaw} {k : Nat} {q : Program} {loose : List Str} {XP : (Str → Option Value) → Heap → Prop} {d : DefRec} {es : List (Ent T)} {v : Env0'} {m : Nat} {x : Str} {e : Ent T}
    (hn : l.most = some 63) (hdf : d.params.defaults = []) (hr : Room k callerA) (hd : d.name = e.nm) (he : e ∈ es) (hps : e.ps = [x]) (hb : topB es v = true) (hc : es.all (chk es v) = true)
    (main : ∀ ns : List Int, ns.length ≤ 63 → (∀ z ∈ ns, Builtin.Int.intBits z ≤ 1048576) → ∃ h', call T k e.g [.lst (ns.map .int)] [] = .ok (.bl true) h') :
    PySem.W.WalkO q loose XP (hookN m (faOf es v) (es.map (·.dd))).says l.row.toRowW d [] (fun f vs => PySem.call f vs) := by
  refine walk_bits (n := 63) (k := k) (x := x) (CX := fun w => L2.CX l.prog w) hn (by decide) hdf hr (fun w mg fa h Y G hmg => ?_) fun w H s e s' z => ?_
  · obtain ⟨K, KX, c, nl⟩ := Y
    have t := tops_of KX G c hb
    obtain ⟨a1, fd, F⟩ := t.fn e he
    rw [hd] at hmg
    have ef : fa = He.fAd K e.dd.at_ := by
      rw [hmg] at a1
      cases a1
      rfl
    subst ef
    have ck := List.all_eq_true.mp hc e he
    unfold chk at ck
    obtain ⟨ck, _⟩ := pair_and ck
    obtain ⟨ck, _⟩ := pair_and ck
    obtain ⟨ck, _⟩ := pair_and ck
    obtain ⟨_, c2⟩ := pair_and ck
    have c2 := of_decide_eq_true c2
    refine ⟨K, fd, spD (He.ga K) T k e.g, KX, fun s u => ?_, fun H a ns hl hbits hO hS => ?_, fun base B1 B2 => ?_⟩
    · have q := FunD.bindsA (ps := e.ps) F e.bind s [u] (by rw [hps]; rfl)
      rw [hps] at q
      exact q
    · obtain ⟨h', e1⟩ := main ns hl hbits
      have rd : Rd H a (.lst (ns.map V.int)) := by
        rcases hS with hS | ⟨o, its, nn, hk, ho, _⟩
        · exact hS
        · exact absurd ho (nl _ _ hk)
      refine ⟨[], [], [], [.lst (ns.map .int)], e.df, e.tab, by rw [c2, hps]; rfl, ⟨rfl, fun n o a q => by simp at q, List.nodup_nil, fun a z => by simp at z, fun a z => by simp at z⟩, .cons (.lst rd (by simp) (rps_ints ns)) .nil, ?_⟩
      rw [e1]
      intro H' ι' M' _ _ v r
      cases r
      rfl
    · have FF := defs_ok (P := l.prog) (w := w) (base := base) t hc k e he fd F
      rw [hps] at FF
      exact FF
  · obtain ⟨_, _, _, _, _, _, _, _, _, _, _, _, q⟩ := z
    exact q
end Mini


/-! the defs that the laws share, as terms -/
namespace Mini
open PySem PySem.Spec L2
def ir_is_number : Df := ⟨3, 3, (.cons (.ret (.boo .And (.cons (.isi .int (.var 0)) (.cons (.not (.isi .bool (.var 0))) (.cons (.chain .LtE .LtE (.var 1) (.var 0) (.var 2)) .nil))))) .nil)⟩
def ir_rest : Df := ⟨2, 2, (.cons (.ret (.bin .Sub (.var 0) (.bin .Mult (.bin .FloorDiv (.var 0) (.var 1)) (.var 1)))) .nil)⟩
def ir_need_user : Df := ⟨1, 1, (.cons (.ife (.boo .Or (.cons (.not (.isi .tuple (.var 0))) (.cons (.cmp .NotEq (.bi .len (.cons (.var 0) .nil)) (.k (.int 3))) (.cons (.not (.call 1 (.cons (.ix (.var 0) (.k (.int 0))) (.cons (.k (.int 0)) (.cons (.glob "GREATEST" (.int 1000000000000)) .nil))))) .nil)))) (.cons (.rais "BadUser") .nil) .nil) (.cons (.ife (.boo .Or (.cons (.not (.call 1 (.cons (.ix (.var 0) (.k (.int 1))) (.cons (.k (.int 0)) (.cons (.bin .Sub (.glob "LANDS" (.int 6)) (.k (.int 1))) .nil))))) (.cons (.not (.call 1 (.cons (.ix (.var 0) (.k (.int 2))) (.cons (.k (.int 0)) (.cons (.bin .Sub (.glob "PLANS" (.int 4)) (.k (.int 1))) .nil))))) .nil))) (.cons (.rais "BadUser") .nil) .nil) .nil))⟩
def ir_need_deal : Df := ⟨1, 1, (.cons (.ife (.boo .Or (.cons (.not (.isi .tuple (.var 0))) (.cons (.cmp .NotEq (.bi .len (.cons (.var 0) .nil)) (.k (.int 2))) .nil))) (.cons (.rais "BadDeal") .nil) .nil) (.cons (.ife (.boo .Or (.cons (.not (.call 1 (.cons (.ix (.var 0) (.k (.int 0))) (.cons (.k (.int 0)) (.cons (.bin .Sub (.glob "PLACES" (.int 100)) (.k (.int 1))) .nil))))) (.cons (.not (.call 1 (.cons (.ix (.var 0) (.k (.int 1))) (.cons (.k (.int 0)) (.cons (.bin .Sub (.glob "PLACES" (.int 100)) (.k (.int 1))) .nil))))) .nil))) (.cons (.rais "BadDeal") .nil) .nil) (.cons (.ife (.boo .Or (.cons (.cmp .Eq (.call 2 (.cons (.ix (.var 0) (.k (.int 0))) (.cons (.k (.int 2)) .nil))) (.k (.int 0))) (.cons (.cmp .Eq (.call 2 (.cons (.ix (.var 0) (.k (.int 0))) (.cons (.k (.int 5)) .nil))) (.k (.int 0))) .nil))) (.cons (.rais "BadDeal") .nil) .nil) .nil)))⟩
def ir_place_of : Df := ⟨2, 2, (.cons (.ret (.call 2 (.cons (.bin .Add (.bin .Mult (.var 0) (.ix (.var 1) (.k (.int 0)))) (.ix (.var 1) (.k (.int 1)))) (.cons (.glob "PLACES" (.int 100)) .nil)))) .nil)⟩
def ir_place : Df := ⟨2, 2, (.cons (.expr (.call 3 (.cons (.var 0) .nil))) (.cons (.expr (.call 4 (.cons (.var 1) .nil))) (.cons (.ret (.call 5 (.cons (.ix (.var 0) (.k (.int 0))) (.cons (.var 1) .nil)))) .nil)))⟩
def ir_law_cell : Df := ⟨2, 2, (.cons (.ife (.cmp .Eq (.var 0) (.lst .nil)) (.cons (.ret (.bin .Mult (.var 1) (.k (.int 7919)))) .nil) .nil) (.cons (.ret (.bin .Add (.ix (.var 0) (.bin .Mod (.var 1) (.bi .len (.cons (.var 0) .nil)))) (.bin .Mult (.bin .FloorDiv (.var 1) (.bi .len (.cons (.var 0) .nil))) (.k (.int 104729))))) .nil))⟩
def ir_law_drawn : Df := ⟨2, 3, (.cons (.set 2 (.bin .Mod (.bin .Add (.bin .Mult (.var 0) (.k (.int 6364136223846793005))) (.bin .Mult (.bin .Add (.var 1) (.k (.int 1))) (.k (.int 1442695040888963407)))) (.k (.int 340282366920938463463374607431768211507)))) (.cons (.set 2 (.bin .Mod (.bin .Mult (.var 2) (.var 2)) (.k (.int 340282366920938463463374607431768211297)))) (.cons (.set 2 (.bin .Mult (.bin .Mult (.bin .Add (.bin .Mod (.var 2) (.k (.int 18446744073709551557))) (.k (.int 1))) (.bin .Add (.bin .FloorDiv (.var 2) (.k (.int 18446744073709551557))) (.k (.int 1)))) (.var 2))) (.cons (.ret (.bin .Mod (.var 2) (.k (.int 340282366920938463463374607431768211507)))) .nil))))⟩
def ir_law_roll : Df := ⟨2, 3, (.cons (.ife (.cmp .GtE (.ix (.var 0) (.k (.int 0))) (.bin .Pow (.k (.int 10)) (.k (.int 18)))) (.cons (.set 2 (.bin .Mod (.ix (.var 0) (.k (.int 0))) (.var 1))) (.cons (.six (.var 0) (.k (.int 0)) (.bin .FloorDiv (.ix (.var 0) (.k (.int 0))) (.var 1))) (.cons (.ret (.var 2)) .nil))) .nil) (.cons (.six (.var 0) (.k (.int 1)) (.bin .Add (.ix (.var 0) (.k (.int 1))) (.k (.int 1)))) (.cons (.ret (.bin .Mod (.bin .FloorDiv (.call 8 (.cons (.ix (.var 0) (.k (.int 0))) (.cons (.ix (.var 0) (.k (.int 1))) .nil))) (.k (.int 8))) (.var 1))) .nil)))⟩
def ir_law_rounds : Df := ⟨2, 3, (.cons (.ret (.comp [("_law_k", 2)] (.nm 2) (.rng1 (.bi .max (.cons (.k (.int 1)) (.cons (.bi .min (.cons (.var 1) (.cons (.bi .len (.cons (.var 0) .nil)) .nil))) .nil)))) .no (.lstM (.cons (.call 7 (.cons (.var 0) (.cons (.var 2) .nil))) (.cons (.k (.int 0)) .nil))))) .nil)⟩
def ir_law_deal : Df := ⟨1, 1, (.cons (.ret (.tup (.cons (.bin .Add (.bin .Mult (.k (.int 10)) (.call 9 (.cons (.var 0) (.cons (.k (.int 10)) .nil)))) (.ix (.lst (.cons (.k (.int 1)) (.cons (.k (.int 3)) (.cons (.k (.int 7)) (.cons (.k (.int 9)) .nil))))) (.call 9 (.cons (.var 0) (.cons (.k (.int 4)) .nil))))) (.cons (.call 9 (.cons (.var 0) (.cons (.k (.int 100)) .nil))) .nil)))) .nil)⟩
def ir_law_user : Df := ⟨1, 2, (.cons (.set 1 (.call 9 (.cons (.var 0) (.cons (.ix (.lst (.cons (.k (.int 130)) (.cons (.bin .Pow (.k (.int 10)) (.k (.int 6))) (.cons (.bin .Add (.bin .Pow (.k (.int 10)) (.k (.int 12))) (.k (.int 1))) (.cons (.k (.int 130)) .nil))))) (.call 9 (.cons (.var 0) (.cons (.k (.int 4)) .nil)))) .nil)))) (.cons (.ret (.tup (.cons (.var 1) (.cons (.call 9 (.cons (.var 0) (.cons (.k (.int 6)) .nil))) (.cons (.call 9 (.cons (.var 0) (.cons (.k (.int 4)) .nil))) .nil))))) .nil))⟩
def ir_is_row : Df := ⟨2, 4, (.cons (.ife (.boo .Or (.cons (.not (.isi .tuple (.var 0))) (.cons (.cmp .Eq (.var 0) (.tup .nil)) (.cons (.not (.bi .all (.cons (.comp [("one", 2)] (.nm 2) (.seq (.var 0)) .no (.call 1 (.cons (.var 2) (.cons (.k (.int 0)) (.cons (.bin .Sub (.var 1) (.k (.int 1))) .nil))))) .nil))) .nil)))) (.cons (.ret (.k (.bl false))) .nil) .nil) (.cons (.ret (.bi .all (.cons (.comp [("one", 2), ("other", 3)] (.tp [(.nm 2), (.nm 3)]) (.zip (.var 0) (.sl (.var 0) (.yes (.k (.int 1))) .no)) .no (.cmp .Lt (.var 2) (.var 3))) .nil))) .nil))⟩
def ir_parts_of : Df := ⟨2, 5, (.cons (.ife (.boo .Or (.cons (.cmp .Eq (.var 1) (.k (.int 0))) (.cons (.not (.isi .tuple (.var 0))) (.cons (.cmp .Lt (.bi .len (.cons (.var 0) .nil)) (.k (.int 2))) (.cons (.not (.isi .str (.ix (.var 0) (.k (.int 0))))) .nil))))) (.cons (.ret (.k (.int 0))) .nil) .nil) (.cons (.ife (.cmp .In (.ix (.var 0) (.k (.int 0))) (.tup (.cons (.k (.str "land")) (.cons (.k (.str "plan")) .nil)))) (.cons (.ret (.bi .int (.cons (.boo .And (.cons (.cmp .Eq (.bi .len (.cons (.var 0) .nil)) (.k (.int 2))) (.cons (.call 13 (.cons (.ix (.var 0) (.k (.int 1))) (.cons (.ife (.cmp .Eq (.ix (.var 0) (.k (.int 0))) (.k (.str "land"))) (.glob "LANDS" (.int 6)) (.glob "PLANS" (.int 4))) .nil))) .nil))) .nil))) .nil) .nil) (.cons (.set 2 (.boo .Or (.cons (.boo .And (.cons (.cmp .In (.ix (.var 0) (.k (.int 0))) (.tup (.cons (.k (.str "and")) (.cons (.k (.str "or")) .nil)))) (.cons (.chain .LtE .LtE (.k (.int 3)) (.bi .len (.cons (.var 0) .nil)) (.k (.int 6))) .nil))) (.cons (.boo .And (.cons (.cmp .Eq (.ix (.var 0) (.k (.int 0))) (.k (.str "not"))) (.cons (.cmp .Eq (.bi .len (.cons (.var 0) .nil)) (.k (.int 2))) .nil))) .nil)))) (.cons (.set 3 (.ife (.var 2) (.comp [("part", 4)] (.nm 4) (.seq (.sl (.var 0) (.yes (.k (.int 1))) .no)) .no (.call 14 (.cons (.var 4) (.cons (.bin .Sub (.var 1) (.k (.int 1))) .nil)))) (.lst (.cons (.k (.int 0)) .nil)))) (.cons (.ret (.ife (.cmp .NotIn (.k (.int 0)) (.var 3)) (.bin .Add (.k (.int 1)) (.bi .sum (.cons (.var 3) .nil))) (.k (.int 0)))) .nil)))))⟩
def ir_is_condition : Df := ⟨1, 1, (.cons (.ret (.chain .LtE .LtE (.k (.int 1)) (.call 14 (.cons (.var 0) (.cons (.glob "MOST_DEEP" (.int 5)) .nil))) (.glob "MOST_PARTS" (.int 40)))) .nil)⟩
def ir_need_condition : Df := ⟨1, 1, (.cons (.ife (.not (.call 15 (.cons (.var 0) .nil))) (.cons (.rais "BadCondition") .nil) .nil) .nil)⟩
def ir_fits : Df := ⟨3, 5, (.cons (.ife (.cmp .Eq (.ix (.var 0) (.k (.int 0))) (.k (.str "land"))) (.cons (.ret (.cmp .In (.var 1) (.ix (.var 0) (.k (.int 1))))) .nil) .nil) (.cons (.ife (.cmp .Eq (.ix (.var 0) (.k (.int 0))) (.k (.str "plan"))) (.cons (.ret (.cmp .In (.var 2) (.ix (.var 0) (.k (.int 1))))) .nil) .nil) (.cons (.set 3 (.comp [("part", 4)] (.nm 4) (.seq (.sl (.var 0) (.yes (.k (.int 1))) .no)) .no (.call 17 (.cons (.var 4) (.cons (.var 1) (.cons (.var 2) .nil)))))) (.cons (.ife (.cmp .Eq (.ix (.var 0) (.k (.int 0))) (.k (.str "not"))) (.cons (.ret (.not (.ix (.var 3) (.k (.int 0))))) .nil) .nil) (.cons (.ret (.ife (.cmp .Eq (.ix (.var 0) (.k (.int 0))) (.k (.str "and"))) (.bi .all (.cons (.var 3) .nil)) (.bi .any (.cons (.var 3) .nil)))) .nil)))))⟩
def ir_holds : Df := ⟨2, 2, (.cons (.expr (.call 16 (.cons (.var 0) .nil))) (.cons (.expr (.call 3 (.cons (.var 1) .nil))) (.cons (.ret (.call 17 (.cons (.var 0) (.cons (.ix (.var 1) (.k (.int 1))) (.cons (.ix (.var 1) (.k (.int 2))) .nil))))) .nil)))⟩
def ir_all_kinds : Df := ⟨0, 3, (.cons (.set 0 (.lst .nil)) (.cons (.forr (.nm 1) (.rng1 (.glob "LANDS" (.int 6))) (.cons (.set 0 (.bin .Add (.var 0) (.comp [("plan", 2)] (.nm 2) (.rng1 (.glob "PLANS" (.int 4))) .no (.tup (.cons (.var 1) (.cons (.var 2) .nil)))))) .nil)) (.cons (.ret (.var 0)) .nil)))⟩
def ir_kinds : Df := ⟨1, 3, (.cons (.expr (.call 16 (.cons (.var 0) .nil))) (.cons (.ret (.comp [("land", 1), ("plan", 2)] (.tp [(.nm 1), (.nm 2)]) (.seq (.call 19 .nil)) (.yes (.call 17 (.cons (.var 0) (.cons (.var 1) (.cons (.var 2) .nil))))) (.tup (.cons (.var 1) (.cons (.var 2) .nil))))) .nil))⟩
def ir_law_row : Df := ⟨2, 4, (.cons (.set 2 (.comp [("_law_at", 3)] (.nm 3) (.rng1 (.var 1)) (.yes (.cmp .Eq (.call 9 (.cons (.var 0) (.cons (.k (.int 2)) .nil))) (.k (.int 0)))) (.var 3))) (.cons (.ret (.ife (.cmp .NotEq (.var 2) (.lst .nil)) (.bi .tuple (.cons (.var 2) .nil)) (.tup (.cons (.call 9 (.cons (.var 0) (.cons (.var 1) .nil))) .nil)))) .nil))⟩
def ir_law_condition : Df := ⟨2, 6, (.cons (.set 2 (.call 9 (.cons (.var 0) (.cons (.k (.int 7)) .nil)))) (.cons (.ife (.boo .Or (.cons (.cmp .Lt (.var 1) (.k (.int 2))) (.cons (.cmp .Lt (.var 2) (.k (.int 3))) .nil))) (.cons (.set 4 (.ix (.lst (.cons (.k (.str "land")) (.cons (.k (.str "plan")) .nil))) (.call 9 (.cons (.var 0) (.cons (.k (.int 2)) .nil))))) (.cons (.ret (.tup (.cons (.var 4) (.cons (.call 21 (.cons (.var 0) (.cons (.ife (.cmp .Eq (.var 4) (.k (.str "land"))) (.k (.int 6)) (.k (.int 4))) .nil))) .nil)))) .nil)) .nil) (.cons (.ife (.cmp .Eq (.var 2) (.k (.int 3))) (.cons (.ret (.tup (.cons (.k (.str "not")) (.cons (.call 22 (.cons (.var 0) (.cons (.bin .Sub (.var 1) (.k (.int 1))) .nil))) .nil)))) .nil) .nil) (.cons (.set 3 (.bin .Add (.k (.int 2)) (.bin .Mult (.bin .FloorDiv (.call 9 (.cons (.var 0) (.cons (.k (.int 3)) .nil))) (.k (.int 2))) (.bi .int (.cons (.cmp .Lt (.var 1) (.k (.int 4))) .nil))))) (.cons (.ret (.bin .Add (.tup (.cons (.ix (.lst (.cons (.k (.str "and")) (.cons (.k (.str "or")) .nil))) (.bin .Mod (.var 2) (.k (.int 2)))) .nil)) (.bi .tuple (.cons (.comp [("_law_turn", 5)] (.nm 5) (.rng1 (.var 3)) .no (.call 22 (.cons (.var 0) (.cons (.bin .Sub (.var 1) (.k (.int 1))) .nil)))) .nil)))) .nil)))))⟩
def ir_law_holds : Df := ⟨3, 4, (.cons (.ife (.cmp .In (.ix (.var 0) (.k (.int 0))) (.tup (.cons (.k (.str "land")) (.cons (.k (.str "plan")) .nil)))) (.cons (.ret (.cmp .In (.ife (.cmp .Eq (.ix (.var 0) (.k (.int 0))) (.k (.str "land"))) (.var 1) (.var 2)) (.ix (.var 0) (.k (.int 1))))) .nil) .nil) (.cons (.ife (.cmp .Eq (.ix (.var 0) (.k (.int 0))) (.k (.str "not"))) (.cons (.ret (.not (.call 23 (.cons (.ix (.var 0) (.k (.int 1))) (.cons (.var 1) (.cons (.var 2) .nil)))))) .nil) .nil) (.cons (.forr (.nm 3) (.seq (.sl (.var 0) (.yes (.k (.int 1))) .no)) (.cons (.ife (.cmp .NotEq (.call 23 (.cons (.var 3) (.cons (.var 1) (.cons (.var 2) .nil)))) (.cmp .Eq (.ix (.var 0) (.k (.int 0))) (.k (.str "and")))) (.cons (.ret (.cmp .Eq (.ix (.var 0) (.k (.int 0))) (.k (.str "or")))) .nil) .nil) .nil)) (.cons (.ret (.cmp .Eq (.ix (.var 0) (.k (.int 0))) (.k (.str "and")))) .nil))))⟩
def ir_law_kinds : Df := ⟨0, 1, (.cons (.ret (.comp [("_law_at", 0)] (.nm 0) (.rng1 (.k (.int 24))) .no (.tup (.cons (.bin .FloorDiv (.var 0) (.k (.int 4))) (.cons (.bin .Mod (.var 0) (.k (.int 4))) .nil))))) .nil)⟩
def ir_is_rule : Df := ⟨1, 1, (.cons (.ret (.boo .And (.cons (.isi .tuple (.var 0)) (.cons (.cmp .Eq (.bi .len (.cons (.var 0) .nil)) (.k (.int 2))) (.cons (.call 15 (.cons (.ix (.var 0) (.k (.int 0))) .nil)) (.cons (.call 1 (.cons (.ix (.var 0) (.k (.int 1))) (.cons (.k (.int 0)) (.cons (.glob "PLACES" (.int 100)) .nil)))) .nil)))))) .nil)⟩
def ir_are_rules : Df := ⟨1, 2, (.cons (.ret (.boo .And (.cons (.isi .tuple (.var 0)) (.cons (.cmp .LtE (.bi .len (.cons (.var 0) .nil)) (.k (.int 6))) (.cons (.bi .all (.cons (.comp [("one", 1)] (.nm 1) (.seq (.var 0)) .no (.call 25 (.cons (.var 1) .nil))) .nil)) .nil))))) .nil)⟩
def ir_need_rules : Df := ⟨1, 1, (.cons (.ife (.not (.call 26 (.cons (.var 0) .nil))) (.cons (.rais "BadRules") .nil) .nil) .nil)⟩
def ir_share_of : Df := ⟨3, 5, (.cons (.forr (.tp [(.nm 3), (.nm 4)]) (.seq (.var 0)) (.cons (.ife (.call 17 (.cons (.var 3) (.cons (.var 1) (.cons (.var 2) .nil)))) (.cons (.ret (.var 4)) .nil) .nil) .nil)) (.cons (.ret (.k (.int 0))) .nil))⟩
def ir_share : Df := ⟨2, 2, (.cons (.expr (.call 27 (.cons (.var 0) .nil))) (.cons (.expr (.call 3 (.cons (.var 1) .nil))) (.cons (.ret (.call 28 (.cons (.var 0) (.cons (.ix (.var 1) (.k (.int 1))) (.cons (.ix (.var 1) (.k (.int 2))) .nil))))) .nil)))⟩
def ir_lets : Df := ⟨3, 3, (.cons (.ret (.cmp .Lt (.call 5 (.cons (.ix (.var 2) (.k (.int 0))) (.cons (.var 1) .nil))) (.call 28 (.cons (.var 0) (.cons (.ix (.var 2) (.k (.int 1))) (.cons (.ix (.var 2) (.k (.int 2))) .nil)))))) .nil)⟩
def ir_is_let : Df := ⟨3, 3, (.cons (.expr (.call 27 (.cons (.var 0) .nil))) (.cons (.expr (.call 4 (.cons (.var 1) .nil))) (.cons (.expr (.call 3 (.cons (.var 2) .nil))) (.cons (.ret (.call 30 (.cons (.var 0) (.cons (.var 1) (.cons (.var 2) .nil))))) .nil))))⟩
def ir_law_rules : Df := ⟨2, 5, (.cons (.setO 2 .nil) (.cons (.forr (.nm 3) (.rng1 (.call 9 (.cons (.var 0) (.cons (.k (.int 4)) .nil)))) (.cons (.set 4 (.ix (.lst (.cons (.k (.int 0)) (.cons (.k (.int 100)) (.cons (.k (.int 1)) (.cons (.k (.int 99)) (.cons (.call 9 (.cons (.var 0) (.cons (.k (.int 101)) .nil))) (.cons (.call 9 (.cons (.var 0) (.cons (.k (.int 101)) .nil))) .nil))))))) (.call 9 (.cons (.var 0) (.cons (.k (.int 6)) .nil))))) (.cons (.app 2 (.tup (.cons (.call 22 (.cons (.var 0) (.cons (.var 1) .nil))) (.cons (.var 4) .nil)))) .nil))) (.cons (.ife (.cmp .Eq (.call 9 (.cons (.var 0) (.cons (.k (.int 3)) .nil))) (.k (.int 0))) (.cons (.app 2 (.tup (.cons (.tup (.cons (.k (.str "plan")) (.cons (.tup (.cons (.k (.int 0)) (.cons (.k (.int 1)) (.cons (.k (.int 2)) (.cons (.k (.int 3)) .nil))))) .nil))) (.cons (.call 9 (.cons (.var 0) (.cons (.k (.int 101)) .nil))) .nil)))) .nil) .nil) (.cons (.ret (.bi .tuple (.cons (.own 2) .nil))) .nil))))⟩
def ir_law_share : Df := ⟨3, 5, (.cons (.forr (.tp [(.nm 3), (.nm 4)]) (.seq (.var 0)) (.cons (.ife (.call 23 (.cons (.var 3) (.cons (.var 1) (.cons (.var 2) .nil)))) (.cons (.ret (.var 4)) .nil) .nil) .nil)) (.cons (.ret (.k (.int 0))) .nil))⟩
def ir_law_let : Df := ⟨3, 3, (.cons (.ret (.cmp .Lt (.bin .Mod (.bin .Add (.bin .Mult (.ix (.var 2) (.k (.int 0))) (.ix (.var 1) (.k (.int 0)))) (.ix (.var 1) (.k (.int 1)))) (.k (.int 100))) (.call 33 (.cons (.var 0) (.cons (.ix (.var 2) (.k (.int 1))) (.cons (.ix (.var 2) (.k (.int 2))) .nil)))))) .nil)⟩
def ir_law_wider : Df := ⟨2, 4, (.cons (.ret (.bi .tuple (.cons (.comp [("_law_condition_here", 2), ("_law_many", 3)] (.tp [(.nm 2), (.nm 3)]) (.seq (.var 0)) .no (.tup (.cons (.var 2) (.cons (.bi .min (.cons (.k (.int 100)) (.cons (.bin .Add (.var 3) (.bin .Mult (.call 9 (.cons (.var 1) (.cons (.k (.int 3)) .nil))) (.call 9 (.cons (.var 1) (.cons (.k (.int 40)) .nil))))) .nil))) .nil)))) .nil))) .nil)⟩
def ir_met_by : Df := ⟨3, 6, (.cons (.forr (.tp [(.nm 3), (.tp [(.nm 4), (.nm 5)])]) (.enm (.var 0)) (.cons (.ife (.call 17 (.cons (.var 4) (.cons (.var 1) (.cons (.var 2) .nil)))) (.cons (.ret (.var 3)) .nil) .nil) .nil)) (.cons (.ret (.k .non)) .nil))⟩
def ir_idle : Df := ⟨1, 5, (.cons (.expr (.call 27 (.cons (.var 0) .nil))) (.cons (.set 1 (.comp [("land", 3), ("plan", 4)] (.tp [(.nm 3), (.nm 4)]) (.seq (.call 19 .nil)) .no (.call 36 (.cons (.var 0) (.cons (.var 3) (.cons (.var 4) .nil)))))) (.cons (.ret (.comp [("at", 2)] (.nm 2) (.rng1 (.bi .len (.cons (.var 0) .nil))) (.yes (.cmp .NotIn (.var 2) (.var 1))) (.var 2))) .nil)))⟩
def ir_plain : Df := ⟨1, 3, (.cons (.expr (.call 27 (.cons (.var 0) .nil))) (.cons (.ret (.comp [("land", 1)] (.nm 1) (.rng1 (.glob "LANDS" (.int 6))) .no (.comp [("plan", 2)] (.nm 2) (.rng1 (.glob "PLANS" (.int 4))) .no (.call 28 (.cons (.var 0) (.cons (.var 1) (.cons (.var 2) .nil))))))) .nil))⟩
def ir_users_from : Df := ⟨2, 6, (.cons (.set 2 (.lst .nil)) (.cons (.forr (.nm 3) (.rng2 (.var 0) (.bi .min (.cons (.bin .Add (.var 0) (.glob "PLACES" (.int 100))) (.cons (.bin .Add (.var 1) (.k (.int 1))) .nil)))) (.cons (.set 2 (.bin .Add (.var 2) (.comp [("land", 4), ("plan", 5)] (.tp [(.nm 4), (.nm 5)]) (.seq (.call 19 .nil)) .no (.tup (.cons (.var 3) (.cons (.var 4) (.cons (.var 5) .nil))))))) .nil)) (.cons (.ret (.var 2)) .nil)))⟩
def ir_loser_of : Df := ⟨3, 4, (.cons (.forr (.nm 3) (.seq (.call 39 (.cons (.k (.int 0)) (.cons (.glob "PLACES" (.int 100)) .nil)))) (.cons (.ife (.boo .And (.cons (.call 30 (.cons (.var 0) (.cons (.var 2) (.cons (.var 3) .nil)))) (.cons (.not (.call 30 (.cons (.var 1) (.cons (.var 2) (.cons (.var 3) .nil))))) .nil))) (.cons (.ret (.var 3)) .nil) .nil) .nil)) (.cons (.ret (.k .non)) .nil))⟩
def ir_loser : Df := ⟨3, 3, (.cons (.expr (.call 27 (.cons (.var 0) .nil))) (.cons (.expr (.call 27 (.cons (.var 1) .nil))) (.cons (.expr (.call 4 (.cons (.var 2) .nil))) (.cons (.ret (.call 40 (.cons (.var 0) (.cons (.var 1) (.cons (.var 2) .nil))))) .nil))))⟩
def ir_law_users : Df := ⟨2, 5, (.cons (.set 2 (.lst .nil)) (.cons (.forr (.nm 3) (.rng2 (.var 0) (.bin .Add (.var 1) (.k (.int 1)))) (.cons (.set 2 (.bin .Add (.var 2) (.comp [("_law_kind", 4)] (.nm 4) (.seq (.call 24 .nil)) .no (.bin .Add (.tup (.cons (.var 3) .nil)) (.var 4))))) .nil)) (.cons (.ret (.var 2)) .nil)))⟩
def ir_is_shares : Df := ⟨1, 3, (.cons (.ife (.boo .Or (.cons (.not (.isi .list (.var 0))) (.cons (.cmp .NotEq (.bi .len (.cons (.var 0) .nil)) (.glob "LANDS" (.int 6))) .nil))) (.cons (.ret (.k (.bl false))) .nil) .nil) (.cons (.forr (.nm 1) (.seq (.var 0)) (.cons (.ife (.boo .Or (.cons (.not (.isi .list (.var 1))) (.cons (.cmp .NotEq (.bi .len (.cons (.var 1) .nil)) (.glob "PLANS" (.int 4))) (.cons (.not (.bi .all (.cons (.comp [("one", 2)] (.nm 2) (.seq (.var 1)) .no (.call 1 (.cons (.var 2) (.cons (.k (.int 0)) (.cons (.glob "PLACES" (.int 100)) .nil))))) .nil))) .nil)))) (.cons (.ret (.k (.bl false))) .nil) .nil) .nil)) (.cons (.ret (.k (.bl true))) .nil)))⟩
def ir_any_of : Df := ⟨1, 1, (.cons (.ife (.cmp .Eq (.bi .len (.cons (.var 0) .nil)) (.k (.int 1))) (.cons (.ret (.ix (.var 0) (.k (.int 0)))) .nil) .nil) (.cons (.ife (.cmp .Lt (.bi .len (.cons (.var 0) .nil)) (.k (.int 6))) (.cons (.ret (.bin .Add (.tup (.cons (.k (.str "or")) .nil)) (.bi .tuple (.cons (.var 0) .nil)))) .nil) .nil) (.cons (.ret (.bin .Add (.bin .Add (.tup (.cons (.k (.str "or")) .nil)) (.bi .tuple (.cons (.sl (.var 0) .no (.yes (.k (.int 4)))) .nil))) (.tup (.cons (.bin .Add (.tup (.cons (.k (.str "or")) .nil)) (.bi .tuple (.cons (.sl (.var 0) (.yes (.k (.int 4))) .no) .nil))) .nil)))) .nil)))⟩
def ir_is_step : Df := ⟨1, 1, (.cons (.ret (.boo .And (.cons (.isi .tuple (.var 0)) (.cons (.cmp .Eq (.bi .len (.cons (.var 0) .nil)) (.k (.int 2))) (.cons (.call 1 (.cons (.ix (.var 0) (.k (.int 0))) (.cons (.k (.int 0)) (.cons (.glob "LAST_DAY" (.int 10000)) .nil)))) (.cons (.call 26 (.cons (.ix (.var 0) (.k (.int 1))) .nil)) .nil)))))) .nil)⟩
def ir_need_course : Df := ⟨1, 3, (.cons (.ife (.boo .Or (.cons (.not (.isi .tuple (.var 0))) (.cons (.not (.chain .LtE .LtE (.k (.int 1)) (.bi .len (.cons (.var 0) .nil)) (.k (.int 8)))) (.cons (.not (.bi .all (.cons (.comp [("one", 1)] (.nm 1) (.seq (.var 0)) .no (.call 47 (.cons (.var 1) .nil))) .nil))) .nil)))) (.cons (.rais "BadDay") .nil) .nil) (.cons (.forr (.tp [(.nm 1), (.nm 2)]) (.zip (.var 0) (.sl (.var 0) (.yes (.k (.int 1))) .no)) (.cons (.ife (.cmp .GtE (.ix (.var 1) (.k (.int 0))) (.ix (.var 2) (.k (.int 0)))) (.cons (.rais "BadDay") .nil) .nil) .nil)) .nil))⟩
def ir_need_day : Df := ⟨1, 1, (.cons (.ife (.not (.call 1 (.cons (.var 0) (.cons (.k (.int 0)) (.cons (.glob "LAST_DAY" (.int 10000)) .nil))))) (.cons (.rais "BadDay") .nil) .nil) .nil)⟩
def ir_rules_on : Df := ⟨2, 5, (.cons (.expr (.call 48 (.cons (.var 0) .nil))) (.cons (.expr (.call 49 (.cons (.var 1) .nil))) (.cons (.set 2 (.tup .nil)) (.cons (.forr (.tp [(.nm 3), (.nm 4)]) (.seq (.var 0)) (.cons (.ife (.cmp .LtE (.var 3) (.var 1)) (.cons (.set 2 (.var 4)) .nil) .nil) .nil)) (.cons (.ret (.var 2)) .nil)))))⟩
def ir_day_of : Df := ⟨3, 5, (.cons (.expr (.call 48 (.cons (.var 0) .nil))) (.cons (.expr (.call 4 (.cons (.var 1) .nil))) (.cons (.expr (.call 3 (.cons (.var 2) .nil))) (.cons (.forr (.tp [(.nm 3), (.nm 4)]) (.seq (.var 0)) (.cons (.ife (.call 30 (.cons (.var 4) (.cons (.var 1) (.cons (.var 2) .nil)))) (.cons (.ret (.var 3)) .nil) .nil) .nil)) (.cons (.ret (.k .non)) .nil)))))⟩
def ir_law_course : Df := ⟨2, 6, (.cons (.par3O 3 4 5 (.call 9 (.cons (.var 0) (.cons (.k (.int 20)) .nil))) (.call 32 (.cons (.var 0) (.cons (.k (.int 2)) .nil)))) (.cons (.forr (.nm 2) (.rng1 (.bin .Add (.k (.int 1)) (.call 9 (.cons (.var 0) (.cons (.k (.int 5)) .nil))))) (.cons (.app 3 (.tup (.cons (.var 4) (.cons (.var 5) .nil)))) (.cons (.set 4 (.bin .Add (.bin .Add (.var 4) (.k (.int 1))) (.bin .Mult (.call 9 (.cons (.var 0) (.cons (.k (.int 3)) .nil))) (.call 9 (.cons (.var 0) (.cons (.k (.int 30)) .nil)))))) (.cons (.set 5 (.ife (.boo .Or (.cons (.var 1) (.cons (.cmp .Eq (.call 9 (.cons (.var 0) (.cons (.k (.int 2)) .nil))) (.k (.int 0))) .nil))) (.call 35 (.cons (.var 5) (.cons (.var 0) .nil))) (.call 32 (.cons (.var 0) (.cons (.k (.int 2)) .nil))))) (.cons (.ife (.cmp .Eq (.call 9 (.cons (.var 0) (.cons (.k (.int 6)) .nil))) (.k (.int 0))) (.cons (.set 5 (.tup (.cons (.tup (.cons (.tup (.cons (.k (.str "plan")) (.cons (.tup (.cons (.k (.int 0)) (.cons (.k (.int 1)) (.cons (.k (.int 2)) (.cons (.k (.int 3)) .nil))))) .nil))) (.cons (.k (.int 100)) .nil))) .nil))) .nil) .nil) .nil))))) (.cons (.ret (.bi .tuple (.cons (.own 3) .nil))) .nil)))⟩
def ir_law_rules_on : Df := ⟨2, 5, (.cons (.set 2 (.comp [("_law_begin", 3), ("_law_rules_here", 4)] (.tp [(.nm 3), (.nm 4)]) (.seq (.var 0)) (.yes (.cmp .LtE (.var 3) (.var 1))) (.var 4))) (.cons (.ret (.ife (.cmp .NotEq (.var 2) (.lst .nil)) (.ix (.var 2) (.neg (.k (.int 1)))) (.tup .nil))) .nil))⟩
def ir_lost : Df := ⟨2, 7, (.cons (.expr (.call 48 (.cons (.var 0) .nil))) (.cons (.expr (.call 4 (.cons (.var 1) .nil))) (.cons (.forr (.tp [(.tp [(.nm 3), (.nm 4)]), (.tp [(.nm 5), (.nm 6)])]) (.zip (.var 0) (.sl (.var 0) (.yes (.k (.int 1))) .no)) (.cons (.set 2 (.call 40 (.cons (.var 4) (.cons (.var 6) (.cons (.var 1) .nil))))) (.cons (.ife (.cmp .IsNot (.var 2) (.k .non)) (.cons (.ret (.tup (.cons (.var 5) (.cons (.var 2) .nil)))) .nil) .nil) .nil))) (.cons (.ret (.k .non)) .nil))))⟩
def ir_lets_all : Df := ⟨1, 3, (.cons (.ret (.bi .all (.cons (.comp [("land", 1), ("plan", 2)] (.tp [(.nm 1), (.nm 2)]) (.seq (.call 19 .nil)) .no (.cmp .Eq (.call 28 (.cons (.var 0) (.cons (.var 1) (.cons (.var 2) .nil)))) (.glob "PLACES" (.int 100)))) .nil))) .nil)⟩
def ir_whole_day : Df := ⟨1, 4, (.cons (.expr (.call 48 (.cons (.var 0) .nil))) (.cons (.set 1 (.k .non)) (.cons (.forr (.tp [(.nm 2), (.nm 3)]) (.seq (.var 0)) (.cons (.ife (.not (.call 55 (.cons (.var 3) .nil))) (.cons (.set 1 (.k .non)) .nil) (.cons (.ife (.cmp .Is (.var 1) (.k .non)) (.cons (.set 1 (.var 2)) .nil) .nil) .nil)) .nil)) (.cons (.ret (.var 1)) .nil))))⟩
def T0 : Nat → Option Df
  | 1 => some ir_is_number
  | 2 => some ir_rest
  | 3 => some ir_need_user
  | 4 => some ir_need_deal
  | 5 => some ir_place_of
  | 6 => some ir_place
  | 7 => some ir_law_cell
  | 8 => some ir_law_drawn
  | 9 => some ir_law_roll
  | 10 => some ir_law_rounds
  | 11 => some ir_law_deal
  | 12 => some ir_law_user
  | 13 => some ir_is_row
  | 14 => some ir_parts_of
  | 15 => some ir_is_condition
  | 16 => some ir_need_condition
  | 17 => some ir_fits
  | 18 => some ir_holds
  | 19 => some ir_all_kinds
  | 20 => some ir_kinds
  | 21 => some ir_law_row
  | 22 => some ir_law_condition
  | 23 => some ir_law_holds
  | 24 => some ir_law_kinds
  | 25 => some ir_is_rule
  | 26 => some ir_are_rules
  | 27 => some ir_need_rules
  | 28 => some ir_share_of
  | 29 => some ir_share
  | 30 => some ir_lets
  | 31 => some ir_is_let
  | 32 => some ir_law_rules
  | 33 => some ir_law_share
  | 34 => some ir_law_let
  | 35 => some ir_law_wider
  | 36 => some ir_met_by
  | 37 => some ir_idle
  | 38 => some ir_plain
  | 39 => some ir_users_from
  | 40 => some ir_loser_of
  | 41 => some ir_loser
  | 42 => some ir_law_users
  | 43 => some ir_is_shares
  | 44 => some ir_any_of
  | 47 => some ir_is_step
  | 48 => some ir_need_course
  | 49 => some ir_need_day
  | 50 => some ir_rules_on
  | 51 => some ir_day_of
  | 52 => some ir_law_course
  | 53 => some ir_law_rules_on
  | 54 => some ir_lost
  | 55 => some ir_lets_all
  | 56 => some ir_whole_day
  | _ => none
end Mini

/-! D1: reckoning with the small language. -/
namespace Mini
open PySem PySem.Spec L2
section
variable {α β : Type}
theorem nat_c {n : Nat} : ((no_index (OfNat.ofNat n) : Nat) : Int) = OfNat.ofNat n := rfl
theorem asg_nm {i : Nat} {d : D} {ρ : Ev} : asg (.nm i) d ρ = if decide (i < ρ.length) then some (ρ.set i (some (.val d))) else none := rfl
theorem asg_tp {l : List Tg} {xs : List D} {ρ : Ev} : asg (.tp l) (.tup xs) ρ = asgs l xs ρ := rfl
theorem asgs_nil {ρ : Ev} : asgs [] [] ρ = some ρ := rfl
theorem asgs_cons {t : Tg} {l : List Tg} {x : D} {xs : List D} {ρ : Ev} : asgs (t :: l) (x :: xs) ρ = (asg t x ρ).bind fun ρ1 => asgs l xs ρ1 := rfl
theorem evSs_cons {C : Orc} {a : IS} {l : ISs} {ρ : Ev} {h : Hd} : evSs C (.cons a l) ρ h = (evS C a ρ h).seq fun ρ h => evSs C l ρ h := rfl
theorem evSs_nil {C : Orc} {ρ : Ev} {h : Hd} : evSs C .nil ρ h = .nx ρ h := rfl
theorem bq1 : (true == true) = true := rfl
theorem bq2 : (false == true) = false := rfl
theorem bq3 : (true == false) = false := rfl
theorem bq4 : (false == false) = true := rfl
theorem bind_ok (a : α) (h : Hd) (f : α → Hd → Out β) : (Out.ok a h).bind f = f a h := rfl
theorem bind_exc (x : Exn) (h : Hd) (f : α → Hd → Out β) : (Out.exc x h).bind f = .exc x h := rfl
theorem bind_bad (f : α → Hd → Out β) : (Out.bad : Out α).bind f = .bad := rfl
theorem bind_ite {c : Prop} [Decidable c] (x y : Out α) (f : α → Hd → Out β) : (if c then x else y).bind f = if c then x.bind f else y.bind f := by split <;> rfl
theorem of_somE (a : α) (h : Hd) : Out.of (some a) h = .ok a h := rfl
theorem of_noneE (h : Hd) : Out.of (none : Option α) h = .bad := rfl
theorem sof_ok (a : α) (h : Hd) (f : α → Hd → SO) : SO.of (Out.ok a h) f = f a h := rfl
theorem sof_exc (x : Exn) (h : Hd) (f : α → Hd → SO) : SO.of (Out.exc x h) f = .exc x h := rfl
theorem sof_bad (f : α → Hd → SO) : SO.of (Out.bad : Out α) f = .bad := rfl
theorem sof_ite {c : Prop} [Decidable c] (x y : Out α) (f : α → Hd → SO) : SO.of (if c then x else y) f = if c then SO.of x f else SO.of y f := by split <;> rfl
theorem seq_nx (ρ : Ev) (h : Hd) (f : Ev → Hd → SO) : (SO.nx ρ h).seq f = f ρ h := rfl
theorem seq_rt (d : D) (h : Hd) (f : Ev → Hd → SO) : (SO.rt d h).seq f = .rt d h := rfl
theorem seq_exc (d : Exn) (h : Hd) (f : Ev → Hd → SO) : (SO.exc d h).seq f = .exc d h := rfl
theorem seq_bad (f : Ev → Hd → SO) : SO.bad.seq f = .bad := rfl
theorem seq_ite {c : Prop} [Decidable c] (x y : SO) (f : Ev → Hd → SO) : (if c then x else y).seq f = if c then x.seq f else y.seq f := by split <;> rfl
theorem out_nx (ρ : Ev) (h : Hd) : outOf (.nx ρ h) = .ok .non h := rfl
theorem out_rt (d : D) (h : Hd) : outOf (.rt d h) = .ok d h := rfl
theorem out_exc (d : Exn) (h : Hd) : outOf (.exc d h) = .exc d h := rfl
theorem out_ite {c : Prop} [Decidable c] (x y : SO) : outOf (if c then x else y) = if c then outOf x else outOf y := by split <;> rfl
theorem nox_ok (a : α) (h : Hd) : (Out.ok a h).nox = .ok a h := rfl
theorem truth_bl (b : Bool) : (D.bl b).truth = some b := rfl
theorem dif_true {γ : Type} (x y : γ) : (if true = true then x else y) = x := rfl
theorem dif_false {γ : Type} (x y : γ) : (if false = true then x else y) = y := rfl
/-- it comes to an end, of which .. -/
def Okk (o : Out α) (Q : α → Hd → Prop) : Prop := match o with
  | .ok a h => Q a h
  | _ => False
theorem Okk.bind {o : Out α} {f : α → Hd → Out β} {Q : β → Hd → Prop} (p : Okk o fun a h => Okk (f a h) Q) : Okk (o.bind f) Q := by
  cases o with
  | ok a h => exact p
  | _ => exact p.elim
theorem okk_bind (o : Out α) (f : α → Hd → Out β) (Q : β → Hd → Prop) : Okk (o.bind f) Q = Okk o fun a h => Okk (f a h) Q := by
  cases o <;> rfl
theorem okk_ok (a : α) (h : Hd) (Q : α → Hd → Prop) : Okk (.ok a h) Q = Q a h := rfl
theorem Okk.mono {o : Out α} {Q R : α → Hd → Prop} (p : Okk o Q) (k : ∀ a h, Q a h → R a h) : Okk o R := by
  cases o with
  | ok a h => exact k a h p
  | _ => exact p.elim
theorem Okk.get {o : Out α} {Q : α → Hd → Prop} (p : Okk o Q) : ∃ a h, o = .ok a h ∧ Q a h := by
  cases o with
  | ok a h => exact ⟨a, h, rfl, p⟩
  | _ => exact p.elim
theorem Okk.of {o : Out α} {Q : α → Hd → Prop} {a : α} {h : Hd} (e : o = .ok a h) (q : Q a h) : Okk o Q := by subst e; exact q
theorem okk_nox (o : Out α) (Q : α → Hd → Prop) : Okk o.nox Q = Okk o Q := by cases o <;> rfl
theorem okk_if (c : Bool) (o : Out α) (Q : α → Hd → Prop) : Okk (if c = true then o else .bad) Q = (c = true ∧ Okk o Q) := by
  cases c with
  | true => exact propext ⟨fun z => ⟨rfl, z⟩, fun z => z.2⟩
  | false => exact propext ⟨fun z => z.elim, fun z => nomatch z.1⟩
def Oks (o : SO) (N : Ev → Hd → Prop) (R : D → Hd → Prop) : Prop := match o with
  | .nx ρ h => N ρ h
  | .rt d h => R d h
  | _ => False
theorem oks_seq (o : SO) (f : Ev → Hd → SO) (N : Ev → Hd → Prop) (R : D → Hd → Prop) : Oks (o.seq f) N R = Oks o (fun ρ h => Oks (f ρ h) N R) R := by cases o <;> rfl
theorem oks_of (o : Out α) (f : α → Hd → SO) (N : Ev → Hd → Prop) (R : D → Hd → Prop) : Oks (SO.of o f) N R = Okk o fun a h => Oks (f a h) N R := by cases o <;> rfl
theorem oks_nx (ρ : Ev) (h : Hd) (N : Ev → Hd → Prop) (R : D → Hd → Prop) : Oks (.nx ρ h) N R = N ρ h := rfl
theorem oks_rt (d : D) (h : Hd) (N : Ev → Hd → Prop) (R : D → Hd → Prop) : Oks (.rt d h) N R = R d h := rfl
theorem Oks.mono {o : SO} {N N' : Ev → Hd → Prop} {R R' : D → Hd → Prop} (p : Oks o N R) (k : ∀ ρ h, N ρ h → N' ρ h) (k2 : ∀ d h, R d h → R' d h) : Oks o N' R' := by
  cases o with
  | nx ρ h => exact k _ _ p
  | rt d h => exact k2 _ _ p
  | _ => exact p.elim
theorem okk_out (o : SO) (Q : D → Hd → Prop) : Okk (outOf o) Q = Oks o (fun _ h => Q .non h) Q := by cases o <;> rfl
theorem okk_of (o : Option α) (h : Hd) (Q : α → Hd → Prop) : Okk (Out.of o h) Q = ∃ a, o = some a ∧ Q a h := by
  cases o with
  | none => exact propext ⟨fun z => z.elim, fun ⟨_, z, _⟩ => nomatch z⟩
  | some a => exact propext ⟨fun z => ⟨a, rfl, z⟩, fun ⟨b, e, z⟩ => by cases e; exact z⟩
end
theorem ix_set {h : Hd} {i : Nat} {x : DO} (hi : i < h.length) : (h.set i x)[i]? = some x := List.getElem?_set_self hi
theorem set_len {h : Hd} {i : Nat} {x : DO} : (h.set i x).length = h.length := List.length_set
theorem set2 {h : Hd} {i : Nat} {x y : DO} : (h.set i x).set i y = h.set i y := List.set_set ..

def Exts (T : Nat → Option Df) : Prop := ∀ g f, T0 g = some f → T g = some f
section
variable {T : Nat → Option Df} (hT : Exts T)
include hT
theorem callT {n g : Nat} {f : Df} {ds : List D} {h : Hd} (e : T0 g = some f) : call T (n + 1) g ds h = runD (call T n) f ds h := by
  show (match T g with | some f => runD (call T n) f ds h | none => .bad) = _
  rw [hT g f e]
end

/-! ### operators on written forms -/
section
variable {h : Hd}
theorem b_add (i j : Int) : binD .Add (.int i) (.int j) = some (.int (i + j)) := rfl
theorem b_sub (i j : Int) : binD .Sub (.int i) (.int j) = some (.int (i - j)) := rfl
theorem b_mul {i j : Int} (h : i.natAbs.log2 + j.natAbs.log2 < 134000000) : binD .Mult (.int i) (.int j) = some (.int (i * j)) := by simp only [binD, h, decide_true, if_true]
theorem b_fdiv {i j : Int} (h1 : 0 < j) (h2 : j.natAbs.log2 < 9000) : binD .FloorDiv (.int i) (.int j) = some (.int (i / j)) := by simp only [binD, h1, h2, decide_true, Bool.and_self, if_true]
theorem b_mod {i j : Int} (h1 : 0 < j) : binD .Mod (.int i) (.int j) = some (.int (i % j)) := by simp only [binD, h1, decide_true, if_true]
theorem b_pow {i j : Int} (h1 : 0 ≤ j) (h2 : j ≤ 1000000) (h3 : i.natAbs < 2 ^ 64) : binD .Pow (.int i) (.int j) = some (.int (i ^ j.toNat)) := by simp only [binD, h1, h2, h3, decide_true, Bool.and_self, if_true]
theorem b_tup {xs ys : List D} (h : xs.length + ys.length ≤ 1000000) : binD .Add (.tup xs) (.tup ys) = some (.tup (xs ++ ys)) := by simp only [binD, h, decide_true, if_true]
theorem b_lst {xs ys : List D} (h : xs.length + ys.length ≤ 1000000) : binD .Add (.lst xs) (.lst ys) = some (.lst (xs ++ ys)) := by simp only [binD, h, decide_true, if_true]
theorem k_lt (i j : Int) : cmpD .Lt (.int i) (.int j) = some (decide (i < j)) := rfl
theorem k_le (i j : Int) : cmpD .LtE (.int i) (.int j) = some (decide (i ≤ j)) := rfl
theorem k_gt (i j : Int) : cmpD .Gt (.int i) (.int j) = some (decide (j < i)) := rfl
theorem k_ge (i j : Int) : cmpD .GtE (.int i) (.int j) = some (decide (j ≤ i)) := rfl
theorem k_eq (i j : Int) : cmpD .Eq (.int i) (.int j) = some (decide (i = j)) := by simp [cmpD, D.okEq, D.nr, D.dp, D.eqv, Bool.beq_eq_decide_eq]
theorem k_ne (i j : Int) : cmpD .NotEq (.int i) (.int j) = some (!decide (i = j)) := by simp [cmpD, D.okEq, D.nr, D.dp, D.eqv, Bool.beq_eq_decide_eq]
theorem k_eqD {a b : D} (h : D.okEq a b = true) : cmpD .Eq a b = some (D.eqv a b) := by simp only [cmpD, h, if_true]
theorem k_neD {a b : D} (h : D.okEq a b = true) : cmpD .NotEq a b = some (!D.eqv a b) := by simp only [cmpD, h, if_true]
theorem k_isN (x : D) : cmpD .Is x .non = some (match x with | .non => true | _ => false) := rfl
theorem k_isnN (x : D) : cmpD .IsNot x .non = some (match x with | .non => false | _ => true) := rfl
theorem s_lst (xs : List D) : seqD h (.lst xs) = some xs := rfl
theorem s_tup (xs : List D) : seqD h (.tup xs) = some xs := rfl
theorem s_ref {n : Nat} {xs : List D} (e : h[n]? = some (.lst xs)) : seqD h (.ref n) = some xs := by simp only [seqD, e]
theorem x_ok {a : D} {xs : List D} {i : Int} {k : Nat} (e : seqD h a = some xs) (e2 : L2.ixN xs.length i = some k) : ixD h a (.int i) = xs[k]? := by simp only [ixD, e, e2]
theorem ix_nat {n k : Nat} (h : k < n) : L2.ixN n (k : Int) = some k := by
  unfold L2.ixN
  rw [if_pos (by omega), if_pos (by omega)]
  simp
theorem ix_pos {n : Nat} {i : Int} (h0 : 0 ≤ i) (h : i < n) : L2.ixN n i = some i.toNat := by
  unfold L2.ixN
  rw [if_pos h0, if_pos h]
/-- an item of a tuple, a list -/
theorem x_tup {xs : List D} {i : Int} (h0 : 0 ≤ i) (hi : i < xs.length) : ixD h (.tup xs) (.int i) = xs[i.toNat]? := x_ok rfl (ix_pos h0 hi)
theorem x_lst {xs : List D} {i : Int} (h0 : 0 ≤ i) (hi : i < xs.length) : ixD h (.lst xs) (.int i) = xs[i.toNat]? := x_ok rfl (ix_pos h0 hi)
end
/-! ### dice -/
abbrev dc (a b : Int) : DO := .lst [.int a, .int b]
theorem x_dc0 {h : Hd} {i : Nat} {a b : Int} (hi : i < h.length) : ixD (h.set i (dc a b)) (.ref i) (.int 0) = some (.int a) := by
  rw [x_ok (s_ref (ix_set hi)) (k := 0) rfl]
  rfl
theorem x_dc1 {h : Hd} {i : Nat} {a b : Int} (hi : i < h.length) : ixD (h.set i (dc a b)) (.ref i) (.int 1) = some (.int b) := by
  rw [x_ok (s_ref (ix_set hi)) (k := 1) rfl]
  rfl

theorem ixc0 {n : Nat} : L2.ixN (n + 1) (0 : Int) = some 0 := by
  unfold L2.ixN
  rw [if_pos (by decide), if_pos (by omega)]
  rfl
theorem ixc1 {n : Nat} : L2.ixN (n + 2) (1 : Int) = some 1 := by
  unfold L2.ixN
  rw [if_pos (by decide), if_pos (by omega)]
  rfl
theorem ixc2 {n : Nat} : L2.ixN (n + 3) (2 : Int) = some 2 := by
  unfold L2.ixN
  rw [if_pos (by decide), if_pos (by omega)]
  rfl
theorem ixc3 {n : Nat} : L2.ixN (n + 4) (3 : Int) = some 3 := by
  unfold L2.ixN
  rw [if_pos (by decide), if_pos (by omega)]
  rfl
theorem lg {x : Int} {k : Nat} (h0 : 0 < k) (h : x.natAbs < 2 ^ k) : x.natAbs.log2 < k := PySem.Flt.log2_lt_of h0 h
theorem lgs {x : Int} {k : Nat} (m : Int) (h0 : 0 < k) (h1 : 0 ≤ x) (h2 : x < m) (hm : m.natAbs ≤ 2 ^ k) : x.natAbs.log2 < k := lg h0 (by omega)
abbrev P1 : Int := 340282366920938463463374607431768211507
abbrev P2 : Int := 340282366920938463463374607431768211297
abbrev P3 : Int := 18446744073709551557
/-- r more draws may come -/
def Dc (r a b : Int) : Prop := a.natAbs < 2 ^ 1100000 ∧ 0 ≤ b ∧ b + r ≤ 10 ^ 18
theorem Dc.less {r s a b : Int} (d : Dc r a b) (h : s ≤ r) : Dc s a b := ⟨d.1, d.2.1, by have := d.2.2; omega⟩
theorem abs_ediv {a m : Int} (h0 : 0 ≤ a) (hm : 0 < m) : (a / m).natAbs ≤ a.natAbs := by
  have h1 : 0 ≤ a / m := Int.ediv_nonneg h0 (by omega)
  have h2 : a / m ≤ a := Int.ediv_le_self _ h0
  omega
theorem P2s : P2 < 2 ^ 129 := by decide +kernel
theorem P3s : P3 < 2 ^ 129 := by decide +kernel
/-! ### small defs -/
section
variable {T : Nat → Option Df} (hT : Exts T) {n : Nat} {h : Hd}
include hT
theorem c_rest (a b : Int) (hb : 0 < b) (h1 : b.natAbs.log2 < 9000) (h2 : (a / b).natAbs.log2 + b.natAbs.log2 < 134000000) : call T (n + 1) 2 [.int a, .int b] h = .ok (.int (a % b)) h := by
  rw [callT hT (show T0 2 = some ir_rest from rfl)]
  have e : a - a / b * b = a % b := by
    have := Int.emod_add_mul_ediv a b
    rw [Int.mul_comm] at this
    omega
  unfold ir_rest
  (try simp -implicitDefEqProofs only [runD, evSs, evS, evE, evB, evA, evAV, evO, evC, evI, vw, Mini.start, bind_ok, bind_exc, bind_bad, bind_ite, of_somE, of_noneE, sof_ok, sof_exc, sof_bad, sof_ite, seq_nx, seq_rt, seq_exc, seq_bad, seq_ite, out_nx, out_rt, out_exc, out_ite, nox_ok, truth_bl, dif_true, dif_false, Ck.d, List.map_cons, List.map_nil, List.length_cons, List.length_nil, List.replicate, List.cons_append, List.nil_append, List.append_nil, List.getElem?_cons_zero, List.getElem?_cons_succ, List.set_cons_zero, List.set_cons_succ, Option.map_some, decide_true, decide_false, set2, set_len, asg_nm, asg_tp, asgs_nil, asgs_cons, Option.bind_some, wipeE, b_add, b_sub, k_lt, k_le, k_gt, k_ge, k_eq, k_ne, k_isN, k_isnN, s_lst, s_tup, Bool.and_true, Bool.true_and, if_true, if_false, reduceCtorEq, Nat.reduceAdd, Nat.reduceSub, Nat.reduceLT, Nat.reduceLeDiff, Nat.reduceEqDiff, Bool.and_false, Bool.false_and, Bool.not_true, Bool.not_false, Bool.false_eq_true, okk_bind, okk_ok, okk_nox, okk_out, oks_seq, oks_of, oks_nx, oks_rt, ixc0, ixc1, ixc2, ixc3, nat_c, Int.reduceSub, Int.reduceAdd, Int.reduceEq, Int.reduceLT, Int.reduceLE, Int.reduceMul, Bool.or_false, Bool.false_or, Bool.true_or, Bool.or_true, Bool.or_self, Bool.and_self, List.isEmpty_nil, List.isEmpty_cons, bq1, bq2, bq3, bq4, cond_true, cond_false, eq_self])
  simp only [b_fdiv hb h1]
  (try simp -implicitDefEqProofs only [runD, evSs, evS, evE, evB, evA, evAV, evO, evC, evI, vw, Mini.start, bind_ok, bind_exc, bind_bad, bind_ite, of_somE, of_noneE, sof_ok, sof_exc, sof_bad, sof_ite, seq_nx, seq_rt, seq_exc, seq_bad, seq_ite, out_nx, out_rt, out_exc, out_ite, nox_ok, truth_bl, dif_true, dif_false, Ck.d, List.map_cons, List.map_nil, List.length_cons, List.length_nil, List.replicate, List.cons_append, List.nil_append, List.append_nil, List.getElem?_cons_zero, List.getElem?_cons_succ, List.set_cons_zero, List.set_cons_succ, Option.map_some, decide_true, decide_false, set2, set_len, asg_nm, asg_tp, asgs_nil, asgs_cons, Option.bind_some, wipeE, b_add, b_sub, k_lt, k_le, k_gt, k_ge, k_eq, k_ne, k_isN, k_isnN, s_lst, s_tup, Bool.and_true, Bool.true_and, if_true, if_false, reduceCtorEq, Nat.reduceAdd, Nat.reduceSub, Nat.reduceLT, Nat.reduceLeDiff, Nat.reduceEqDiff, Bool.and_false, Bool.false_and, Bool.not_true, Bool.not_false, Bool.false_eq_true, okk_bind, okk_ok, okk_nox, okk_out, oks_seq, oks_of, oks_nx, oks_rt, ixc0, ixc1, ixc2, ixc3, nat_c, Int.reduceSub, Int.reduceAdd, Int.reduceEq, Int.reduceLT, Int.reduceLE, Int.reduceMul, Bool.or_false, Bool.false_or, Bool.true_or, Bool.or_true, Bool.or_self, Bool.and_self, List.isEmpty_nil, List.isEmpty_cons, bq1, bq2, bq3, bq4, cond_true, cond_false, eq_self])
  simp only [b_mul h2]
  (try simp -implicitDefEqProofs only [runD, evSs, evS, evE, evB, evA, evAV, evO, evC, evI, vw, Mini.start, bind_ok, bind_exc, bind_bad, bind_ite, of_somE, of_noneE, sof_ok, sof_exc, sof_bad, sof_ite, seq_nx, seq_rt, seq_exc, seq_bad, seq_ite, out_nx, out_rt, out_exc, out_ite, nox_ok, truth_bl, dif_true, dif_false, Ck.d, List.map_cons, List.map_nil, List.length_cons, List.length_nil, List.replicate, List.cons_append, List.nil_append, List.append_nil, List.getElem?_cons_zero, List.getElem?_cons_succ, List.set_cons_zero, List.set_cons_succ, Option.map_some, decide_true, decide_false, set2, set_len, asg_nm, asg_tp, asgs_nil, asgs_cons, Option.bind_some, wipeE, b_add, b_sub, k_lt, k_le, k_gt, k_ge, k_eq, k_ne, k_isN, k_isnN, s_lst, s_tup, Bool.and_true, Bool.true_and, if_true, if_false, reduceCtorEq, Nat.reduceAdd, Nat.reduceSub, Nat.reduceLT, Nat.reduceLeDiff, Nat.reduceEqDiff, Bool.and_false, Bool.false_and, Bool.not_true, Bool.not_false, Bool.false_eq_true, okk_bind, okk_ok, okk_nox, okk_out, oks_seq, oks_of, oks_nx, oks_rt, ixc0, ixc1, ixc2, ixc3, nat_c, Int.reduceSub, Int.reduceAdd, Int.reduceEq, Int.reduceLT, Int.reduceLE, Int.reduceMul, Bool.or_false, Bool.false_or, Bool.true_or, Bool.or_true, Bool.or_self, Bool.and_self, List.isEmpty_nil, List.isEmpty_cons, bq1, bq2, bq3, bq4, cond_true, cond_false, eq_self])
  rw [e]
  done

/-! ### draws -/
theorem c_drawn (c k : Int) (hc : c.natAbs < 2 ^ 1100000) (h0 : 0 ≤ k) (h1 : k ≤ 10 ^ 18) : ∃ v, call T (n + 1) 8 [.int c, .int k] h = .ok (.int v) h ∧ 0 ≤ v := by
  have l1 : c.natAbs.log2 < 1100000 := lg (by decide) hc
  have q1 : c.natAbs.log2 + (6364136223846793005 : Int).natAbs.log2 < 134000000 := by
    have : (6364136223846793005 : Int).natAbs.log2 < 64 := by decide +kernel
    omega
  have q2 : (k + 1).natAbs.log2 + (1442695040888963407 : Int).natAbs.log2 < 134000000 := by
    have a : (1442695040888963407 : Int).natAbs.log2 < 64 := by decide +kernel
    have b : (k + 1).natAbs.log2 < 64 := lg (by decide) (by omega)
    omega
  have small : ∀ x m : Int, 0 < m → m.natAbs ≤ 2 ^ 130 → 0 ≤ x % m ∧ (x % m).natAbs.log2 < 130 ∧ x % m < m := fun x m hm hb => by
    have a := Int.emod_nonneg x (show m ≠ 0 by omega)
    have b := Int.emod_lt_of_pos x hm
    exact ⟨a, lgs m (by decide) a b hb, b⟩
  obtain ⟨a0, a1, a2⟩ := small (c * 6364136223846793005 + (k + 1) * 1442695040888963407) P1 (by decide) (by decide +kernel)
  generalize e1 : (c * 6364136223846793005 + (k + 1) * 1442695040888963407) % P1 = m1 at a0 a1 a2
  obtain ⟨b0, b1, b2⟩ := small (m1 * m1) P2 (by decide) (by decide +kernel)
  generalize e2 : m1 * m1 % P2 = m2 at b0 b1 b2
  obtain ⟨c0, c1, c2⟩ := small m2 P3 (by decide) (by decide +kernel)
  generalize e3 : m2 % P3 = m3 at c0 c1 c2
  have d0 : 0 ≤ m2 / P3 := Int.ediv_nonneg b0 (by decide)
  have d2 : m2 / P3 ≤ m2 := Int.ediv_le_self _ b0
  generalize e4 : m2 / P3 = m4 at d0 d2
  have f1 : (m3 + 1).natAbs.log2 < 130 := lg (by decide) (by have := P3s; omega)
  have f2 : (m4 + 1).natAbs.log2 < 130 := lg (by decide) (by have := P2s; omega)
  have f3 : ((m3 + 1) * (m4 + 1)).natAbs.log2 < 300 := by
    refine lg (by decide) ?_
    have x1 : (m3 + 1).natAbs < 2 ^ 130 := by have := P3s; omega
    have x2 : (m4 + 1).natAbs < 2 ^ 130 := by have := P2s; omega
    exact Nat.lt_of_lt_of_le (wide_lt x1 x2) (Nat.pow_le_pow_right (by decide) (by decide))
  refine ⟨(m3 + 1) * (m4 + 1) * m2 % P1, ?_, Int.emod_nonneg _ (by decide)⟩
  rw [callT hT (show T0 8 = some ir_law_drawn from rfl)]
  unfold ir_law_drawn
  (try simp -implicitDefEqProofs only [runD, evSs, evS, evE, evB, evA, evAV, evO, evC, evI, vw, Mini.start, bind_ok, bind_exc, bind_bad, bind_ite, of_somE, of_noneE, sof_ok, sof_exc, sof_bad, sof_ite, seq_nx, seq_rt, seq_exc, seq_bad, seq_ite, out_nx, out_rt, out_exc, out_ite, nox_ok, truth_bl, dif_true, dif_false, Ck.d, List.map_cons, List.map_nil, List.length_cons, List.length_nil, List.replicate, List.cons_append, List.nil_append, List.append_nil, List.getElem?_cons_zero, List.getElem?_cons_succ, List.set_cons_zero, List.set_cons_succ, Option.map_some, decide_true, decide_false, set2, set_len, asg_nm, asg_tp, asgs_nil, asgs_cons, Option.bind_some, wipeE, b_add, b_sub, k_lt, k_le, k_gt, k_ge, k_eq, k_ne, k_isN, k_isnN, s_lst, s_tup, Bool.and_true, Bool.true_and, if_true, if_false, reduceCtorEq, Nat.reduceAdd, Nat.reduceSub, Nat.reduceLT, Nat.reduceLeDiff, Nat.reduceEqDiff, Bool.and_false, Bool.false_and, Bool.not_true, Bool.not_false, Bool.false_eq_true, okk_bind, okk_ok, okk_nox, okk_out, oks_seq, oks_of, oks_nx, oks_rt, ixc0, ixc1, ixc2, ixc3, nat_c, Int.reduceSub, Int.reduceAdd, Int.reduceEq, Int.reduceLT, Int.reduceLE, Int.reduceMul, Bool.or_false, Bool.false_or, Bool.true_or, Bool.or_true, Bool.or_self, Bool.and_self, List.isEmpty_nil, List.isEmpty_cons, bq1, bq2, bq3, bq4, cond_true, cond_false, eq_self])
  simp only [b_mul q1, b_mul q2]
  (try simp -implicitDefEqProofs only [runD, evSs, evS, evE, evB, evA, evAV, evO, evC, evI, vw, Mini.start, bind_ok, bind_exc, bind_bad, bind_ite, of_somE, of_noneE, sof_ok, sof_exc, sof_bad, sof_ite, seq_nx, seq_rt, seq_exc, seq_bad, seq_ite, out_nx, out_rt, out_exc, out_ite, nox_ok, truth_bl, dif_true, dif_false, Ck.d, List.map_cons, List.map_nil, List.length_cons, List.length_nil, List.replicate, List.cons_append, List.nil_append, List.append_nil, List.getElem?_cons_zero, List.getElem?_cons_succ, List.set_cons_zero, List.set_cons_succ, Option.map_some, decide_true, decide_false, set2, set_len, asg_nm, asg_tp, asgs_nil, asgs_cons, Option.bind_some, wipeE, b_add, b_sub, k_lt, k_le, k_gt, k_ge, k_eq, k_ne, k_isN, k_isnN, s_lst, s_tup, Bool.and_true, Bool.true_and, if_true, if_false, reduceCtorEq, Nat.reduceAdd, Nat.reduceSub, Nat.reduceLT, Nat.reduceLeDiff, Nat.reduceEqDiff, Bool.and_false, Bool.false_and, Bool.not_true, Bool.not_false, Bool.false_eq_true, okk_bind, okk_ok, okk_nox, okk_out, oks_seq, oks_of, oks_nx, oks_rt, ixc0, ixc1, ixc2, ixc3, nat_c, Int.reduceSub, Int.reduceAdd, Int.reduceEq, Int.reduceLT, Int.reduceLE, Int.reduceMul, Bool.or_false, Bool.false_or, Bool.true_or, Bool.or_true, Bool.or_self, Bool.and_self, List.isEmpty_nil, List.isEmpty_cons, bq1, bq2, bq3, bq4, cond_true, cond_false, eq_self])
  simp only [b_mod (show (0 : Int) < 340282366920938463463374607431768211507 by decide)]
  (try simp -implicitDefEqProofs only [runD, evSs, evS, evE, evB, evA, evAV, evO, evC, evI, vw, Mini.start, bind_ok, bind_exc, bind_bad, bind_ite, of_somE, of_noneE, sof_ok, sof_exc, sof_bad, sof_ite, seq_nx, seq_rt, seq_exc, seq_bad, seq_ite, out_nx, out_rt, out_exc, out_ite, nox_ok, truth_bl, dif_true, dif_false, Ck.d, List.map_cons, List.map_nil, List.length_cons, List.length_nil, List.replicate, List.cons_append, List.nil_append, List.append_nil, List.getElem?_cons_zero, List.getElem?_cons_succ, List.set_cons_zero, List.set_cons_succ, Option.map_some, decide_true, decide_false, set2, set_len, asg_nm, asg_tp, asgs_nil, asgs_cons, Option.bind_some, wipeE, b_add, b_sub, k_lt, k_le, k_gt, k_ge, k_eq, k_ne, k_isN, k_isnN, s_lst, s_tup, Bool.and_true, Bool.true_and, if_true, if_false, reduceCtorEq, Nat.reduceAdd, Nat.reduceSub, Nat.reduceLT, Nat.reduceLeDiff, Nat.reduceEqDiff, Bool.and_false, Bool.false_and, Bool.not_true, Bool.not_false, Bool.false_eq_true, okk_bind, okk_ok, okk_nox, okk_out, oks_seq, oks_of, oks_nx, oks_rt, ixc0, ixc1, ixc2, ixc3, nat_c, Int.reduceSub, Int.reduceAdd, Int.reduceEq, Int.reduceLT, Int.reduceLE, Int.reduceMul, Bool.or_false, Bool.false_or, Bool.true_or, Bool.or_true, Bool.or_self, Bool.and_self, List.isEmpty_nil, List.isEmpty_cons, bq1, bq2, bq3, bq4, cond_true, cond_false, eq_self])
  rw [show (340282366920938463463374607431768211507 : Int) = P1 from rfl, e1]
  simp only [b_mul (show m1.natAbs.log2 + m1.natAbs.log2 < 134000000 by omega)]
  (try simp -implicitDefEqProofs only [runD, evSs, evS, evE, evB, evA, evAV, evO, evC, evI, vw, Mini.start, bind_ok, bind_exc, bind_bad, bind_ite, of_somE, of_noneE, sof_ok, sof_exc, sof_bad, sof_ite, seq_nx, seq_rt, seq_exc, seq_bad, seq_ite, out_nx, out_rt, out_exc, out_ite, nox_ok, truth_bl, dif_true, dif_false, Ck.d, List.map_cons, List.map_nil, List.length_cons, List.length_nil, List.replicate, List.cons_append, List.nil_append, List.append_nil, List.getElem?_cons_zero, List.getElem?_cons_succ, List.set_cons_zero, List.set_cons_succ, Option.map_some, decide_true, decide_false, set2, set_len, asg_nm, asg_tp, asgs_nil, asgs_cons, Option.bind_some, wipeE, b_add, b_sub, k_lt, k_le, k_gt, k_ge, k_eq, k_ne, k_isN, k_isnN, s_lst, s_tup, Bool.and_true, Bool.true_and, if_true, if_false, reduceCtorEq, Nat.reduceAdd, Nat.reduceSub, Nat.reduceLT, Nat.reduceLeDiff, Nat.reduceEqDiff, Bool.and_false, Bool.false_and, Bool.not_true, Bool.not_false, Bool.false_eq_true, okk_bind, okk_ok, okk_nox, okk_out, oks_seq, oks_of, oks_nx, oks_rt, ixc0, ixc1, ixc2, ixc3, nat_c, Int.reduceSub, Int.reduceAdd, Int.reduceEq, Int.reduceLT, Int.reduceLE, Int.reduceMul, Bool.or_false, Bool.false_or, Bool.true_or, Bool.or_true, Bool.or_self, Bool.and_self, List.isEmpty_nil, List.isEmpty_cons, bq1, bq2, bq3, bq4, cond_true, cond_false, eq_self])
  simp only [b_mod (show (0 : Int) < 340282366920938463463374607431768211297 by decide)]
  (try simp -implicitDefEqProofs only [runD, evSs, evS, evE, evB, evA, evAV, evO, evC, evI, vw, Mini.start, bind_ok, bind_exc, bind_bad, bind_ite, of_somE, of_noneE, sof_ok, sof_exc, sof_bad, sof_ite, seq_nx, seq_rt, seq_exc, seq_bad, seq_ite, out_nx, out_rt, out_exc, out_ite, nox_ok, truth_bl, dif_true, dif_false, Ck.d, List.map_cons, List.map_nil, List.length_cons, List.length_nil, List.replicate, List.cons_append, List.nil_append, List.append_nil, List.getElem?_cons_zero, List.getElem?_cons_succ, List.set_cons_zero, List.set_cons_succ, Option.map_some, decide_true, decide_false, set2, set_len, asg_nm, asg_tp, asgs_nil, asgs_cons, Option.bind_some, wipeE, b_add, b_sub, k_lt, k_le, k_gt, k_ge, k_eq, k_ne, k_isN, k_isnN, s_lst, s_tup, Bool.and_true, Bool.true_and, if_true, if_false, reduceCtorEq, Nat.reduceAdd, Nat.reduceSub, Nat.reduceLT, Nat.reduceLeDiff, Nat.reduceEqDiff, Bool.and_false, Bool.false_and, Bool.not_true, Bool.not_false, Bool.false_eq_true, okk_bind, okk_ok, okk_nox, okk_out, oks_seq, oks_of, oks_nx, oks_rt, ixc0, ixc1, ixc2, ixc3, nat_c, Int.reduceSub, Int.reduceAdd, Int.reduceEq, Int.reduceLT, Int.reduceLE, Int.reduceMul, Bool.or_false, Bool.false_or, Bool.true_or, Bool.or_true, Bool.or_self, Bool.and_self, List.isEmpty_nil, List.isEmpty_cons, bq1, bq2, bq3, bq4, cond_true, cond_false, eq_self])
  rw [show (340282366920938463463374607431768211297 : Int) = P2 from rfl, e2]
  simp only [b_mod (show (0 : Int) < 18446744073709551557 by decide), b_fdiv (i := m2) (show (0 : Int) < 18446744073709551557 by decide) (show (18446744073709551557 : Int).natAbs.log2 < 9000 by decide +kernel)]
  (try simp -implicitDefEqProofs only [runD, evSs, evS, evE, evB, evA, evAV, evO, evC, evI, vw, Mini.start, bind_ok, bind_exc, bind_bad, bind_ite, of_somE, of_noneE, sof_ok, sof_exc, sof_bad, sof_ite, seq_nx, seq_rt, seq_exc, seq_bad, seq_ite, out_nx, out_rt, out_exc, out_ite, nox_ok, truth_bl, dif_true, dif_false, Ck.d, List.map_cons, List.map_nil, List.length_cons, List.length_nil, List.replicate, List.cons_append, List.nil_append, List.append_nil, List.getElem?_cons_zero, List.getElem?_cons_succ, List.set_cons_zero, List.set_cons_succ, Option.map_some, decide_true, decide_false, set2, set_len, asg_nm, asg_tp, asgs_nil, asgs_cons, Option.bind_some, wipeE, b_add, b_sub, k_lt, k_le, k_gt, k_ge, k_eq, k_ne, k_isN, k_isnN, s_lst, s_tup, Bool.and_true, Bool.true_and, if_true, if_false, reduceCtorEq, Nat.reduceAdd, Nat.reduceSub, Nat.reduceLT, Nat.reduceLeDiff, Nat.reduceEqDiff, Bool.and_false, Bool.false_and, Bool.not_true, Bool.not_false, Bool.false_eq_true, okk_bind, okk_ok, okk_nox, okk_out, oks_seq, oks_of, oks_nx, oks_rt, ixc0, ixc1, ixc2, ixc3, nat_c, Int.reduceSub, Int.reduceAdd, Int.reduceEq, Int.reduceLT, Int.reduceLE, Int.reduceMul, Bool.or_false, Bool.false_or, Bool.true_or, Bool.or_true, Bool.or_self, Bool.and_self, List.isEmpty_nil, List.isEmpty_cons, bq1, bq2, bq3, bq4, cond_true, cond_false, eq_self])
  rw [show (18446744073709551557 : Int) = P3 from rfl, e3, e4]
  simp only [b_mul (show (m3 + 1).natAbs.log2 + (m4 + 1).natAbs.log2 < 134000000 by omega)]
  (try simp -implicitDefEqProofs only [runD, evSs, evS, evE, evB, evA, evAV, evO, evC, evI, vw, Mini.start, bind_ok, bind_exc, bind_bad, bind_ite, of_somE, of_noneE, sof_ok, sof_exc, sof_bad, sof_ite, seq_nx, seq_rt, seq_exc, seq_bad, seq_ite, out_nx, out_rt, out_exc, out_ite, nox_ok, truth_bl, dif_true, dif_false, Ck.d, List.map_cons, List.map_nil, List.length_cons, List.length_nil, List.replicate, List.cons_append, List.nil_append, List.append_nil, List.getElem?_cons_zero, List.getElem?_cons_succ, List.set_cons_zero, List.set_cons_succ, Option.map_some, decide_true, decide_false, set2, set_len, asg_nm, asg_tp, asgs_nil, asgs_cons, Option.bind_some, wipeE, b_add, b_sub, k_lt, k_le, k_gt, k_ge, k_eq, k_ne, k_isN, k_isnN, s_lst, s_tup, Bool.and_true, Bool.true_and, if_true, if_false, reduceCtorEq, Nat.reduceAdd, Nat.reduceSub, Nat.reduceLT, Nat.reduceLeDiff, Nat.reduceEqDiff, Bool.and_false, Bool.false_and, Bool.not_true, Bool.not_false, Bool.false_eq_true, okk_bind, okk_ok, okk_nox, okk_out, oks_seq, oks_of, oks_nx, oks_rt, ixc0, ixc1, ixc2, ixc3, nat_c, Int.reduceSub, Int.reduceAdd, Int.reduceEq, Int.reduceLT, Int.reduceLE, Int.reduceMul, Bool.or_false, Bool.false_or, Bool.true_or, Bool.or_true, Bool.or_self, Bool.and_self, List.isEmpty_nil, List.isEmpty_cons, bq1, bq2, bq3, bq4, cond_true, cond_false, eq_self])
  simp only [b_mul (show ((m3 + 1) * (m4 + 1)).natAbs.log2 + m2.natAbs.log2 < 134000000 by omega)]
  (try simp -implicitDefEqProofs only [runD, evSs, evS, evE, evB, evA, evAV, evO, evC, evI, vw, Mini.start, bind_ok, bind_exc, bind_bad, bind_ite, of_somE, of_noneE, sof_ok, sof_exc, sof_bad, sof_ite, seq_nx, seq_rt, seq_exc, seq_bad, seq_ite, out_nx, out_rt, out_exc, out_ite, nox_ok, truth_bl, dif_true, dif_false, Ck.d, List.map_cons, List.map_nil, List.length_cons, List.length_nil, List.replicate, List.cons_append, List.nil_append, List.append_nil, List.getElem?_cons_zero, List.getElem?_cons_succ, List.set_cons_zero, List.set_cons_succ, Option.map_some, decide_true, decide_false, set2, set_len, asg_nm, asg_tp, asgs_nil, asgs_cons, Option.bind_some, wipeE, b_add, b_sub, k_lt, k_le, k_gt, k_ge, k_eq, k_ne, k_isN, k_isnN, s_lst, s_tup, Bool.and_true, Bool.true_and, if_true, if_false, reduceCtorEq, Nat.reduceAdd, Nat.reduceSub, Nat.reduceLT, Nat.reduceLeDiff, Nat.reduceEqDiff, Bool.and_false, Bool.false_and, Bool.not_true, Bool.not_false, Bool.false_eq_true, okk_bind, okk_ok, okk_nox, okk_out, oks_seq, oks_of, oks_nx, oks_rt, ixc0, ixc1, ixc2, ixc3, nat_c, Int.reduceSub, Int.reduceAdd, Int.reduceEq, Int.reduceLT, Int.reduceLE, Int.reduceMul, Bool.or_false, Bool.false_or, Bool.true_or, Bool.or_true, Bool.or_self, Bool.and_self, List.isEmpty_nil, List.isEmpty_cons, bq1, bq2, bq3, bq4, cond_true, cond_false, eq_self])
  simp only [b_mod (show (0 : Int) < P1 by decide)]
  (try simp -implicitDefEqProofs only [runD, evSs, evS, evE, evB, evA, evAV, evO, evC, evI, vw, Mini.start, bind_ok, bind_exc, bind_bad, bind_ite, of_somE, of_noneE, sof_ok, sof_exc, sof_bad, sof_ite, seq_nx, seq_rt, seq_exc, seq_bad, seq_ite, out_nx, out_rt, out_exc, out_ite, nox_ok, truth_bl, dif_true, dif_false, Ck.d, List.map_cons, List.map_nil, List.length_cons, List.length_nil, List.replicate, List.cons_append, List.nil_append, List.append_nil, List.getElem?_cons_zero, List.getElem?_cons_succ, List.set_cons_zero, List.set_cons_succ, Option.map_some, decide_true, decide_false, set2, set_len, asg_nm, asg_tp, asgs_nil, asgs_cons, Option.bind_some, wipeE, b_add, b_sub, k_lt, k_le, k_gt, k_ge, k_eq, k_ne, k_isN, k_isnN, s_lst, s_tup, Bool.and_true, Bool.true_and, if_true, if_false, reduceCtorEq, Nat.reduceAdd, Nat.reduceSub, Nat.reduceLT, Nat.reduceLeDiff, Nat.reduceEqDiff, Bool.and_false, Bool.false_and, Bool.not_true, Bool.not_false, Bool.false_eq_true, okk_bind, okk_ok, okk_nox, okk_out, oks_seq, oks_of, oks_nx, oks_rt, ixc0, ixc1, ixc2, ixc3, nat_c, Int.reduceSub, Int.reduceAdd, Int.reduceEq, Int.reduceLT, Int.reduceLE, Int.reduceMul, Bool.or_false, Bool.false_or, Bool.true_or, Bool.or_true, Bool.or_self, Bool.and_self, List.isEmpty_nil, List.isEmpty_cons, bq1, bq2, bq3, bq4, cond_true, cond_false, eq_self])
theorem c_roll {i : Nat} {a b m r : Int} (hi : i < h.length) (hd : Dc (r + 1) a b) (hr : 0 ≤ r) (hm : 0 < m) (hl : m.natAbs.log2 < 9000) :
    ∃ v a' b', call T (n + 2) 9 [.ref i, .int m] (h.set i (dc a b)) = .ok (.int v) (h.set i (dc a' b')) ∧ 0 ≤ v ∧ v < m ∧ Dc r a' b' := by
  obtain ⟨d1, d2, d3⟩ := hd
  rw [callT hT (show T0 9 = some ir_law_roll from rfl)]
  have e10 : (10 : Int) ^ (18 : Int).toNat = 1000000000000000000 := by decide +kernel
  have p10 := b_pow (i := 10) (j := 18) (by decide) (by decide) (by decide)
  rw [e10] at p10
  unfold ir_law_roll
  by_cases ha : 1000000000000000000 ≤ a
  · simp -implicitDefEqProofs only [runD, evSs, evS, evE, evB, evA, evAV, evO, evC, evI, vw, Mini.start, bind_ok, bind_exc, bind_bad, bind_ite, of_somE, of_noneE, sof_ok, sof_exc, sof_bad, sof_ite, seq_nx, seq_rt, seq_exc, seq_bad, seq_ite, out_nx, out_rt, out_exc, out_ite, nox_ok, truth_bl, dif_true, dif_false, Ck.d, List.map_cons, List.map_nil, List.length_cons, List.length_nil, List.replicate, List.cons_append, List.nil_append, List.append_nil, List.getElem?_cons_zero, List.getElem?_cons_succ, List.set_cons_zero, List.set_cons_succ, Option.map_some, decide_true, decide_false, set2, set_len, asg_nm, asg_tp, asgs_nil, asgs_cons, Option.bind_some, wipeE, b_add, b_sub, k_lt, k_le, k_gt, k_ge, k_eq, k_ne, k_isN, k_isnN, s_lst, s_tup, Bool.and_true, Bool.true_and, if_true, if_false, reduceCtorEq, Nat.reduceAdd, Nat.reduceSub, Nat.reduceLT, Nat.reduceLeDiff, Nat.reduceEqDiff, Bool.and_false, Bool.false_and, Bool.not_true, Bool.not_false, Bool.false_eq_true, okk_bind, okk_ok, okk_nox, okk_out, oks_seq, oks_of, oks_nx, oks_rt, ixc0, ixc1, ixc2, ixc3, nat_c, Int.reduceSub, Int.reduceAdd, Int.reduceEq, Int.reduceLT, Int.reduceLE, Int.reduceMul, Bool.or_false, Bool.false_or, Bool.true_or, Bool.or_true, Bool.or_self, Bool.and_self, List.isEmpty_nil, List.isEmpty_cons, bq1, bq2, bq3, bq4, cond_true, cond_false, eq_self, x_dc0 hi, x_dc1 hi, ix_set hi, p10, ha, b_mod hm, b_fdiv hm hl]
    exact ⟨a % m, a / m, b, rfl, Int.emod_nonneg _ (by omega), Int.emod_lt_of_pos _ hm, ⟨Nat.lt_of_le_of_lt (abs_ediv (by omega) hm) d1, d2, by omega⟩⟩
  · obtain ⟨u, eu, hu⟩ := c_drawn hT (n := n) (h := h.set i (dc a (b + 1))) a (b + 1) d1 (by omega) (by omega)
    simp -implicitDefEqProofs only [runD, evSs, evS, evE, evB, evA, evAV, evO, evC, evI, vw, Mini.start, bind_ok, bind_exc, bind_bad, bind_ite, of_somE, of_noneE, sof_ok, sof_exc, sof_bad, sof_ite, seq_nx, seq_rt, seq_exc, seq_bad, seq_ite, out_nx, out_rt, out_exc, out_ite, nox_ok, truth_bl, dif_true, dif_false, Ck.d, List.map_cons, List.map_nil, List.length_cons, List.length_nil, List.replicate, List.cons_append, List.nil_append, List.append_nil, List.getElem?_cons_zero, List.getElem?_cons_succ, List.set_cons_zero, List.set_cons_succ, Option.map_some, decide_true, decide_false, set2, set_len, asg_nm, asg_tp, asgs_nil, asgs_cons, Option.bind_some, wipeE, b_add, b_sub, k_lt, k_le, k_gt, k_ge, k_eq, k_ne, k_isN, k_isnN, s_lst, s_tup, Bool.and_true, Bool.true_and, if_true, if_false, reduceCtorEq, Nat.reduceAdd, Nat.reduceSub, Nat.reduceLT, Nat.reduceLeDiff, Nat.reduceEqDiff, Bool.and_false, Bool.false_and, Bool.not_true, Bool.not_false, Bool.false_eq_true, okk_bind, okk_ok, okk_nox, okk_out, oks_seq, oks_of, oks_nx, oks_rt, ixc0, ixc1, ixc2, ixc3, nat_c, Int.reduceSub, Int.reduceAdd, Int.reduceEq, Int.reduceLT, Int.reduceLE, Int.reduceMul, Bool.or_false, Bool.false_or, Bool.true_or, Bool.or_true, Bool.or_self, Bool.and_self, List.isEmpty_nil, List.isEmpty_cons, bq1, bq2, bq3, bq4, cond_true, cond_false, eq_self, x_dc0 hi, x_dc1 hi, ix_set hi, p10, ha, eu, b_mod hm, b_fdiv (show (0 : Int) < 8 by decide) (show (8 : Int).natAbs.log2 < 9000 by decide +kernel)]
    exact ⟨u / 8 % m, a, b + 1, rfl, Int.emod_nonneg _ (by omega), Int.emod_lt_of_pos _ hm, ⟨d1, by omega, by omega⟩⟩
end
end Mini

/-! D2: the cells, the rounds, a law's loop. -/
namespace Mini
open PySem PySem.Spec L2
theorem natAbs_of_bits {z : Int} (h : Builtin.Int.intBits z ≤ 1048576) : z.natAbs < 2 ^ 1048576 := by
  unfold Builtin.Int.intBits at h
  split at h
  · rename_i q
    have : z.natAbs = 0 := by simpa using q
    rw [this]
    exact Nat.two_pow_pos _
  · exact Nat.lt_of_lt_of_le Nat.lt_log2_self (Nat.pow_le_pow_right (by decide) h)
theorem pow_mono {a b : Nat} (h : a ≤ b) : 2 ^ a ≤ 2 ^ b := Nat.pow_le_pow_right (by decide) h
theorem two_small : (2 : Nat) ^ 1048576 + 2 ^ 1048576 ≤ 2 ^ 1100000 := by
  have : (2 : Nat) ^ 1048576 + 2 ^ 1048576 = 2 ^ 1048577 := by rw [Nat.pow_succ]; omega
  rw [this]
  exact pow_mono (by decide)
/-- a script as the laws take it -/
structure Scr (ns : List Int) : Prop where
  len : ns.length ≤ 63
  bits : ∀ z ∈ ns, z.natAbs < 2 ^ 1048576
theorem eqvs_nil (xs : List D) : D.eqvs xs [] = xs.isEmpty := by cases xs <;> simp [D.eqvs]
theorem nrs_ints (ns : List Int) : D.nrs (ns.map D.int) = true := by
  induction ns with
  | nil => rfl
  | cons _ _ ih => simpa [D.nrs, D.nr] using ih
theorem okEq_nil {xs : List D} (h : D.nrs xs = true) : D.okEq (.lst xs) (.lst []) = true := by simp [D.okEq, D.nr, D.nrs, D.dp, D.dps, h]
section
variable {T : Nat → Option Df} (hT : Exts T) {n : Nat} {h : Hd}
include hT
theorem c_cell {ns : List Int} (hs : Scr ns) (k : Nat) (hk : k < 10) : ∃ c : Int, call T (n + 1) 7 [.lst (ns.map .int), .int k] h = .ok (.int c) h ∧ c.natAbs < 2 ^ 1100000 := by
  rw [callT hT (show T0 7 = some ir_law_cell from rfl)]
  unfold ir_law_cell
  have e1 : cmpD .Eq (.lst (ns.map D.int)) (.lst []) = some (ns.map D.int).isEmpty := by
    rw [k_eqD (okEq_nil (nrs_ints ns))]
    simp [D.eqv, eqvs_nil]
  cases ns with
  | nil =>
    have k7 : (k : Int).natAbs.log2 + (7919 : Int).natAbs.log2 < 134000000 := by
      have a : (k : Int).natAbs.log2 < 64 := lg (by decide) (by omega)
      have b : (7919 : Int).natAbs.log2 < 64 := by decide +kernel
      omega
    simp -implicitDefEqProofs only [runD, evSs, evS, evE, evB, evA, evAV, evO, evC, evI, vw, Mini.start, bind_ok, bind_exc, bind_bad, bind_ite, of_somE, of_noneE, sof_ok, sof_exc, sof_bad, sof_ite, seq_nx, seq_rt, seq_exc, seq_bad, seq_ite, out_nx, out_rt, out_exc, out_ite, nox_ok, truth_bl, dif_true, dif_false, Ck.d, List.map_cons, List.map_nil, List.length_cons, List.length_nil, List.replicate, List.cons_append, List.nil_append, List.append_nil, List.getElem?_cons_zero, List.getElem?_cons_succ, List.set_cons_zero, List.set_cons_succ, Option.map_some, decide_true, decide_false, set2, set_len, asg_nm, asg_tp, asgs_nil, asgs_cons, Option.bind_some, wipeE, b_add, b_sub, k_lt, k_le, k_gt, k_ge, k_eq, k_ne, k_isN, k_isnN, s_lst, s_tup, Bool.and_true, Bool.true_and, if_true, if_false, reduceCtorEq, Nat.reduceAdd, Nat.reduceSub, Nat.reduceLT, Nat.reduceLeDiff, Nat.reduceEqDiff, Bool.and_false, Bool.false_and, Bool.not_true, Bool.not_false, Bool.false_eq_true, okk_bind, okk_ok, okk_nox, okk_out, oks_seq, oks_of, oks_nx, oks_rt, ixc0, ixc1, ixc2, ixc3, nat_c, Int.reduceSub, Int.reduceAdd, Int.reduceEq, Int.reduceLT, Int.reduceLE, Int.reduceMul, Bool.or_false, Bool.false_or, Bool.true_or, Bool.or_true, Bool.or_self, Bool.and_self, List.isEmpty_nil, List.isEmpty_cons, bq1, bq2, bq3, bq4, cond_true, cond_false, eq_self, e1, List.isEmpty_nil, b_mul k7]
    refine ⟨(k : Int) * 7919, rfl, Nat.lt_of_lt_of_le (show ((k : Int) * 7919).natAbs < 2 ^ 100 by omega) (pow_mono (by decide))⟩
  | cons x xs =>
    have hl : (0 : Int) < (((x :: xs).map D.int).length : Nat) := by simp only [List.map_cons, List.length_cons]; omega
    have hl2 : ((((x :: xs).map D.int).length : Nat) : Int).natAbs.log2 < 9000 := by
      have : ((((x :: xs).map D.int).length : Nat) : Int).natAbs.log2 < 64 := lg (by decide) (by have := hs.len; simp at this ⊢; exact Nat.lt_of_le_of_lt (show xs.length + 1 ≤ 63 by omega) (by decide))
      omega
    generalize hL : ((x :: xs).map D.int).length = L at *
    have hLl : (x :: xs).length = L := by rw [← hL]; simp
    have m0 := Int.emod_nonneg (k : Int) (show (L : Int) ≠ 0 by omega)
    have m1 := Int.emod_lt_of_pos (k : Int) hl
    have d0 : 0 ≤ (k : Int) / L := Int.ediv_nonneg (by omega) (by omega)
    have d1 : (k : Int) / L ≤ k := Int.ediv_le_self _ (by omega)
    have q : ((k : Int) / L).natAbs.log2 + (104729 : Int).natAbs.log2 < 134000000 := by
      have a : ((k : Int) / L).natAbs.log2 < 64 := lg (by decide) (by omega)
      have b : (104729 : Int).natAbs.log2 < 64 := by decide +kernel
      omega
    have e2 : biD h .len [.lst ((x :: xs).map D.int)] = some (.int (L : Nat)) := by simp only [biD, seqD, Option.map_some, hL]
    obtain ⟨y, hy⟩ : ∃ y, (x :: xs)[((k : Int) % L).toNat]? = some y := ⟨_, List.getElem?_eq_getElem (by omega)⟩
    have e3 : ixD h (.lst ((x :: xs).map D.int)) (.int ((k : Int) % L)) = some (.int y) := by
      rw [x_lst m0 (by rw [hL]; exact m1), List.getElem?_map, hy]
      rfl
    have yb := hs.bits y (List.mem_of_getElem? hy)
    rw [List.map_cons] at e1 e2 e3
    simp -implicitDefEqProofs only [runD, evSs, evS, evE, evB, evA, evAV, evO, evC, evI, vw, Mini.start, bind_ok, bind_exc, bind_bad, bind_ite, of_somE, of_noneE, sof_ok, sof_exc, sof_bad, sof_ite, seq_nx, seq_rt, seq_exc, seq_bad, seq_ite, out_nx, out_rt, out_exc, out_ite, nox_ok, truth_bl, dif_true, dif_false, Ck.d, List.map_cons, List.map_nil, List.length_cons, List.length_nil, List.replicate, List.cons_append, List.nil_append, List.append_nil, List.getElem?_cons_zero, List.getElem?_cons_succ, List.set_cons_zero, List.set_cons_succ, Option.map_some, decide_true, decide_false, set2, set_len, asg_nm, asg_tp, asgs_nil, asgs_cons, Option.bind_some, wipeE, b_add, b_sub, k_lt, k_le, k_gt, k_ge, k_eq, k_ne, k_isN, k_isnN, s_lst, s_tup, Bool.and_true, Bool.true_and, if_true, if_false, reduceCtorEq, Nat.reduceAdd, Nat.reduceSub, Nat.reduceLT, Nat.reduceLeDiff, Nat.reduceEqDiff, Bool.and_false, Bool.false_and, Bool.not_true, Bool.not_false, Bool.false_eq_true, okk_bind, okk_ok, okk_nox, okk_out, oks_seq, oks_of, oks_nx, oks_rt, ixc0, ixc1, ixc2, ixc3, nat_c, Int.reduceSub, Int.reduceAdd, Int.reduceEq, Int.reduceLT, Int.reduceLE, Int.reduceMul, Bool.or_false, Bool.false_or, Bool.true_or, Bool.or_true, Bool.or_self, Bool.and_self, List.isEmpty_nil, List.isEmpty_cons, bq1, bq2, bq3, bq4, cond_true, cond_false, eq_self, e1, List.isEmpty_cons, e2, e3, b_mod hl, b_fdiv hl hl2, b_mul q]
    refine ⟨y + (k : Int) / L * 104729, rfl, ?_⟩
    have hp : (2 : Nat) ^ 100 ≤ 2 ^ 1048576 := pow_mono (by decide)
    have e100 : (2 : Nat) ^ 100 = 1267650600228229401496703205376 := by decide +kernel
    have two := two_small
    have : (y + (k : Int) / L * 104729).natAbs < 2 ^ 1048576 + 2 ^ 1048576 := by omega
    omega
end

/-! ### a list made turn by turn -/
theorem loopC_nil (g : D → Hd → Out (Option D)) (h : Hd) : loopC g [] h = .ok [] h := rfl
theorem loopC_cons (g : D → Hd → Out (Option D)) (x : D) (r : List D) (h : Hd) : loopC g (x :: r) h = (g x h).bind fun y h1 => (loopC g r h1).bind fun ys h2 => .ok (match y with | some y => y :: ys | none => ys) h2 := rfl
theorem forL_nil (g : D → Ev → Hd → SO) (ρ : Ev) (h : Hd) : forL g [] ρ h = .nx ρ h := rfl
theorem forL_cons (g : D → Ev → Hd → SO) (x : D) (r : List D) (ρ : Ev) (h : Hd) : forL g (x :: r) ρ h = (g x ρ h).seq fun ρ1 h1 => forL g r ρ1 h1 := rfl
/-- where each turn changes nothing -/
theorem loopC_map {g : D → Hd → Out (Option D)} {f : D → Option D} {h : Hd} : ∀ {xs : List D}, (∀ x ∈ xs, g x h = .ok (f x) h) → loopC g xs h = .ok (xs.filterMap f) h
  | [], _ => rfl
  | x :: r, k => by
    rw [loopC_cons, k x List.mem_cons_self, bind_ok, loopC_map fun y hy => k y (List.mem_cons_of_mem _ hy), bind_ok, List.filterMap_cons]
    cases f x <;> rfl
/-- a list made turn by turn, by what holds from turn to turn -/
theorem loopC_by {g : D → Hd → Out (Option D)} (P : List D → List D → Hd → Prop) (hs : ∀ x r acc h, P (x :: r) acc h → Okk (g x h) fun o h' => P r (acc ++ o.toList) h') : ∀ {xs acc : List D} {h : Hd}, P xs acc h → Okk (loopC g xs h) fun ys h' => P [] (acc ++ ys) h'
  | [], acc, h, p => by
    rw [loopC_nil, okk_ok, List.append_nil]
    exact p
  | x :: r, acc, h, p => by
    rw [loopC_cons, okk_bind]
    refine (hs x r acc h p).mono fun o h1 q => ?_
    rw [okk_bind]
    refine (loopC_by P hs q).mono fun ys h2 q2 => ?_
    rw [okk_ok]
    cases o with
    | none => simpa using q2
    | some y => simpa using q2
/-- a for by what holds from turn to turn -/
theorem forL_by {g : D → Ev → Hd → SO} (P : List D → Ev → Hd → Prop) {N : Ev → Hd → Prop} {R : D → Hd → Prop} (hN : ∀ ρ h, P [] ρ h → N ρ h) (hs : ∀ x r ρ h, P (x :: r) ρ h → Oks (g x ρ h) (P r) R) : ∀ {xs : List D} {ρ : Ev} {h : Hd}, P xs ρ h → Oks (forL g xs ρ h) N R
  | [], ρ, h, p => hN ρ h p
  | x :: r, ρ, h, p => by
    rw [forL_cons, oks_seq]
    exact (hs x r ρ h p).mono (fun ρ1 h1 q => forL_by P hN hs q) fun _ _ q => q

/-! ### the dice of a law -/
/-- places from m on hold fresh dice -/
def Fresh (m : Nat) (h : Hd) : Prop := ∀ j, m ≤ j → j < h.length → ∃ c : Int, h[j]? = some (dc c 0) ∧ c.natAbs < 2 ^ 1100000
section
variable {T : Nat → Option Df} (hT : Exts T) {n : Nat}
include hT
theorem c_rounds {ns : List Int} (hs : Scr ns) (most : Int) (hm : 1 ≤ most) (hm2 : most ≤ 5) : Okk (call T (n + 2) 10 [.lst (ns.map .int), .int most] []) fun d h => d = .lst ((List.range h.length).map D.ref) ∧ Fresh 0 h := by
  rw [callT hT (show T0 10 = some ir_law_rounds from rfl)]
  unfold ir_law_rounds
  have hl := hs.len
  have el : biD ([] : Hd) .len [.lst (ns.map D.int)] = some (.int (ns.length : Nat)) := by simp [biD, seqD]
  have em : biD ([] : Hd) .min [.int most, .int (ns.length : Nat)] = some (.int (if (ns.length : Int) < most then ns.length else most)) := rfl
  generalize hL : (if (ns.length : Int) < most then (ns.length : Int) else most) = L at em
  have ex : biD ([] : Hd) .max [.int 1, .int L] = some (.int (if L > 1 then L else 1)) := rfl
  generalize hK : (if L > 1 then L else 1) = K at ex
  have hK1 : 1 ≤ K ∧ K ≤ 5 := by
    subst hK
    subst hL
    split <;> (try split) <;> omega
  have sm : small K = true := by simp [small]; omega
  simp -implicitDefEqProofs only [runD, evSs, evS, evE, evB, evA, evAV, evO, evC, evI, vw, Mini.start, bind_ok, bind_exc, bind_bad, bind_ite, of_somE, of_noneE, sof_ok, sof_exc, sof_bad, sof_ite, seq_nx, seq_rt, seq_exc, seq_bad, seq_ite, out_nx, out_rt, out_exc, out_ite, nox_ok, truth_bl, dif_true, dif_false, Ck.d, List.map_cons, List.map_nil, List.length_cons, List.length_nil, List.replicate, List.cons_append, List.nil_append, List.append_nil, List.getElem?_cons_zero, List.getElem?_cons_succ, List.set_cons_zero, List.set_cons_succ, Option.map_some, decide_true, decide_false, set2, set_len, asg_nm, asg_tp, asgs_nil, asgs_cons, Option.bind_some, wipeE, b_add, b_sub, k_lt, k_le, k_gt, k_ge, k_eq, k_ne, k_isN, k_isnN, s_lst, s_tup, Bool.and_true, Bool.true_and, if_true, if_false, reduceCtorEq, Nat.reduceAdd, Nat.reduceSub, Nat.reduceLT, Nat.reduceLeDiff, Nat.reduceEqDiff, Bool.and_false, Bool.false_and, Bool.not_true, Bool.not_false, Bool.false_eq_true, okk_bind, okk_ok, okk_nox, okk_out, oks_seq, oks_of, oks_nx, oks_rt, ixc0, ixc1, ixc2, ixc3, nat_c, Int.reduceSub, Int.reduceAdd, Int.reduceEq, Int.reduceLT, Int.reduceLE, Int.reduceMul, Bool.or_false, Bool.false_or, Bool.true_or, Bool.or_true, Bool.or_self, Bool.and_self, List.isEmpty_nil, List.isEmpty_cons, bq1, bq2, bq3, bq4, cond_true, cond_false, eq_self, el, em, ex, sm]
  refine (loopC_by (acc := []) (fun r acc h => acc = (List.range h.length).map D.ref ∧ Fresh 0 h ∧ h.length + r.length ≤ 5 ∧ ∀ x ∈ r, ∃ k : Nat, k < 10 ∧ x = .int k) (fun x r acc h p => ?_) ⟨rfl, fun j _ hj => by simp at hj, by simp [rngD]; omega, fun x hx => ?_⟩).mono fun ys h q => ?_
  · obtain ⟨p1, p2, p3, p4⟩ := p
    obtain ⟨k, hk, rfl⟩ := p4 x List.mem_cons_self
    obtain ⟨c, ec, hc⟩ := c_cell hT (n := n) (h := h) hs k hk
    simp -implicitDefEqProofs only [runD, evSs, evS, evE, evB, evA, evAV, evO, evC, evI, vw, Mini.start, bind_ok, bind_exc, bind_bad, bind_ite, of_somE, of_noneE, sof_ok, sof_exc, sof_bad, sof_ite, seq_nx, seq_rt, seq_exc, seq_bad, seq_ite, out_nx, out_rt, out_exc, out_ite, nox_ok, truth_bl, dif_true, dif_false, Ck.d, List.map_cons, List.map_nil, List.length_cons, List.length_nil, List.replicate, List.cons_append, List.nil_append, List.append_nil, List.getElem?_cons_zero, List.getElem?_cons_succ, List.set_cons_zero, List.set_cons_succ, Option.map_some, decide_true, decide_false, set2, set_len, asg_nm, asg_tp, asgs_nil, asgs_cons, Option.bind_some, wipeE, b_add, b_sub, k_lt, k_le, k_gt, k_ge, k_eq, k_ne, k_isN, k_isnN, s_lst, s_tup, Bool.and_true, Bool.true_and, if_true, if_false, reduceCtorEq, Nat.reduceAdd, Nat.reduceSub, Nat.reduceLT, Nat.reduceLeDiff, Nat.reduceEqDiff, Bool.and_false, Bool.false_and, Bool.not_true, Bool.not_false, Bool.false_eq_true, okk_bind, okk_ok, okk_nox, okk_out, oks_seq, oks_of, oks_nx, oks_rt, ixc0, ixc1, ixc2, ixc3, nat_c, Int.reduceSub, Int.reduceAdd, Int.reduceEq, Int.reduceLT, Int.reduceLE, Int.reduceMul, Bool.or_false, Bool.false_or, Bool.true_or, Bool.or_true, Bool.or_self, Bool.and_self, List.isEmpty_nil, List.isEmpty_cons, bq1, bq2, bq3, bq4, cond_true, cond_false, eq_self, ec]
    refine ⟨?_, fun j _ hj => ?_, by simp at p3 ⊢; omega, fun y hy => p4 y (List.mem_cons_of_mem _ hy)⟩
    · rw [p1]
      simp [List.range_succ]
    · by_cases hj2 : j < h.length
      · rw [List.getElem?_append_left hj2]
        exact p2 j (Nat.zero_le _) hj2
      · have : j = h.length := by simp at hj; omega
        subst this
        exact ⟨c, by simp, hc⟩
  · simp only [rngD, List.mem_map, List.mem_range] at hx
    obtain ⟨k, hk, rfl⟩ := hx
    exact ⟨k, by omega, by simp⟩
  · obtain ⟨q1, q2, q3, _⟩ := q
    simp only [List.nil_append] at q1
    have hy : ys.length ≤ 1000000 := by rw [q1]; simp at q3 ⊢; omega
    simp -implicitDefEqProofs only [runD, evSs, evS, evE, evB, evA, evAV, evO, evC, evI, vw, Mini.start, bind_ok, bind_exc, bind_bad, bind_ite, of_somE, of_noneE, sof_ok, sof_exc, sof_bad, sof_ite, seq_nx, seq_rt, seq_exc, seq_bad, seq_ite, out_nx, out_rt, out_exc, out_ite, nox_ok, truth_bl, dif_true, dif_false, Ck.d, List.map_cons, List.map_nil, List.length_cons, List.length_nil, List.replicate, List.cons_append, List.nil_append, List.append_nil, List.getElem?_cons_zero, List.getElem?_cons_succ, List.set_cons_zero, List.set_cons_succ, Option.map_some, decide_true, decide_false, set2, set_len, asg_nm, asg_tp, asgs_nil, asgs_cons, Option.bind_some, wipeE, b_add, b_sub, k_lt, k_le, k_gt, k_ge, k_eq, k_ne, k_isN, k_isnN, s_lst, s_tup, Bool.and_true, Bool.true_and, if_true, if_false, reduceCtorEq, Nat.reduceAdd, Nat.reduceSub, Nat.reduceLT, Nat.reduceLeDiff, Nat.reduceEqDiff, Bool.and_false, Bool.false_and, Bool.not_true, Bool.not_false, Bool.false_eq_true, okk_bind, okk_ok, okk_nox, okk_out, oks_seq, oks_of, oks_nx, oks_rt, ixc0, ixc1, ixc2, ixc3, nat_c, Int.reduceSub, Int.reduceAdd, Int.reduceEq, Int.reduceLT, Int.reduceLE, Int.reduceMul, Bool.or_false, Bool.false_or, Bool.true_or, Bool.or_true, Bool.or_self, Bool.and_self, List.isEmpty_nil, List.isEmpty_cons, bq1, bq2, bq3, bq4, cond_true, cond_false, eq_self, hy]
    exact ⟨by rw [q1], q2⟩
/-- a law that goes over the dice, and says True behind -/
theorem law_by {ns : List Int} (hs : Scr ns) {m : Nat} {b : ISs} (most : Int) (hm : 1 ≤ most) (hm2 : most ≤ 5)
    (body : ∀ (i : Nat) (h : Hd) (c : Int) (ρ : Ev), i < h.length → c.natAbs < 2 ^ 1100000 → ρ.length = m + 2 → ρ[0]? = some (some (.val (.lst (ns.map .int)))) → ρ[1]? = some (some (.val (.ref i))) →
      Oks (evSs (call T (n + 2)) b ρ (h.set i (dc c 0))) (fun ρ' h' => ρ'.length = m + 2 ∧ ρ'[0]? = some (some (.val (.lst (ns.map .int)))) ∧ ∃ x, h' = h.set i x) fun _ _ => False) :
    ∃ h', runD (call T (n + 2)) ⟨1, m + 2, .cons (.forr (.nm 1) (.seq (.call 10 (.cons (.var 0) (.cons (.k (.int most)) .nil)))) b) (.cons (.ret (.k (.bl true))) .nil)⟩ [.lst (ns.map .int)] [] = .ok (.bl true) h' := by
  have main : Okk (runD (call T (n + 2)) ⟨1, m + 2, .cons (.forr (.nm 1) (.seq (.call 10 (.cons (.var 0) (.cons (.k (.int most)) .nil)))) b) (.cons (.ret (.k (.bl true))) .nil)⟩ [.lst (ns.map .int)] []) fun d _ => d = .bl true := by
    have e0 : (Mini.start (m + 2) [D.lst (ns.map .int)])[0]? = some (some (.val (.lst (ns.map .int)))) := rfl
    have e1 : (Mini.start (m + 2) [D.lst (ns.map .int)]).length = m + 2 := by simp [Mini.start]
    generalize hρ : Mini.start (m + 2) [D.lst (ns.map .int)] = ρ at e0 e1
    simp only [runD, evSs, evS, evE, evA, evI, hρ, e0, bind_ok, Ck.d, okk_out, oks_seq, oks_of, okk_bind, okk_ok, oks_nx, oks_rt, List.length_cons, List.length_nil, Nat.reduceAdd, decide_true, if_true]
    refine (c_rounds hT hs most hm hm2).mono fun d h q => ?_
    obtain ⟨rfl, fr⟩ := q
    dsimp only
    rw [okk_ok]
    refine forL_by (xs := (List.range h.length).map D.ref) (fun r ρ h => ρ.length = m + 2 ∧ ρ[0]? = some (some (.val (.lst (ns.map .int)))) ∧ ∃ k, k + r.length = h.length ∧ r = (List.range' k r.length).map D.ref ∧ Fresh k h) (fun ρ h _ => trivial) (fun x r ρ h p => ?_) ⟨e1, e0, 0, by simp, by simp [List.range_eq_range'], fr⟩
    obtain ⟨p1, p2, k, p3, p4, p5⟩ := p
    simp only [List.length_cons, List.range'_succ, List.map_cons, List.cons.injEq] at p4
    obtain ⟨rfl, p4⟩ := p4
    simp only [List.length_cons] at p3
    obtain ⟨c, ec, hc⟩ := p5 k (Nat.le_refl _) (by omega)
    have hk : k < h.length := by omega
    have eh : h.set k (dc c 0) = h := by
      refine List.ext_getElem? fun j => ?_
      by_cases hj : k = j
      · subst hj
        rw [List.getElem?_set_self hk, ec]
      · rw [List.getElem?_set_ne hj]
    have h1 : 1 < ρ.length := by omega
    have h0 : 0 < ρ.length := by omega
    simp only [asg, h1, decide_true, if_true, of_somE, sof_ok]
    have bb := body k h c (ρ.set 1 (some (.val (.ref k)))) hk hc (by simp [p1]) (by rw [List.getElem?_set_ne (by decide)]; exact p2) (List.getElem?_set_self h1)
    rw [eh] at bb
    refine bb.mono (fun ρ' h' q => ?_) fun _ _ z => z.elim
    obtain ⟨q1, q2, y, rfl⟩ := q
    refine ⟨q1, q2, k + 1, by rw [set_len]; omega, p4, fun j hj hj2 => ?_⟩
    rw [set_len] at hj2
    rw [List.getElem?_set_ne (by omega)]
    exact p5 j (by omega) hj2
  obtain ⟨d, h, e, rfl⟩ := main.get
  exact ⟨h, e⟩
end
end Mini

/-! D3: users, deals, places. -/
namespace Mini
open PySem PySem.Spec L2
def D.isRef : D → Bool
  | .ref _ => true
  | _ => false
def isNumD (lo hi : Int) : D → Bool
  | .int i => decide (lo ≤ i) && decide (i ≤ hi)
  | _ => false
theorem isi_tuple {d : D} (h : d.isRef = false) : isiD .tuple d = some (match d with | .tup _ => true | _ => false) := by cases d <;> first | rfl | cases h
theorem isi_int {d : D} (h : d.isRef = false) : isiD .int d = some (match d with | .int _ => true | .bl _ => true | _ => false) := by cases d <;> first | rfl | cases h
theorem isi_bool {d : D} (h : d.isRef = false) : isiD .bool d = some (match d with | .bl _ => true | _ => false) := by cases d <;> first | rfl | cases h
theorem isi_str {d : D} (h : d.isRef = false) : isiD .str d = some (match d with | .str _ => true | _ => false) := by cases d <;> first | rfl | cases h
theorem isi_list {d : D} (h : d.isRef = false) : isiD .list d = some (match d with | .lst _ => true | _ => false) := by cases d <;> first | rfl | cases h
theorem len_tup {h : Hd} (xs : List D) : biD h .len [.tup xs] = some (.int (xs.length : Nat)) := rfl
theorem len_lst {h : Hd} (xs : List D) : biD h .len [.lst xs] = some (.int (xs.length : Nat)) := rfl
theorem chain_ite {γ : Type} (b : Bool) (x y : γ) : (if b = true then x else y) = bif b then x else y := by cases b <;> rfl
theorem all_lst {h : Hd} {xs : List D} {bs : List Bool} (e : blsD xs = some bs) : biD h .all [.lst xs] = some (.bl (bs.all id)) := by simp only [biD, e, Option.map_some]
theorem any_lst {h : Hd} {xs : List D} {bs : List Bool} (e : blsD xs = some bs) : biD h .any [.lst xs] = some (.bl (bs.any id)) := by simp only [biD, e, Option.map_some]
theorem sum_lst {h : Hd} {xs : List D} {bs : List Int} (e : intsD xs = some bs) : biD h .sum [.lst xs] = some (.int bs.sum) := by simp only [biD, e, Option.map_some]
theorem bls_map (bs : List Bool) : blsD (bs.map D.bl) = some bs := by
  induction bs with
  | nil => rfl
  | cons b r ih => simp [blsD, ih]
theorem ints_map (bs : List Int) : intsD (bs.map D.int) = some bs := by
  induction bs with
  | nil => rfl
  | cons b r ih => simp [intsD, ih]
section
variable {T : Nat → Option Df} (hT : Exts T) {n : Nat} {h : Hd}
include hT
theorem c_isnum {d : D} (hr : d.isRef = false) (lo hi : Int) : call T (n + 1) 1 [d, .int lo, .int hi] h = .ok (.bl (isNumD lo hi d)) h := by
  rw [callT hT (show T0 1 = some ir_is_number from rfl)]
  unfold ir_is_number
  simp -implicitDefEqProofs only [runD, evSs, evS, evE, evB, evA, evAV, evO, evC, evI, vw, Mini.start, bind_ok, bind_exc, bind_bad, bind_ite, of_somE, of_noneE, sof_ok, sof_exc, sof_bad, sof_ite, seq_nx, seq_rt, seq_exc, seq_bad, seq_ite, out_nx, out_rt, out_exc, out_ite, nox_ok, truth_bl, dif_true, dif_false, Ck.d, List.map_cons, List.map_nil, List.length_cons, List.length_nil, List.replicate, List.cons_append, List.nil_append, List.append_nil, List.getElem?_cons_zero, List.getElem?_cons_succ, List.set_cons_zero, List.set_cons_succ, Option.map_some, decide_true, decide_false, set2, set_len, asg_nm, asg_tp, asgs_nil, asgs_cons, Option.bind_some, wipeE, b_add, b_sub, k_lt, k_le, k_gt, k_ge, k_eq, k_ne, k_isN, k_isnN, s_lst, s_tup, Bool.and_true, Bool.true_and, if_true, if_false, reduceCtorEq, Nat.reduceAdd, Nat.reduceSub, Nat.reduceLT, Nat.reduceLeDiff, Nat.reduceEqDiff, Bool.and_false, Bool.false_and, Bool.not_true, Bool.not_false, Bool.false_eq_true, okk_bind, okk_ok, okk_nox, okk_out, oks_seq, oks_of, oks_nx, oks_rt, ixc0, ixc1, ixc2, ixc3, nat_c, Int.reduceSub, Int.reduceAdd, Int.reduceEq, Int.reduceLT, Int.reduceLE, Int.reduceMul, Bool.or_false, Bool.false_or, Bool.true_or, Bool.or_true, Bool.or_self, Bool.and_self, List.isEmpty_nil, List.isEmpty_cons, bq1, bq2, bq3, bq4, cond_true, cond_false, eq_self, isi_int hr, isi_bool hr]
  cases d with
  | int i =>
    (try simp -implicitDefEqProofs only [runD, evSs, evS, evE, evB, evA, evAV, evO, evC, evI, vw, Mini.start, bind_ok, bind_exc, bind_bad, bind_ite, of_somE, of_noneE, sof_ok, sof_exc, sof_bad, sof_ite, seq_nx, seq_rt, seq_exc, seq_bad, seq_ite, out_nx, out_rt, out_exc, out_ite, nox_ok, truth_bl, dif_true, dif_false, Ck.d, List.map_cons, List.map_nil, List.length_cons, List.length_nil, List.replicate, List.cons_append, List.nil_append, List.append_nil, List.getElem?_cons_zero, List.getElem?_cons_succ, List.set_cons_zero, List.set_cons_succ, Option.map_some, decide_true, decide_false, set2, set_len, asg_nm, asg_tp, asgs_nil, asgs_cons, Option.bind_some, wipeE, b_add, b_sub, k_lt, k_le, k_gt, k_ge, k_eq, k_ne, k_isN, k_isnN, s_lst, s_tup, Bool.and_true, Bool.true_and, if_true, if_false, reduceCtorEq, Nat.reduceAdd, Nat.reduceSub, Nat.reduceLT, Nat.reduceLeDiff, Nat.reduceEqDiff, Bool.and_false, Bool.false_and, Bool.not_true, Bool.not_false, Bool.false_eq_true, okk_bind, okk_ok, okk_nox, okk_out, oks_seq, oks_of, oks_nx, oks_rt, ixc0, ixc1, ixc2, ixc3, nat_c, Int.reduceSub, Int.reduceAdd, Int.reduceEq, Int.reduceLT, Int.reduceLE, Int.reduceMul, Bool.or_false, Bool.false_or, Bool.true_or, Bool.or_true, Bool.or_self, Bool.and_self, List.isEmpty_nil, List.isEmpty_cons, bq1, bq2, bq3, bq4, cond_true, cond_false, eq_self])
    by_cases h1 : lo ≤ i
    · simp -implicitDefEqProofs only [runD, evSs, evS, evE, evB, evA, evAV, evO, evC, evI, vw, Mini.start, bind_ok, bind_exc, bind_bad, bind_ite, of_somE, of_noneE, sof_ok, sof_exc, sof_bad, sof_ite, seq_nx, seq_rt, seq_exc, seq_bad, seq_ite, out_nx, out_rt, out_exc, out_ite, nox_ok, truth_bl, dif_true, dif_false, Ck.d, List.map_cons, List.map_nil, List.length_cons, List.length_nil, List.replicate, List.cons_append, List.nil_append, List.append_nil, List.getElem?_cons_zero, List.getElem?_cons_succ, List.set_cons_zero, List.set_cons_succ, Option.map_some, decide_true, decide_false, set2, set_len, asg_nm, asg_tp, asgs_nil, asgs_cons, Option.bind_some, wipeE, b_add, b_sub, k_lt, k_le, k_gt, k_ge, k_eq, k_ne, k_isN, k_isnN, s_lst, s_tup, Bool.and_true, Bool.true_and, if_true, if_false, reduceCtorEq, Nat.reduceAdd, Nat.reduceSub, Nat.reduceLT, Nat.reduceLeDiff, Nat.reduceEqDiff, Bool.and_false, Bool.false_and, Bool.not_true, Bool.not_false, Bool.false_eq_true, okk_bind, okk_ok, okk_nox, okk_out, oks_seq, oks_of, oks_nx, oks_rt, ixc0, ixc1, ixc2, ixc3, nat_c, Int.reduceSub, Int.reduceAdd, Int.reduceEq, Int.reduceLT, Int.reduceLE, Int.reduceMul, Bool.or_false, Bool.false_or, Bool.true_or, Bool.or_true, Bool.or_self, Bool.and_self, List.isEmpty_nil, List.isEmpty_cons, bq1, bq2, bq3, bq4, cond_true, cond_false, eq_self, h1, isNumD]
    · simp -implicitDefEqProofs only [runD, evSs, evS, evE, evB, evA, evAV, evO, evC, evI, vw, Mini.start, bind_ok, bind_exc, bind_bad, bind_ite, of_somE, of_noneE, sof_ok, sof_exc, sof_bad, sof_ite, seq_nx, seq_rt, seq_exc, seq_bad, seq_ite, out_nx, out_rt, out_exc, out_ite, nox_ok, truth_bl, dif_true, dif_false, Ck.d, List.map_cons, List.map_nil, List.length_cons, List.length_nil, List.replicate, List.cons_append, List.nil_append, List.append_nil, List.getElem?_cons_zero, List.getElem?_cons_succ, List.set_cons_zero, List.set_cons_succ, Option.map_some, decide_true, decide_false, set2, set_len, asg_nm, asg_tp, asgs_nil, asgs_cons, Option.bind_some, wipeE, b_add, b_sub, k_lt, k_le, k_gt, k_ge, k_eq, k_ne, k_isN, k_isnN, s_lst, s_tup, Bool.and_true, Bool.true_and, if_true, if_false, reduceCtorEq, Nat.reduceAdd, Nat.reduceSub, Nat.reduceLT, Nat.reduceLeDiff, Nat.reduceEqDiff, Bool.and_false, Bool.false_and, Bool.not_true, Bool.not_false, Bool.false_eq_true, okk_bind, okk_ok, okk_nox, okk_out, oks_seq, oks_of, oks_nx, oks_rt, ixc0, ixc1, ixc2, ixc3, nat_c, Int.reduceSub, Int.reduceAdd, Int.reduceEq, Int.reduceLT, Int.reduceLE, Int.reduceMul, Bool.or_false, Bool.false_or, Bool.true_or, Bool.or_true, Bool.or_self, Bool.and_self, List.isEmpty_nil, List.isEmpty_cons, bq1, bq2, bq3, bq4, cond_true, cond_false, eq_self, h1, isNumD]
  | ref _ => cases hr
  | _ => simp -implicitDefEqProofs only [runD, evSs, evS, evE, evB, evA, evAV, evO, evC, evI, vw, Mini.start, bind_ok, bind_exc, bind_bad, bind_ite, of_somE, of_noneE, sof_ok, sof_exc, sof_bad, sof_ite, seq_nx, seq_rt, seq_exc, seq_bad, seq_ite, out_nx, out_rt, out_exc, out_ite, nox_ok, truth_bl, dif_true, dif_false, Ck.d, List.map_cons, List.map_nil, List.length_cons, List.length_nil, List.replicate, List.cons_append, List.nil_append, List.append_nil, List.getElem?_cons_zero, List.getElem?_cons_succ, List.set_cons_zero, List.set_cons_succ, Option.map_some, decide_true, decide_false, set2, set_len, asg_nm, asg_tp, asgs_nil, asgs_cons, Option.bind_some, wipeE, b_add, b_sub, k_lt, k_le, k_gt, k_ge, k_eq, k_ne, k_isN, k_isnN, s_lst, s_tup, Bool.and_true, Bool.true_and, if_true, if_false, reduceCtorEq, Nat.reduceAdd, Nat.reduceSub, Nat.reduceLT, Nat.reduceLeDiff, Nat.reduceEqDiff, Bool.and_false, Bool.false_and, Bool.not_true, Bool.not_false, Bool.false_eq_true, okk_bind, okk_ok, okk_nox, okk_out, oks_seq, oks_of, oks_nx, oks_rt, ixc0, ixc1, ixc2, ixc3, nat_c, Int.reduceSub, Int.reduceAdd, Int.reduceEq, Int.reduceLT, Int.reduceLE, Int.reduceMul, Bool.or_false, Bool.false_or, Bool.true_or, Bool.or_true, Bool.or_self, Bool.and_self, List.isEmpty_nil, List.isEmpty_cons, bq1, bq2, bq3, bq4, cond_true, cond_false, eq_self, isNumD]
/-- a user: number, land, plan -/
structure IsU (u l p : Int) : Prop where
  u0 : 0 ≤ u
  u1 : u ≤ 1000000000000
  l0 : 0 ≤ l
  l1 : l ≤ 5
  p0 : 0 ≤ p
  p1 : p ≤ 3
omit hT in
theorem isNum_t {lo hi i : Int} (h0 : lo ≤ i) (h1 : i ≤ hi) : isNumD lo hi (.int i) = true := by simp [isNumD, h0, h1]
theorem c_need_user {u l p : Int} (k : IsU u l p) : call T (n + 2) 3 [.tup [.int u, .int l, .int p]] h = .ok .non h := by
  rw [callT hT (show T0 3 = some ir_need_user from rfl)]
  unfold ir_need_user
  have i1 := fun (d : D) (hr : d.isRef = false) lo hi => c_isnum hT (n := n) (h := h) hr lo hi
  simp -implicitDefEqProofs only [runD, evSs, evS, evE, evB, evA, evAV, evO, evC, evI, vw, Mini.start, bind_ok, bind_exc, bind_bad, bind_ite, of_somE, of_noneE, sof_ok, sof_exc, sof_bad, sof_ite, seq_nx, seq_rt, seq_exc, seq_bad, seq_ite, out_nx, out_rt, out_exc, out_ite, nox_ok, truth_bl, dif_true, dif_false, Ck.d, List.map_cons, List.map_nil, List.length_cons, List.length_nil, List.replicate, List.cons_append, List.nil_append, List.append_nil, List.getElem?_cons_zero, List.getElem?_cons_succ, List.set_cons_zero, List.set_cons_succ, Option.map_some, decide_true, decide_false, set2, set_len, asg_nm, asg_tp, asgs_nil, asgs_cons, Option.bind_some, wipeE, b_add, b_sub, k_lt, k_le, k_gt, k_ge, k_eq, k_ne, k_isN, k_isnN, s_lst, s_tup, Bool.and_true, Bool.true_and, if_true, if_false, reduceCtorEq, Nat.reduceAdd, Nat.reduceSub, Nat.reduceLT, Nat.reduceLeDiff, Nat.reduceEqDiff, Bool.and_false, Bool.false_and, Bool.not_true, Bool.not_false, Bool.false_eq_true, okk_bind, okk_ok, okk_nox, okk_out, oks_seq, oks_of, oks_nx, oks_rt, ixc0, ixc1, ixc2, ixc3, nat_c, Int.reduceSub, Int.reduceAdd, Int.reduceEq, Int.reduceLT, Int.reduceLE, Int.reduceMul, Bool.or_false, Bool.false_or, Bool.true_or, Bool.or_true, Bool.or_self, Bool.and_self, List.isEmpty_nil, List.isEmpty_cons, bq1, bq2, bq3, bq4, cond_true, cond_false, eq_self, isi_tuple (d := .tup [.int u, .int l, .int p]) rfl, len_tup, ixD, i1 (.int u) rfl, i1 (.int l) rfl, i1 (.int p) rfl, isNum_t k.u0 k.u1, isNum_t k.l0 k.l1, isNum_t k.p0 k.p1]
omit hT in
theorem log_le {x : Int} {k : Nat} (hk : 0 < k) (h : x.natAbs < 2 ^ k) : x.natAbs.log2 < k := lg hk h
/-- numbers below 2 ^ 64 -/
theorem c_rest_s (a b : Int) (hb : 0 < b) (h1 : b.natAbs < 2 ^ 64) (h2 : a.natAbs < 2 ^ 64) : call T (n + 1) 2 [.int a, .int b] h = .ok (.int (a % b)) h := by
  have l1 : b.natAbs.log2 < 64 := lg (by decide) h1
  have l2 : (a / b).natAbs < 2 ^ 65 := by
    have e1 : a / b ≤ a.natAbs := by
      by_cases z : 0 ≤ a
      · have := Int.ediv_le_self b z
        omega
      · have := Int.ediv_neg_of_neg_of_pos (show a < 0 by omega) hb
        omega
    have e2 : -(a.natAbs : Int) ≤ a / b := by
      by_cases z : 0 ≤ a
      · have := Int.ediv_nonneg z (show 0 ≤ b by omega)
        omega
      · refine (Int.le_ediv_iff_mul_le hb).mpr ?_
        have : -(a.natAbs : Int) * b ≤ -(a.natAbs : Int) * 1 := Int.mul_le_mul_of_nonpos_left (by omega) (by omega)
        omega
    omega
  have l2 : (a / b).natAbs.log2 < 65 := lg (by decide) l2
  exact c_rest hT a b hb (by omega) (by omega)
/-- a deal -/
structure IsDl (s t : Int) : Prop where
  s0 : 0 ≤ s
  s1 : s ≤ 99
  t0 : 0 ≤ t
  t1 : t ≤ 99
  s2 : s % 2 ≠ 0
  s5 : s % 5 ≠ 0
theorem c_need_deal {s t : Int} (k : IsDl s t) : call T (n + 2) 4 [.tup [.int s, .int t]] h = .ok .non h := by
  rw [callT hT (show T0 4 = some ir_need_deal from rfl)]
  unfold ir_need_deal
  have i1 := fun (d : D) (hr : d.isRef = false) lo hi => c_isnum hT (n := n) (h := h) hr lo hi
  have r2 := c_rest_s hT (n := n) (h := h) s 2 (by decide) (by decide) (by have := k.s0; have := k.s1; omega)
  have r5 := c_rest_s hT (n := n) (h := h) s 5 (by decide) (by decide) (by have := k.s0; have := k.s1; omega)
  simp -implicitDefEqProofs only [runD, evSs, evS, evE, evB, evA, evAV, evO, evC, evI, vw, Mini.start, bind_ok, bind_exc, bind_bad, bind_ite, of_somE, of_noneE, sof_ok, sof_exc, sof_bad, sof_ite, seq_nx, seq_rt, seq_exc, seq_bad, seq_ite, out_nx, out_rt, out_exc, out_ite, nox_ok, truth_bl, dif_true, dif_false, Ck.d, List.map_cons, List.map_nil, List.length_cons, List.length_nil, List.replicate, List.cons_append, List.nil_append, List.append_nil, List.getElem?_cons_zero, List.getElem?_cons_succ, List.set_cons_zero, List.set_cons_succ, Option.map_some, decide_true, decide_false, set2, set_len, asg_nm, asg_tp, asgs_nil, asgs_cons, Option.bind_some, wipeE, b_add, b_sub, k_lt, k_le, k_gt, k_ge, k_eq, k_ne, k_isN, k_isnN, s_lst, s_tup, Bool.and_true, Bool.true_and, if_true, if_false, reduceCtorEq, Nat.reduceAdd, Nat.reduceSub, Nat.reduceLT, Nat.reduceLeDiff, Nat.reduceEqDiff, Bool.and_false, Bool.false_and, Bool.not_true, Bool.not_false, Bool.false_eq_true, okk_bind, okk_ok, okk_nox, okk_out, oks_seq, oks_of, oks_nx, oks_rt, ixc0, ixc1, ixc2, ixc3, nat_c, Int.reduceSub, Int.reduceAdd, Int.reduceEq, Int.reduceLT, Int.reduceLE, Int.reduceMul, Bool.or_false, Bool.false_or, Bool.true_or, Bool.or_true, Bool.or_self, Bool.and_self, List.isEmpty_nil, List.isEmpty_cons, bq1, bq2, bq3, bq4, cond_true, cond_false, eq_self, isi_tuple (d := .tup [.int s, .int t]) rfl, len_tup, ixD, i1 (.int s) rfl, i1 (.int t) rfl, isNum_t k.s0 k.s1, isNum_t k.t0 k.t1, r2, r5, k.s2, k.s5]
/-- a user's place -/
def plc (u s t : Int) : Int := (u * s + t) % 100
theorem c_place_of {u s t : Int} (k : IsDl s t) (u0 : 0 ≤ u) (u1 : u ≤ 1000000000000) : call T (n + 2) 5 [.int u, .tup [.int s, .int t]] h = .ok (.int (plc u s t)) h := by
  rw [callT hT (show T0 5 = some ir_place_of from rfl)]
  unfold ir_place_of
  obtain ⟨s0, s1, t0, t1, _, _⟩ := k
  have hb : u * s ≤ 1000000000000 * 99 := Int.mul_le_mul u1 s1 s0 (by decide)
  have h0 : 0 ≤ u * s := Int.mul_nonneg u0 s0
  have e := c_rest_s hT (n := n) (h := h) (u * s + t) 100 (by decide) (by decide) (by omega)
  have lu : u.natAbs.log2 < 64 := lg (by decide) (by omega)
  have ls : s.natAbs.log2 < 64 := lg (by decide) (by omega)
  simp -implicitDefEqProofs only [runD, evSs, evS, evE, evB, evA, evAV, evO, evC, evI, vw, Mini.start, bind_ok, bind_exc, bind_bad, bind_ite, of_somE, of_noneE, sof_ok, sof_exc, sof_bad, sof_ite, seq_nx, seq_rt, seq_exc, seq_bad, seq_ite, out_nx, out_rt, out_exc, out_ite, nox_ok, truth_bl, dif_true, dif_false, Ck.d, List.map_cons, List.map_nil, List.length_cons, List.length_nil, List.replicate, List.cons_append, List.nil_append, List.append_nil, List.getElem?_cons_zero, List.getElem?_cons_succ, List.set_cons_zero, List.set_cons_succ, Option.map_some, decide_true, decide_false, set2, set_len, asg_nm, asg_tp, asgs_nil, asgs_cons, Option.bind_some, wipeE, b_add, b_sub, k_lt, k_le, k_gt, k_ge, k_eq, k_ne, k_isN, k_isnN, s_lst, s_tup, Bool.and_true, Bool.true_and, if_true, if_false, reduceCtorEq, Nat.reduceAdd, Nat.reduceSub, Nat.reduceLT, Nat.reduceLeDiff, Nat.reduceEqDiff, Bool.and_false, Bool.false_and, Bool.not_true, Bool.not_false, Bool.false_eq_true, okk_bind, okk_ok, okk_nox, okk_out, oks_seq, oks_of, oks_nx, oks_rt, ixc0, ixc1, ixc2, ixc3, nat_c, Int.reduceSub, Int.reduceAdd, Int.reduceEq, Int.reduceLT, Int.reduceLE, Int.reduceMul, Bool.or_false, Bool.false_or, Bool.true_or, Bool.or_true, Bool.or_self, Bool.and_self, List.isEmpty_nil, List.isEmpty_cons, bq1, bq2, bq3, bq4, cond_true, cond_false, eq_self, ixD, b_mul (show u.natAbs.log2 + s.natAbs.log2 < 134000000 by omega), e]
  rfl
theorem c_place {u l p s t : Int} (k : IsU u l p) (kd : IsDl s t) : call T (n + 3) 6 [.tup [.int u, .int l, .int p], .tup [.int s, .int t]] h = .ok (.int (plc u s t)) h := by
  rw [callT hT (show T0 6 = some ir_place from rfl)]
  unfold ir_place
  simp -implicitDefEqProofs only [runD, evSs, evS, evE, evB, evA, evAV, evO, evC, evI, vw, Mini.start, bind_ok, bind_exc, bind_bad, bind_ite, of_somE, of_noneE, sof_ok, sof_exc, sof_bad, sof_ite, seq_nx, seq_rt, seq_exc, seq_bad, seq_ite, out_nx, out_rt, out_exc, out_ite, nox_ok, truth_bl, dif_true, dif_false, Ck.d, List.map_cons, List.map_nil, List.length_cons, List.length_nil, List.replicate, List.cons_append, List.nil_append, List.append_nil, List.getElem?_cons_zero, List.getElem?_cons_succ, List.set_cons_zero, List.set_cons_succ, Option.map_some, decide_true, decide_false, set2, set_len, asg_nm, asg_tp, asgs_nil, asgs_cons, Option.bind_some, wipeE, b_add, b_sub, k_lt, k_le, k_gt, k_ge, k_eq, k_ne, k_isN, k_isnN, s_lst, s_tup, Bool.and_true, Bool.true_and, if_true, if_false, reduceCtorEq, Nat.reduceAdd, Nat.reduceSub, Nat.reduceLT, Nat.reduceLeDiff, Nat.reduceEqDiff, Bool.and_false, Bool.false_and, Bool.not_true, Bool.not_false, Bool.false_eq_true, okk_bind, okk_ok, okk_nox, okk_out, oks_seq, oks_of, oks_nx, oks_rt, ixc0, ixc1, ixc2, ixc3, nat_c, Int.reduceSub, Int.reduceAdd, Int.reduceEq, Int.reduceLT, Int.reduceLE, Int.reduceMul, Bool.or_false, Bool.false_or, Bool.true_or, Bool.or_true, Bool.or_self, Bool.and_self, List.isEmpty_nil, List.isEmpty_cons, bq1, bq2, bq3, bq4, cond_true, cond_false, eq_self, c_need_user hT k, c_need_deal hT kd, ixD, c_place_of hT kd k.u0 k.u1]

/-! ### draws, as steps -/
/-- what a draw leaves: r more -/
def Dr (h : Hd) (i : Nat) (r : Int) (P : D → Prop) (d : D) (h' : Hd) : Prop := ∃ a b, h' = h.set i (dc a b) ∧ Dc r a b ∧ P d
theorem c_rollK {i : Nat} {a b m : Int} (r : Int) (hi : i < h.length) (hd : Dc (r + 1) a b) (hr : 0 ≤ r) (hm : 0 < m) (hl : m.natAbs < 2 ^ 64) :
    Okk (call T (n + 2) 9 [.ref i, .int m] (h.set i (dc a b))) (Dr h i r fun d => ∃ v : Int, d = .int v ∧ 0 ≤ v ∧ v < m) := by
  have : m.natAbs.log2 < 64 := lg (by decide) hl
  obtain ⟨v, a', b', e, v0, v1, d⟩ := c_roll hT (n := n) hi hd hr hm (by omega)
  exact Okk.of e ⟨a', b', rfl, d, v, rfl, v0, v1⟩
theorem c_law_deal {i : Nat} {a b : Int} (r : Int) (hi : i < h.length) (hd : Dc (r + 3) a b) (hr : 0 ≤ r) :
    Okk (call T (n + 3) 11 [.ref i] (h.set i (dc a b))) (Dr h i r fun d => ∃ s t, d = .tup [.int s, .int t] ∧ IsDl s t) := by
  rw [callT hT (show T0 11 = some ir_law_deal from rfl)]
  unfold ir_law_deal
  (try simp -implicitDefEqProofs only [runD, evSs, evS, evE, evB, evA, evAV, evO, evC, evI, vw, Mini.start, bind_ok, bind_exc, bind_bad, bind_ite, of_somE, of_noneE, sof_ok, sof_exc, sof_bad, sof_ite, seq_nx, seq_rt, seq_exc, seq_bad, seq_ite, out_nx, out_rt, out_exc, out_ite, nox_ok, truth_bl, dif_true, dif_false, Ck.d, List.map_cons, List.map_nil, List.length_cons, List.length_nil, List.replicate, List.cons_append, List.nil_append, List.append_nil, List.getElem?_cons_zero, List.getElem?_cons_succ, List.set_cons_zero, List.set_cons_succ, Option.map_some, decide_true, decide_false, set2, set_len, asg_nm, asg_tp, asgs_nil, asgs_cons, Option.bind_some, wipeE, b_add, b_sub, k_lt, k_le, k_gt, k_ge, k_eq, k_ne, k_isN, k_isnN, s_lst, s_tup, Bool.and_true, Bool.true_and, if_true, if_false, reduceCtorEq, Nat.reduceAdd, Nat.reduceSub, Nat.reduceLT, Nat.reduceLeDiff, Nat.reduceEqDiff, Bool.and_false, Bool.false_and, Bool.not_true, Bool.not_false, Bool.false_eq_true, okk_bind, okk_ok, okk_nox, okk_out, oks_seq, oks_of, oks_nx, oks_rt, ixc0, ixc1, ixc2, ixc3, nat_c, Int.reduceSub, Int.reduceAdd, Int.reduceEq, Int.reduceLT, Int.reduceLE, Int.reduceMul, Bool.or_false, Bool.false_or, Bool.true_or, Bool.or_true, Bool.or_self, Bool.and_self, List.isEmpty_nil, List.isEmpty_cons, bq1, bq2, bq3, bq4, cond_true, cond_false, eq_self])
  refine (c_rollK hT (r + 2) hi (hd.less (by omega)) (by omega) (by decide) (by decide)).mono fun d h' q => ?_
  obtain ⟨a1, b1, rfl, d1, x, rfl, x0, x1⟩ := q
  have lx : x.natAbs.log2 < 64 := lg (by decide) (by omega)
  simp -implicitDefEqProofs only [runD, evSs, evS, evE, evB, evA, evAV, evO, evC, evI, vw, Mini.start, bind_ok, bind_exc, bind_bad, bind_ite, of_somE, of_noneE, sof_ok, sof_exc, sof_bad, sof_ite, seq_nx, seq_rt, seq_exc, seq_bad, seq_ite, out_nx, out_rt, out_exc, out_ite, nox_ok, truth_bl, dif_true, dif_false, Ck.d, List.map_cons, List.map_nil, List.length_cons, List.length_nil, List.replicate, List.cons_append, List.nil_append, List.append_nil, List.getElem?_cons_zero, List.getElem?_cons_succ, List.set_cons_zero, List.set_cons_succ, Option.map_some, decide_true, decide_false, set2, set_len, asg_nm, asg_tp, asgs_nil, asgs_cons, Option.bind_some, wipeE, b_add, b_sub, k_lt, k_le, k_gt, k_ge, k_eq, k_ne, k_isN, k_isnN, s_lst, s_tup, Bool.and_true, Bool.true_and, if_true, if_false, reduceCtorEq, Nat.reduceAdd, Nat.reduceSub, Nat.reduceLT, Nat.reduceLeDiff, Nat.reduceEqDiff, Bool.and_false, Bool.false_and, Bool.not_true, Bool.not_false, Bool.false_eq_true, okk_bind, okk_ok, okk_nox, okk_out, oks_seq, oks_of, oks_nx, oks_rt, ixc0, ixc1, ixc2, ixc3, nat_c, Int.reduceSub, Int.reduceAdd, Int.reduceEq, Int.reduceLT, Int.reduceLE, Int.reduceMul, Bool.or_false, Bool.false_or, Bool.true_or, Bool.or_true, Bool.or_self, Bool.and_self, List.isEmpty_nil, List.isEmpty_cons, bq1, bq2, bq3, bq4, cond_true, cond_false, eq_self, b_mul (show (10 : Int).natAbs.log2 + x.natAbs.log2 < 134000000 by have : (10 : Int).natAbs.log2 < 64 := lg (by decide) (by decide); omega)]
  refine (c_rollK hT (r + 1) hi (d1.less (by omega)) (by omega) (by decide) (by decide)).mono fun d h' q => ?_
  obtain ⟨a2, b2, rfl, d2, y, rfl, y0, y1⟩ := q
  obtain ⟨w, hw, w1⟩ : ∃ w : Int, ixD (h.set i (dc a2 b2)) (.lst [.int 1, .int 3, .int 7, .int 9]) (.int y) = some (.int w) ∧ (w = 1 ∨ w = 3 ∨ w = 7 ∨ w = 9) := by
    have : y = 0 ∨ y = 1 ∨ y = 2 ∨ y = 3 := by omega
    rcases this with rfl | rfl | rfl | rfl
    · exact ⟨1, rfl, by simp⟩
    · exact ⟨3, rfl, by simp⟩
    · exact ⟨7, rfl, by simp⟩
    · exact ⟨9, rfl, by simp⟩
  simp -implicitDefEqProofs only [runD, evSs, evS, evE, evB, evA, evAV, evO, evC, evI, vw, Mini.start, bind_ok, bind_exc, bind_bad, bind_ite, of_somE, of_noneE, sof_ok, sof_exc, sof_bad, sof_ite, seq_nx, seq_rt, seq_exc, seq_bad, seq_ite, out_nx, out_rt, out_exc, out_ite, nox_ok, truth_bl, dif_true, dif_false, Ck.d, List.map_cons, List.map_nil, List.length_cons, List.length_nil, List.replicate, List.cons_append, List.nil_append, List.append_nil, List.getElem?_cons_zero, List.getElem?_cons_succ, List.set_cons_zero, List.set_cons_succ, Option.map_some, decide_true, decide_false, set2, set_len, asg_nm, asg_tp, asgs_nil, asgs_cons, Option.bind_some, wipeE, b_add, b_sub, k_lt, k_le, k_gt, k_ge, k_eq, k_ne, k_isN, k_isnN, s_lst, s_tup, Bool.and_true, Bool.true_and, if_true, if_false, reduceCtorEq, Nat.reduceAdd, Nat.reduceSub, Nat.reduceLT, Nat.reduceLeDiff, Nat.reduceEqDiff, Bool.and_false, Bool.false_and, Bool.not_true, Bool.not_false, Bool.false_eq_true, okk_bind, okk_ok, okk_nox, okk_out, oks_seq, oks_of, oks_nx, oks_rt, ixc0, ixc1, ixc2, ixc3, nat_c, Int.reduceSub, Int.reduceAdd, Int.reduceEq, Int.reduceLT, Int.reduceLE, Int.reduceMul, Bool.or_false, Bool.false_or, Bool.true_or, Bool.or_true, Bool.or_self, Bool.and_self, List.isEmpty_nil, List.isEmpty_cons, bq1, bq2, bq3, bq4, cond_true, cond_false, eq_self, hw]
  refine (c_rollK hT r hi d2 (by omega) (by decide) (by decide)).mono fun d h' q => ?_
  obtain ⟨a3, b3, rfl, d3, z, rfl, z0, z1⟩ := q
  refine ⟨_, _, rfl, d3, _, _, rfl, ⟨?_, ?_, ?_, ?_, ?_, ?_⟩⟩ <;> omega
theorem c_law_user {i : Nat} {a b : Int} (r : Int) (hi : i < h.length) (hd : Dc (r + 4) a b) (hr : 0 ≤ r) :
    Okk (call T (n + 3) 12 [.ref i] (h.set i (dc a b))) (Dr h i r fun d => ∃ u l p, d = .tup [.int u, .int l, .int p] ∧ IsU u l p) := by
  rw [callT hT (show T0 12 = some ir_law_user from rfl)]
  unfold ir_law_user
  simp -implicitDefEqProofs only [runD, evSs, evS, evE, evB, evA, evAV, evO, evC, evI, vw, Mini.start, bind_ok, bind_exc, bind_bad, bind_ite, of_somE, of_noneE, sof_ok, sof_exc, sof_bad, sof_ite, seq_nx, seq_rt, seq_exc, seq_bad, seq_ite, out_nx, out_rt, out_exc, out_ite, nox_ok, truth_bl, dif_true, dif_false, Ck.d, List.map_cons, List.map_nil, List.length_cons, List.length_nil, List.replicate, List.cons_append, List.nil_append, List.append_nil, List.getElem?_cons_zero, List.getElem?_cons_succ, List.set_cons_zero, List.set_cons_succ, Option.map_some, decide_true, decide_false, set2, set_len, asg_nm, asg_tp, asgs_nil, asgs_cons, Option.bind_some, wipeE, b_add, b_sub, k_lt, k_le, k_gt, k_ge, k_eq, k_ne, k_isN, k_isnN, s_lst, s_tup, Bool.and_true, Bool.true_and, if_true, if_false, reduceCtorEq, Nat.reduceAdd, Nat.reduceSub, Nat.reduceLT, Nat.reduceLeDiff, Nat.reduceEqDiff, Bool.and_false, Bool.false_and, Bool.not_true, Bool.not_false, Bool.false_eq_true, okk_bind, okk_ok, okk_nox, okk_out, oks_seq, oks_of, oks_nx, oks_rt, ixc0, ixc1, ixc2, ixc3, nat_c, Int.reduceSub, Int.reduceAdd, Int.reduceEq, Int.reduceLT, Int.reduceLE, Int.reduceMul, Bool.or_false, Bool.false_or, Bool.true_or, Bool.or_true, Bool.or_self, Bool.and_self, List.isEmpty_nil, List.isEmpty_cons, bq1, bq2, bq3, bq4, cond_true, cond_false, eq_self, b_pow (i := 10) (j := 6) (by decide) (by decide) (by decide), b_pow (i := 10) (j := 12) (by decide) (by decide) (by decide)]
  refine (c_rollK hT (r + 3) hi (hd.less (by omega)) (by omega) (by decide) (by decide)).mono fun d h' q => ?_
  obtain ⟨a1, b1, rfl, d1, x, rfl, x0, x1⟩ := q
  obtain ⟨w, hw, w0, w1⟩ : ∃ w : Int, ixD (h.set i (dc a1 b1)) (.lst [.int 130, .int (10 ^ Int.toNat 6), .int (10 ^ Int.toNat 12 + 1), .int 130]) (.int x) = some (.int w) ∧ 0 < w ∧ w ≤ 1000000000001 := by
    have : x = 0 ∨ x = 1 ∨ x = 2 ∨ x = 3 := by omega
    rcases this with rfl | rfl | rfl | rfl
    · exact ⟨_, rfl, by decide⟩
    · exact ⟨_, rfl, by decide⟩
    · exact ⟨_, rfl, by decide⟩
    · exact ⟨_, rfl, by decide⟩
  simp -implicitDefEqProofs only [runD, evSs, evS, evE, evB, evA, evAV, evO, evC, evI, vw, Mini.start, bind_ok, bind_exc, bind_bad, bind_ite, of_somE, of_noneE, sof_ok, sof_exc, sof_bad, sof_ite, seq_nx, seq_rt, seq_exc, seq_bad, seq_ite, out_nx, out_rt, out_exc, out_ite, nox_ok, truth_bl, dif_true, dif_false, Ck.d, List.map_cons, List.map_nil, List.length_cons, List.length_nil, List.replicate, List.cons_append, List.nil_append, List.append_nil, List.getElem?_cons_zero, List.getElem?_cons_succ, List.set_cons_zero, List.set_cons_succ, Option.map_some, decide_true, decide_false, set2, set_len, asg_nm, asg_tp, asgs_nil, asgs_cons, Option.bind_some, wipeE, b_add, b_sub, k_lt, k_le, k_gt, k_ge, k_eq, k_ne, k_isN, k_isnN, s_lst, s_tup, Bool.and_true, Bool.true_and, if_true, if_false, reduceCtorEq, Nat.reduceAdd, Nat.reduceSub, Nat.reduceLT, Nat.reduceLeDiff, Nat.reduceEqDiff, Bool.and_false, Bool.false_and, Bool.not_true, Bool.not_false, Bool.false_eq_true, okk_bind, okk_ok, okk_nox, okk_out, oks_seq, oks_of, oks_nx, oks_rt, ixc0, ixc1, ixc2, ixc3, nat_c, Int.reduceSub, Int.reduceAdd, Int.reduceEq, Int.reduceLT, Int.reduceLE, Int.reduceMul, Bool.or_false, Bool.false_or, Bool.true_or, Bool.or_true, Bool.or_self, Bool.and_self, List.isEmpty_nil, List.isEmpty_cons, bq1, bq2, bq3, bq4, cond_true, cond_false, eq_self, hw]
  refine (c_rollK hT (r + 2) hi (d1.less (by omega)) (by omega) w0 (by omega)).mono fun d h' q => ?_
  obtain ⟨a2, b2, rfl, d2, u, rfl, u0, u1⟩ := q
  (try simp -implicitDefEqProofs only [runD, evSs, evS, evE, evB, evA, evAV, evO, evC, evI, vw, Mini.start, bind_ok, bind_exc, bind_bad, bind_ite, of_somE, of_noneE, sof_ok, sof_exc, sof_bad, sof_ite, seq_nx, seq_rt, seq_exc, seq_bad, seq_ite, out_nx, out_rt, out_exc, out_ite, nox_ok, truth_bl, dif_true, dif_false, Ck.d, List.map_cons, List.map_nil, List.length_cons, List.length_nil, List.replicate, List.cons_append, List.nil_append, List.append_nil, List.getElem?_cons_zero, List.getElem?_cons_succ, List.set_cons_zero, List.set_cons_succ, Option.map_some, decide_true, decide_false, set2, set_len, asg_nm, asg_tp, asgs_nil, asgs_cons, Option.bind_some, wipeE, b_add, b_sub, k_lt, k_le, k_gt, k_ge, k_eq, k_ne, k_isN, k_isnN, s_lst, s_tup, Bool.and_true, Bool.true_and, if_true, if_false, reduceCtorEq, Nat.reduceAdd, Nat.reduceSub, Nat.reduceLT, Nat.reduceLeDiff, Nat.reduceEqDiff, Bool.and_false, Bool.false_and, Bool.not_true, Bool.not_false, Bool.false_eq_true, okk_bind, okk_ok, okk_nox, okk_out, oks_seq, oks_of, oks_nx, oks_rt, ixc0, ixc1, ixc2, ixc3, nat_c, Int.reduceSub, Int.reduceAdd, Int.reduceEq, Int.reduceLT, Int.reduceLE, Int.reduceMul, Bool.or_false, Bool.false_or, Bool.true_or, Bool.or_true, Bool.or_self, Bool.and_self, List.isEmpty_nil, List.isEmpty_cons, bq1, bq2, bq3, bq4, cond_true, cond_false, eq_self])
  refine (c_rollK hT (r + 1) hi (d2.less (by omega)) (by omega) (by decide) (by decide)).mono fun d h' q => ?_
  obtain ⟨a3, b3, rfl, d3, l, rfl, l0, l1⟩ := q
  (try simp -implicitDefEqProofs only [runD, evSs, evS, evE, evB, evA, evAV, evO, evC, evI, vw, Mini.start, bind_ok, bind_exc, bind_bad, bind_ite, of_somE, of_noneE, sof_ok, sof_exc, sof_bad, sof_ite, seq_nx, seq_rt, seq_exc, seq_bad, seq_ite, out_nx, out_rt, out_exc, out_ite, nox_ok, truth_bl, dif_true, dif_false, Ck.d, List.map_cons, List.map_nil, List.length_cons, List.length_nil, List.replicate, List.cons_append, List.nil_append, List.append_nil, List.getElem?_cons_zero, List.getElem?_cons_succ, List.set_cons_zero, List.set_cons_succ, Option.map_some, decide_true, decide_false, set2, set_len, asg_nm, asg_tp, asgs_nil, asgs_cons, Option.bind_some, wipeE, b_add, b_sub, k_lt, k_le, k_gt, k_ge, k_eq, k_ne, k_isN, k_isnN, s_lst, s_tup, Bool.and_true, Bool.true_and, if_true, if_false, reduceCtorEq, Nat.reduceAdd, Nat.reduceSub, Nat.reduceLT, Nat.reduceLeDiff, Nat.reduceEqDiff, Bool.and_false, Bool.false_and, Bool.not_true, Bool.not_false, Bool.false_eq_true, okk_bind, okk_ok, okk_nox, okk_out, oks_seq, oks_of, oks_nx, oks_rt, ixc0, ixc1, ixc2, ixc3, nat_c, Int.reduceSub, Int.reduceAdd, Int.reduceEq, Int.reduceLT, Int.reduceLE, Int.reduceMul, Bool.or_false, Bool.false_or, Bool.true_or, Bool.or_true, Bool.or_self, Bool.and_self, List.isEmpty_nil, List.isEmpty_cons, bq1, bq2, bq3, bq4, cond_true, cond_false, eq_self])
  refine (c_rollK hT r hi d3 (by omega) (by decide) (by decide)).mono fun d h' q => ?_
  obtain ⟨a4, b4, rfl, d4, p, rfl, p0, p1⟩ := q
  exact ⟨_, _, rfl, d4, u, l, p, rfl, ⟨u0, by omega, l0, by omega, p0, by omega⟩⟩
end
end Mini

/-! D4: conditions. -/
namespace Mini
open PySem PySem.Spec L2
mutual
/-- no place; texts that may be; not too long -/
def D.fine : D → Bool
  | .str x => PyData.strOk x
  | .tup xs => D.fines xs && decide (xs.length ≤ 1000000)
  | .lst xs => D.fines xs && decide (xs.length ≤ 1000000)
  | .ref _ => false
  | _ => true
def D.fines : List D → Bool
  | [] => true
  | x :: xs => D.fine x && D.fines xs
end
mutual
theorem D.fine_nr : ∀ {d : D}, D.fine d = true → D.nr d = true
  | .str _, h => h
  | .tup _, h => D.fines_nr (pair_and h).1
  | .lst _, h => D.fines_nr (pair_and h).1
  | .ref _, h => h
  | .non, _ => rfl
  | .bl _, _ => rfl
  | .int _, _ => rfl
theorem D.fines_nr : ∀ {xs : List D}, D.fines xs = true → D.nrs xs = true
  | [], _ => rfl
  | _ :: _, h => by
    simp only [D.nrs, D.fine_nr (pair_and h).1, D.fines_nr (pair_and h).2, Bool.and_self]
end
theorem D.fine_ref {d : D} (h : D.fine d = true) : d.isRef = false := by cases d <;> first | rfl | cases h
theorem fines_all {xs : List D} : D.fines xs = true ↔ ∀ x ∈ xs, D.fine x = true := by
  induction xs with
  | nil => simp [D.fines]
  | cons x r ih => simp [D.fines, ih]
theorem nrs_all {xs : List D} : D.nrs xs = true ↔ ∀ x ∈ xs, D.nr x = true := by
  induction xs with
  | nil => simp [D.nrs]
  | cons x r ih => simp [D.nrs, ih]
theorem dps_all {xs : List D} {k : Nat} : D.dps xs ≤ k ↔ ∀ x ∈ xs, D.dp x ≤ k := by
  induction xs with
  | nil => simp [D.dps]
  | cons x r ih => simp [D.dps, ih, Nat.max_le]
theorem cut_tail (x : D) (xs : List D) : cutD (x :: xs) (some 1) none = xs := by
  unfold cutD HT.sIx
  simp
theorem cut_tail' (xs : List D) : cutD xs (some 1) none = xs.drop 1 := by
  cases xs with
  | nil => simp [cutD]
  | cons x r => rw [cut_tail]; rfl
def ltD : D → D → Bool
  | .int a, .int b => decide (a < b)
  | _, _ => false
def risesD (xs : List D) : Bool := (xs.zip (xs.drop 1)).all fun p => ltD p.1 p.2
def rowD (m : Int) : D → Bool
  | .tup xs => !xs.isEmpty && (xs.all (isNumD 0 (m - 1)) && risesD xs)
  | _ => false
theorem filterMap_some {α β : Type} (f : α → β) (xs : List α) : xs.filterMap (fun x => some (f x)) = xs.map f := by
  induction xs with
  | nil => rfl
  | cons x r ih => simp
theorem eqvs_emp (xs : List D) : D.eqv (.tup xs) (.tup []) = xs.isEmpty := by simp [D.eqv, eqvs_nil]
theorem ints_of_nums {lo hi : Int} : ∀ {xs : List D}, xs.all (isNumD lo hi) = true → ∃ ns : List Int, xs = ns.map .int ∧ ∀ n ∈ ns, lo ≤ n ∧ n ≤ hi
  | [], _ => ⟨[], rfl, by simp⟩
  | x :: r, h => by
    simp only [List.all_cons, Bool.and_eq_true] at h
    obtain ⟨ns, rfl, k⟩ := ints_of_nums h.2
    cases x with
    | int i =>
      have := h.1
      simp [isNumD] at this
      refine ⟨i :: ns, rfl, fun n hn => ?_⟩
      rcases List.mem_cons.mp hn with e | hn
      · rw [e]; exact this
      · exact k n hn
    | _ => have := h.1; simp [isNumD] at this
def pf (f : D → D → D) : D → Option D
  | .tup [a, b] => some (f a b)
  | _ => none
theorem pf_map (f : D → D → D) (ps : List (D × D)) : (ps.map fun p => D.tup [p.1, p.2]).filterMap (pf f) = ps.map fun p => f p.1 p.2 := by
  rw [List.filterMap_map, ← filterMap_some]
  rfl
section
variable {T : Nat → Option Df} (hT : Exts T) {n : Nat} {h : Hd}
include hT
theorem c_is_row {d : D} (hd : d.fine = true) (m : Int) : call T (n + 2) 13 [d, .int m] h = .ok (.bl (rowD m d)) h := by
  rw [callT hT (show T0 13 = some ir_is_row from rfl)]
  unfold ir_is_row
  simp -implicitDefEqProofs only [runD, evSs, evS, evE, evB, evA, evAV, evO, evC, evI, vw, Mini.start, bind_ok, bind_exc, bind_bad, bind_ite, of_somE, of_noneE, sof_ok, sof_exc, sof_bad, sof_ite, seq_nx, seq_rt, seq_exc, seq_bad, seq_ite, out_nx, out_rt, out_exc, out_ite, nox_ok, truth_bl, dif_true, dif_false, Ck.d, List.map_cons, List.map_nil, List.length_cons, List.length_nil, List.replicate, List.cons_append, List.nil_append, List.append_nil, List.getElem?_cons_zero, List.getElem?_cons_succ, List.set_cons_zero, List.set_cons_succ, Option.map_some, decide_true, decide_false, set2, set_len, asg_nm, asg_tp, asgs_nil, asgs_cons, Option.bind_some, wipeE, b_add, b_sub, k_lt, k_le, k_gt, k_ge, k_eq, k_ne, k_isN, k_isnN, s_lst, s_tup, Bool.and_true, Bool.true_and, if_true, if_false, reduceCtorEq, Nat.reduceAdd, Nat.reduceSub, Nat.reduceLT, Nat.reduceLeDiff, Nat.reduceEqDiff, Bool.and_false, Bool.false_and, Bool.not_true, Bool.not_false, Bool.false_eq_true, okk_bind, okk_ok, okk_nox, okk_out, oks_seq, oks_of, oks_nx, oks_rt, ixc0, ixc1, ixc2, ixc3, nat_c, Int.reduceSub, Int.reduceAdd, Int.reduceEq, Int.reduceLT, Int.reduceLE, Int.reduceMul, Bool.or_false, Bool.false_or, Bool.true_or, Bool.or_true, Bool.or_self, Bool.and_self, List.isEmpty_nil, List.isEmpty_cons, bq1, bq2, bq3, bq4, cond_true, cond_false, eq_self, isi_tuple (D.fine_ref hd)]
  cases d with
  | tup xs =>
    have e1 : cmpD .Eq (.tup xs) (.tup []) = some xs.isEmpty := by
      rw [k_eqD (by simp [D.okEq, D.nr, D.nrs, D.dp, D.dps, show D.nrs xs = true from D.fine_nr hd]), eqvs_emp]
    simp -implicitDefEqProofs only [runD, evSs, evS, evE, evB, evA, evAV, evO, evC, evI, vw, Mini.start, bind_ok, bind_exc, bind_bad, bind_ite, of_somE, of_noneE, sof_ok, sof_exc, sof_bad, sof_ite, seq_nx, seq_rt, seq_exc, seq_bad, seq_ite, out_nx, out_rt, out_exc, out_ite, nox_ok, truth_bl, dif_true, dif_false, Ck.d, List.map_cons, List.map_nil, List.length_cons, List.length_nil, List.replicate, List.cons_append, List.nil_append, List.append_nil, List.getElem?_cons_zero, List.getElem?_cons_succ, List.set_cons_zero, List.set_cons_succ, Option.map_some, decide_true, decide_false, set2, set_len, asg_nm, asg_tp, asgs_nil, asgs_cons, Option.bind_some, wipeE, b_add, b_sub, k_lt, k_le, k_gt, k_ge, k_eq, k_ne, k_isN, k_isnN, s_lst, s_tup, Bool.and_true, Bool.true_and, if_true, if_false, reduceCtorEq, Nat.reduceAdd, Nat.reduceSub, Nat.reduceLT, Nat.reduceLeDiff, Nat.reduceEqDiff, Bool.and_false, Bool.false_and, Bool.not_true, Bool.not_false, Bool.false_eq_true, okk_bind, okk_ok, okk_nox, okk_out, oks_seq, oks_of, oks_nx, oks_rt, ixc0, ixc1, ixc2, ixc3, nat_c, Int.reduceSub, Int.reduceAdd, Int.reduceEq, Int.reduceLT, Int.reduceLE, Int.reduceMul, Bool.or_false, Bool.false_or, Bool.true_or, Bool.or_true, Bool.or_self, Bool.and_self, List.isEmpty_nil, List.isEmpty_cons, bq1, bq2, bq3, bq4, cond_true, cond_false, eq_self, e1]
    have fs := fines_all.mp (pair_and hd).1
    cases xs with
    | nil => simp -implicitDefEqProofs only [runD, evSs, evS, evE, evB, evA, evAV, evO, evC, evI, vw, Mini.start, bind_ok, bind_exc, bind_bad, bind_ite, of_somE, of_noneE, sof_ok, sof_exc, sof_bad, sof_ite, seq_nx, seq_rt, seq_exc, seq_bad, seq_ite, out_nx, out_rt, out_exc, out_ite, nox_ok, truth_bl, dif_true, dif_false, Ck.d, List.map_cons, List.map_nil, List.length_cons, List.length_nil, List.replicate, List.cons_append, List.nil_append, List.append_nil, List.getElem?_cons_zero, List.getElem?_cons_succ, List.set_cons_zero, List.set_cons_succ, Option.map_some, decide_true, decide_false, set2, set_len, asg_nm, asg_tp, asgs_nil, asgs_cons, Option.bind_some, wipeE, b_add, b_sub, k_lt, k_le, k_gt, k_ge, k_eq, k_ne, k_isN, k_isnN, s_lst, s_tup, Bool.and_true, Bool.true_and, if_true, if_false, reduceCtorEq, Nat.reduceAdd, Nat.reduceSub, Nat.reduceLT, Nat.reduceLeDiff, Nat.reduceEqDiff, Bool.and_false, Bool.false_and, Bool.not_true, Bool.not_false, Bool.false_eq_true, okk_bind, okk_ok, okk_nox, okk_out, oks_seq, oks_of, oks_nx, oks_rt, ixc0, ixc1, ixc2, ixc3, nat_c, Int.reduceSub, Int.reduceAdd, Int.reduceEq, Int.reduceLT, Int.reduceLE, Int.reduceMul, Bool.or_false, Bool.false_or, Bool.true_or, Bool.or_true, Bool.or_self, Bool.and_self, List.isEmpty_nil, List.isEmpty_cons, bq1, bq2, bq3, bq4, cond_true, cond_false, eq_self, List.isEmpty_nil, rowD]
    | cons x r =>
      rw [loopC_map (f := fun x => some (.bl (isNumD 0 (m - 1) x))) (fun y hy => by simp -implicitDefEqProofs only [runD, evSs, evS, evE, evB, evA, evAV, evO, evC, evI, vw, Mini.start, bind_ok, bind_exc, bind_bad, bind_ite, of_somE, of_noneE, sof_ok, sof_exc, sof_bad, sof_ite, seq_nx, seq_rt, seq_exc, seq_bad, seq_ite, out_nx, out_rt, out_exc, out_ite, nox_ok, truth_bl, dif_true, dif_false, Ck.d, List.map_cons, List.map_nil, List.length_cons, List.length_nil, List.replicate, List.cons_append, List.nil_append, List.append_nil, List.getElem?_cons_zero, List.getElem?_cons_succ, List.set_cons_zero, List.set_cons_succ, Option.map_some, decide_true, decide_false, set2, set_len, asg_nm, asg_tp, asgs_nil, asgs_cons, Option.bind_some, wipeE, b_add, b_sub, k_lt, k_le, k_gt, k_ge, k_eq, k_ne, k_isN, k_isnN, s_lst, s_tup, Bool.and_true, Bool.true_and, if_true, if_false, reduceCtorEq, Nat.reduceAdd, Nat.reduceSub, Nat.reduceLT, Nat.reduceLeDiff, Nat.reduceEqDiff, Bool.and_false, Bool.false_and, Bool.not_true, Bool.not_false, Bool.false_eq_true, okk_bind, okk_ok, okk_nox, okk_out, oks_seq, oks_of, oks_nx, oks_rt, ixc0, ixc1, ixc2, ixc3, nat_c, Int.reduceSub, Int.reduceAdd, Int.reduceEq, Int.reduceLT, Int.reduceLE, Int.reduceMul, Bool.or_false, Bool.false_or, Bool.true_or, Bool.or_true, Bool.or_self, Bool.and_self, List.isEmpty_nil, List.isEmpty_cons, bq1, bq2, bq3, bq4, cond_true, cond_false, eq_self, c_isnum hT (D.fine_ref (fs y hy))]), filterMap_some]
      have hl : (x :: r).length ≤ 1000000 := of_decide_eq_true (pair_and hd).2
      have hl' : r.length + 1 ≤ 1000000 := hl
      have e2 : biD h .all [.lst ((x :: r).map fun y => D.bl (isNumD 0 (m - 1) y))] = some (.bl ((x :: r).all (isNumD 0 (m - 1)))) := by
        rw [show ((x :: r).map fun y => D.bl (isNumD 0 (m - 1) y)) = ((x :: r).map (isNumD 0 (m - 1))).map D.bl by rw [List.map_map]; rfl, all_lst (bls_map _)]
        simp [List.all_map, Function.comp_def]
      rw [List.map_cons] at e2
      simp -implicitDefEqProofs only [runD, evSs, evS, evE, evB, evA, evAV, evO, evC, evI, vw, Mini.start, bind_ok, bind_exc, bind_bad, bind_ite, of_somE, of_noneE, sof_ok, sof_exc, sof_bad, sof_ite, seq_nx, seq_rt, seq_exc, seq_bad, seq_ite, out_nx, out_rt, out_exc, out_ite, nox_ok, truth_bl, dif_true, dif_false, Ck.d, List.map_cons, List.map_nil, List.length_cons, List.length_nil, List.replicate, List.cons_append, List.nil_append, List.append_nil, List.getElem?_cons_zero, List.getElem?_cons_succ, List.set_cons_zero, List.set_cons_succ, Option.map_some, decide_true, decide_false, set2, set_len, asg_nm, asg_tp, asgs_nil, asgs_cons, Option.bind_some, wipeE, b_add, b_sub, k_lt, k_le, k_gt, k_ge, k_eq, k_ne, k_isN, k_isnN, s_lst, s_tup, Bool.and_true, Bool.true_and, if_true, if_false, reduceCtorEq, Nat.reduceAdd, Nat.reduceSub, Nat.reduceLT, Nat.reduceLeDiff, Nat.reduceEqDiff, Bool.and_false, Bool.false_and, Bool.not_true, Bool.not_false, Bool.false_eq_true, okk_bind, okk_ok, okk_nox, okk_out, oks_seq, oks_of, oks_nx, oks_rt, ixc0, ixc1, ixc2, ixc3, nat_c, Int.reduceSub, Int.reduceAdd, Int.reduceEq, Int.reduceLT, Int.reduceLE, Int.reduceMul, Bool.or_false, Bool.false_or, Bool.true_or, Bool.or_true, Bool.or_self, Bool.and_self, List.isEmpty_nil, List.isEmpty_cons, bq1, bq2, bq3, bq4, cond_true, cond_false, eq_self, List.isEmpty_cons, List.length_map, hl', e2]
      by_cases c : (x :: r).all (isNumD 0 (m - 1)) = true
      · have er : rowD m (.tup (x :: r)) = risesD (x :: r) := by simp only [rowD, c, List.isEmpty_cons, Bool.not_false, Bool.true_and]
        rw [er]
        obtain ⟨ns, en, _⟩ := ints_of_nums c
        simp -implicitDefEqProofs only [runD, evSs, evS, evE, evB, evA, evAV, evO, evC, evI, vw, Mini.start, bind_ok, bind_exc, bind_bad, bind_ite, of_somE, of_noneE, sof_ok, sof_exc, sof_bad, sof_ite, seq_nx, seq_rt, seq_exc, seq_bad, seq_ite, out_nx, out_rt, out_exc, out_ite, nox_ok, truth_bl, dif_true, dif_false, Ck.d, List.map_cons, List.map_nil, List.length_cons, List.length_nil, List.replicate, List.cons_append, List.nil_append, List.append_nil, List.getElem?_cons_zero, List.getElem?_cons_succ, List.set_cons_zero, List.set_cons_succ, Option.map_some, decide_true, decide_false, set2, set_len, asg_nm, asg_tp, asgs_nil, asgs_cons, Option.bind_some, wipeE, b_add, b_sub, k_lt, k_le, k_gt, k_ge, k_eq, k_ne, k_isN, k_isnN, s_lst, s_tup, Bool.and_true, Bool.true_and, if_true, if_false, reduceCtorEq, Nat.reduceAdd, Nat.reduceSub, Nat.reduceLT, Nat.reduceLeDiff, Nat.reduceEqDiff, Bool.and_false, Bool.false_and, Bool.not_true, Bool.not_false, Bool.false_eq_true, okk_bind, okk_ok, okk_nox, okk_out, oks_seq, oks_of, oks_nx, oks_rt, ixc0, ixc1, ixc2, ixc3, nat_c, Int.reduceSub, Int.reduceAdd, Int.reduceEq, Int.reduceLT, Int.reduceLE, Int.reduceMul, Bool.or_false, Bool.false_or, Bool.true_or, Bool.or_true, Bool.or_self, Bool.and_self, List.isEmpty_nil, List.isEmpty_cons, bq1, bq2, bq3, bq4, cond_true, cond_false, eq_self, c, slD, cut_tail']
        generalize hL : x :: r = L at *
        subst en
        rw [loopC_map (f := pf fun a b => .bl (ltD a b)) (fun y hy => by
          obtain ⟨⟨p, q⟩, hp, rfl⟩ := List.mem_map.mp hy
          obtain ⟨hp1, hp2⟩ := List.of_mem_zip hp
          obtain ⟨i, _, rfl⟩ := List.mem_map.mp hp1
          obtain ⟨j, _, rfl⟩ := List.mem_map.mp (List.mem_of_mem_drop hp2)
          (try simp -implicitDefEqProofs only [runD, evSs, evS, evE, evB, evA, evAV, evO, evC, evI, vw, Mini.start, bind_ok, bind_exc, bind_bad, bind_ite, of_somE, of_noneE, sof_ok, sof_exc, sof_bad, sof_ite, seq_nx, seq_rt, seq_exc, seq_bad, seq_ite, out_nx, out_rt, out_exc, out_ite, nox_ok, truth_bl, dif_true, dif_false, Ck.d, List.map_cons, List.map_nil, List.length_cons, List.length_nil, List.replicate, List.cons_append, List.nil_append, List.append_nil, List.getElem?_cons_zero, List.getElem?_cons_succ, List.set_cons_zero, List.set_cons_succ, Option.map_some, decide_true, decide_false, set2, set_len, asg_nm, asg_tp, asgs_nil, asgs_cons, Option.bind_some, wipeE, b_add, b_sub, k_lt, k_le, k_gt, k_ge, k_eq, k_ne, k_isN, k_isnN, s_lst, s_tup, Bool.and_true, Bool.true_and, if_true, if_false, reduceCtorEq, Nat.reduceAdd, Nat.reduceSub, Nat.reduceLT, Nat.reduceLeDiff, Nat.reduceEqDiff, Bool.and_false, Bool.false_and, Bool.not_true, Bool.not_false, Bool.false_eq_true, okk_bind, okk_ok, okk_nox, okk_out, oks_seq, oks_of, oks_nx, oks_rt, ixc0, ixc1, ixc2, ixc3, nat_c, Int.reduceSub, Int.reduceAdd, Int.reduceEq, Int.reduceLT, Int.reduceLE, Int.reduceMul, Bool.or_false, Bool.false_or, Bool.true_or, Bool.or_true, Bool.or_self, Bool.and_self, List.isEmpty_nil, List.isEmpty_cons, bq1, bq2, bq3, bq4, cond_true, cond_false, eq_self])
          rfl)]
        rw [pf_map, show (fun p : D × D => D.bl (ltD p.1 p.2)) = D.bl ∘ (fun p => ltD p.1 p.2) from rfl, ← List.map_map]
        have hl3 : (((ns.map D.int).zip ((ns.map D.int).drop 1)).map fun p => ltD p.1 p.2).length ≤ 1000000 := by
          simp only [List.length_map, List.length_zip] at hl ⊢
          omega
        simp -implicitDefEqProofs only [runD, evSs, evS, evE, evB, evA, evAV, evO, evC, evI, vw, Mini.start, bind_ok, bind_exc, bind_bad, bind_ite, of_somE, of_noneE, sof_ok, sof_exc, sof_bad, sof_ite, seq_nx, seq_rt, seq_exc, seq_bad, seq_ite, out_nx, out_rt, out_exc, out_ite, nox_ok, truth_bl, dif_true, dif_false, Ck.d, List.map_cons, List.map_nil, List.length_cons, List.length_nil, List.replicate, List.cons_append, List.nil_append, List.append_nil, List.getElem?_cons_zero, List.getElem?_cons_succ, List.set_cons_zero, List.set_cons_succ, Option.map_some, decide_true, decide_false, set2, set_len, asg_nm, asg_tp, asgs_nil, asgs_cons, Option.bind_some, wipeE, b_add, b_sub, k_lt, k_le, k_gt, k_ge, k_eq, k_ne, k_isN, k_isnN, s_lst, s_tup, Bool.and_true, Bool.true_and, if_true, if_false, reduceCtorEq, Nat.reduceAdd, Nat.reduceSub, Nat.reduceLT, Nat.reduceLeDiff, Nat.reduceEqDiff, Bool.and_false, Bool.false_and, Bool.not_true, Bool.not_false, Bool.false_eq_true, okk_bind, okk_ok, okk_nox, okk_out, oks_seq, oks_of, oks_nx, oks_rt, ixc0, ixc1, ixc2, ixc3, nat_c, Int.reduceSub, Int.reduceAdd, Int.reduceEq, Int.reduceLT, Int.reduceLE, Int.reduceMul, Bool.or_false, Bool.false_or, Bool.true_or, Bool.or_true, Bool.or_self, Bool.and_self, List.isEmpty_nil, List.isEmpty_cons, bq1, bq2, bq3, bq4, cond_true, cond_false, eq_self, List.length_map, all_lst (bls_map _), hl3]
        simp only [List.length_map] at hl3
        simp -implicitDefEqProofs only [runD, evSs, evS, evE, evB, evA, evAV, evO, evC, evI, vw, Mini.start, bind_ok, bind_exc, bind_bad, bind_ite, of_somE, of_noneE, sof_ok, sof_exc, sof_bad, sof_ite, seq_nx, seq_rt, seq_exc, seq_bad, seq_ite, out_nx, out_rt, out_exc, out_ite, nox_ok, truth_bl, dif_true, dif_false, Ck.d, List.map_cons, List.map_nil, List.length_cons, List.length_nil, List.replicate, List.cons_append, List.nil_append, List.append_nil, List.getElem?_cons_zero, List.getElem?_cons_succ, List.set_cons_zero, List.set_cons_succ, Option.map_some, decide_true, decide_false, set2, set_len, asg_nm, asg_tp, asgs_nil, asgs_cons, Option.bind_some, wipeE, b_add, b_sub, k_lt, k_le, k_gt, k_ge, k_eq, k_ne, k_isN, k_isnN, s_lst, s_tup, Bool.and_true, Bool.true_and, if_true, if_false, reduceCtorEq, Nat.reduceAdd, Nat.reduceSub, Nat.reduceLT, Nat.reduceLeDiff, Nat.reduceEqDiff, Bool.and_false, Bool.false_and, Bool.not_true, Bool.not_false, Bool.false_eq_true, okk_bind, okk_ok, okk_nox, okk_out, oks_seq, oks_of, oks_nx, oks_rt, ixc0, ixc1, ixc2, ixc3, nat_c, Int.reduceSub, Int.reduceAdd, Int.reduceEq, Int.reduceLT, Int.reduceLE, Int.reduceMul, Bool.or_false, Bool.false_or, Bool.true_or, Bool.or_true, Bool.or_self, Bool.and_self, List.isEmpty_nil, List.isEmpty_cons, bq1, bq2, bq3, bq4, cond_true, cond_false, eq_self, hl3, all_lst (bls_map _), risesD, List.all_map]
        rfl
      · have c : (x :: r).all (isNumD 0 (m - 1)) = false := by simpa using c
        simp -implicitDefEqProofs only [runD, evSs, evS, evE, evB, evA, evAV, evO, evC, evI, vw, Mini.start, bind_ok, bind_exc, bind_bad, bind_ite, of_somE, of_noneE, sof_ok, sof_exc, sof_bad, sof_ite, seq_nx, seq_rt, seq_exc, seq_bad, seq_ite, out_nx, out_rt, out_exc, out_ite, nox_ok, truth_bl, dif_true, dif_false, Ck.d, List.map_cons, List.map_nil, List.length_cons, List.length_nil, List.replicate, List.cons_append, List.nil_append, List.append_nil, List.getElem?_cons_zero, List.getElem?_cons_succ, List.set_cons_zero, List.set_cons_succ, Option.map_some, decide_true, decide_false, set2, set_len, asg_nm, asg_tp, asgs_nil, asgs_cons, Option.bind_some, wipeE, b_add, b_sub, k_lt, k_le, k_gt, k_ge, k_eq, k_ne, k_isN, k_isnN, s_lst, s_tup, Bool.and_true, Bool.true_and, if_true, if_false, reduceCtorEq, Nat.reduceAdd, Nat.reduceSub, Nat.reduceLT, Nat.reduceLeDiff, Nat.reduceEqDiff, Bool.and_false, Bool.false_and, Bool.not_true, Bool.not_false, Bool.false_eq_true, okk_bind, okk_ok, okk_nox, okk_out, oks_seq, oks_of, oks_nx, oks_rt, ixc0, ixc1, ixc2, ixc3, nat_c, Int.reduceSub, Int.reduceAdd, Int.reduceEq, Int.reduceLT, Int.reduceLE, Int.reduceMul, Bool.or_false, Bool.false_or, Bool.true_or, Bool.or_true, Bool.or_self, Bool.and_self, List.isEmpty_nil, List.isEmpty_cons, bq1, bq2, bq3, bq4, cond_true, cond_false, eq_self, c, rowD, List.isEmpty_cons]
  | ref _ => cases hd
  | _ => simp -implicitDefEqProofs only [runD, evSs, evS, evE, evB, evA, evAV, evO, evC, evI, vw, Mini.start, bind_ok, bind_exc, bind_bad, bind_ite, of_somE, of_noneE, sof_ok, sof_exc, sof_bad, sof_ite, seq_nx, seq_rt, seq_exc, seq_bad, seq_ite, out_nx, out_rt, out_exc, out_ite, nox_ok, truth_bl, dif_true, dif_false, Ck.d, List.map_cons, List.map_nil, List.length_cons, List.length_nil, List.replicate, List.cons_append, List.nil_append, List.append_nil, List.getElem?_cons_zero, List.getElem?_cons_succ, List.set_cons_zero, List.set_cons_succ, Option.map_some, decide_true, decide_false, set2, set_len, asg_nm, asg_tp, asgs_nil, asgs_cons, Option.bind_some, wipeE, b_add, b_sub, k_lt, k_le, k_gt, k_ge, k_eq, k_ne, k_isN, k_isnN, s_lst, s_tup, Bool.and_true, Bool.true_and, if_true, if_false, reduceCtorEq, Nat.reduceAdd, Nat.reduceSub, Nat.reduceLT, Nat.reduceLeDiff, Nat.reduceEqDiff, Bool.and_false, Bool.false_and, Bool.not_true, Bool.not_false, Bool.false_eq_true, okk_bind, okk_ok, okk_nox, okk_out, oks_seq, oks_of, oks_nx, oks_rt, ixc0, ixc1, ixc2, ixc3, nat_c, Int.reduceSub, Int.reduceAdd, Int.reduceEq, Int.reduceLT, Int.reduceLE, Int.reduceMul, Bool.or_false, Bool.false_or, Bool.true_or, Bool.or_true, Bool.or_self, Bool.and_self, List.isEmpty_nil, List.isEmpty_cons, bq1, bq2, bq3, bq4, cond_true, cond_false, eq_self, rowD]
end
end Mini

/-! D5: what is a condition, and of whom it holds. -/
namespace Mini
open PySem PySem.Spec L2
def sum0 (rows : List Nat) : Nat := if rows.contains 0 then 0 else 1 + rows.sum
def goodW (w : Str) (m : Nat) : Bool := ((w == "and" || w == "or") && (decide (2 ≤ m) && decide (m ≤ 5))) || (w == "not" && decide (m = 1))
/-- how many parts -/
def partsD : Nat → D → Nat
  | 0, _ => 0
  | k + 1, d => (match d with
    | .tup (.str w :: x :: xs) =>
      if w == "land" then (if xs.isEmpty && rowD 6 x then 1 else 0)
      else if w == "plan" then (if xs.isEmpty && rowD 4 x then 1 else 0)
      else if goodW w (xs.length + 1) then sum0 ((x :: xs).map (partsD k)) else 0
    | _ => 0)
theorem in2 {w a b : Str} (hw : PyData.strOk w = true) (ha : PyData.strOk a = true) (hb : PyData.strOk b = true) : cmpD .In (.str w) (.tup [.str a, .str b]) = some (a == w || b == w) := by
  simp [cmpD, D.nr, D.nrs, hw, ha, hb, D.dp, D.dps, inD, D.eqv]
theorem eqS {w a : Str} (hw : PyData.strOk w = true) (ha : PyData.strOk a = true) : cmpD .Eq (.str w) (.str a) = some (w == a) := by
  simp [cmpD, D.okEq, D.nr, hw, ha, D.dp, D.eqv]
theorem okS : PyData.strOk "land" = true ∧ PyData.strOk "plan" = true ∧ PyData.strOk "and" = true ∧ PyData.strOk "or" = true ∧ PyData.strOk "not" = true := by decide +kernel
theorem in_ints (x : Int) (ns : List Int) : inD (.int x) (ns.map D.int) = ns.contains x := by
  induction ns with
  | nil => rfl
  | cons y r ih =>
    simp only [inD, List.map_cons, List.any_cons, D.eqv] at ih ⊢
    rw [ih, List.contains_cons]
    congr 1
    exact Bool.eq_iff_iff.mpr (by rw [beq_iff_eq, beq_iff_eq]; exact eq_comm)
theorem nrs_map_int (ns : List Int) : D.nrs (ns.map D.int) = true := nrs_ints ns
theorem dps_ints (ns : List Int) : D.dps (ns.map D.int) = 0 := by
  induction ns with
  | nil => rfl
  | cons x r ih => simp [D.dps, D.dp, ih]
theorem in_lst (x : Int) (ns : List Int) : cmpD .In (.int x) (.lst (ns.map D.int)) = some (ns.contains x) := by
  simp [cmpD, D.nr, nrs_ints, dps_ints, in_ints]
theorem nin_lst (x : Int) (ns : List Int) : cmpD .NotIn (.int x) (.lst (ns.map D.int)) = some (!ns.contains x) := by
  simp [cmpD, D.nr, nrs_ints, dps_ints, in_ints]
theorem in_tup (x : Int) (ns : List Int) : cmpD .In (.int x) (.tup (ns.map D.int)) = some (ns.contains x) := by
  simp [cmpD, D.nr, nrs_ints, dps_ints, in_ints, D.dp]
theorem contains_cast (ns : List Nat) : (ns.map Int.ofNat).contains 0 = ns.contains 0 := by
  induction ns with
  | nil => rfl
  | cons x r ih =>
    simp only [List.map_cons, List.contains_cons, ih]
    congr 1
    cases x <;> rfl
theorem sum_cast (ns : List Nat) : (ns.map Int.ofNat).sum = (ns.sum : Nat) := by
  induction ns with
  | nil => rfl
  | cons x r ih => simp [ih]
theorem sb_land_plan : (("land" : Str) == "plan") = false := by decide +kernel
theorem sb_land_and : (("land" : Str) == "and") = false := by decide +kernel
theorem sb_land_or : (("land" : Str) == "or") = false := by decide +kernel
theorem sb_land_not : (("land" : Str) == "not") = false := by decide +kernel
theorem sb_plan_land : (("plan" : Str) == "land") = false := by decide +kernel
theorem sb_plan_and : (("plan" : Str) == "and") = false := by decide +kernel
theorem sb_plan_or : (("plan" : Str) == "or") = false := by decide +kernel
theorem sb_plan_not : (("plan" : Str) == "not") = false := by decide +kernel
theorem sb_and_land : (("and" : Str) == "land") = false := by decide +kernel
theorem sb_and_plan : (("and" : Str) == "plan") = false := by decide +kernel
theorem sb_and_or : (("and" : Str) == "or") = false := by decide +kernel
theorem sb_and_not : (("and" : Str) == "not") = false := by decide +kernel
theorem sb_or_land : (("or" : Str) == "land") = false := by decide +kernel
theorem sb_or_plan : (("or" : Str) == "plan") = false := by decide +kernel
theorem sb_or_and : (("or" : Str) == "and") = false := by decide +kernel
theorem sb_or_not : (("or" : Str) == "not") = false := by decide +kernel
theorem sb_not_land : (("not" : Str) == "land") = false := by decide +kernel
theorem sb_not_plan : (("not" : Str) == "plan") = false := by decide +kernel
theorem sb_not_and : (("not" : Str) == "and") = false := by decide +kernel
theorem sb_not_or : (("not" : Str) == "or") = false := by decide +kernel
theorem int_bl {h : Hd} (b : Bool) : biD h .int [.bl b] = some (.int (if b = true then 1 else 0)) := rfl
theorem nn (k : Nat) : ((k + 1 + 1 : Nat) : Int) = 2 ↔ k = 0 := by omega
section
variable {T : Nat → Option Df} (hT : Exts T)
include hT
theorem c_parts : ∀ (k n : Nat) {d : D} {h : Hd}, d.fine = true → call T (n + k + 3) 14 [d, .int (k : Nat)] h = .ok (.int (partsD k d : Nat)) h
  | 0, n, d, h, hd => by
    rw [callT hT (show T0 14 = some ir_parts_of from rfl)]
    unfold ir_parts_of
    simp -implicitDefEqProofs only [runD, evSs, evS, evE, evB, evA, evAV, evO, evC, evI, vw, Mini.start, bind_ok, bind_exc, bind_bad, bind_ite, of_somE, of_noneE, sof_ok, sof_exc, sof_bad, sof_ite, seq_nx, seq_rt, seq_exc, seq_bad, seq_ite, out_nx, out_rt, out_exc, out_ite, nox_ok, truth_bl, dif_true, dif_false, Ck.d, List.map_cons, List.map_nil, List.length_cons, List.length_nil, List.replicate, List.cons_append, List.nil_append, List.append_nil, List.getElem?_cons_zero, List.getElem?_cons_succ, List.set_cons_zero, List.set_cons_succ, Option.map_some, decide_true, decide_false, set2, set_len, asg_nm, asg_tp, asgs_nil, asgs_cons, Option.bind_some, wipeE, b_add, b_sub, k_lt, k_le, k_gt, k_ge, k_eq, k_ne, k_isN, k_isnN, s_lst, s_tup, Bool.and_true, Bool.true_and, if_true, if_false, reduceCtorEq, Nat.reduceAdd, Nat.reduceSub, Nat.reduceLT, Nat.reduceLeDiff, Nat.reduceEqDiff, Bool.and_false, Bool.false_and, Bool.not_true, Bool.not_false, Bool.false_eq_true, okk_bind, okk_ok, okk_nox, okk_out, oks_seq, oks_of, oks_nx, oks_rt, ixc0, ixc1, ixc2, ixc3, nat_c, Int.reduceSub, Int.reduceAdd, Int.reduceEq, Int.reduceLT, Int.reduceLE, Int.reduceMul, Bool.or_false, Bool.false_or, Bool.true_or, Bool.or_true, Bool.or_self, Bool.and_self, List.isEmpty_nil, List.isEmpty_cons, bq1, bq2, bq3, bq4, cond_true, cond_false, eq_self, show ((0 : Nat) : Int) = 0 from rfl, partsD]
  | k + 1, n, d, h, hd => by
    rw [show n + (k + 1) + 3 = (n + k + 3) + 1 by omega, callT hT (show T0 14 = some ir_parts_of from rfl)]
    unfold ir_parts_of
    obtain ⟨o1, o2, o3, o4, o5⟩ := okS
    have e0 : ¬ ((k + 1 : Nat) : Int) = 0 := by omega
    have it := isi_tuple (D.fine_ref hd)
    cases d with
    | tup xs =>
      match xs, hd with
      | [], hd => simp -implicitDefEqProofs only [runD, evSs, evS, evE, evB, evA, evAV, evO, evC, evI, vw, Mini.start, bind_ok, bind_exc, bind_bad, bind_ite, of_somE, of_noneE, sof_ok, sof_exc, sof_bad, sof_ite, seq_nx, seq_rt, seq_exc, seq_bad, seq_ite, out_nx, out_rt, out_exc, out_ite, nox_ok, truth_bl, dif_true, dif_false, Ck.d, List.map_cons, List.map_nil, List.length_cons, List.length_nil, List.replicate, List.cons_append, List.nil_append, List.append_nil, List.getElem?_cons_zero, List.getElem?_cons_succ, List.set_cons_zero, List.set_cons_succ, Option.map_some, decide_true, decide_false, set2, set_len, asg_nm, asg_tp, asgs_nil, asgs_cons, Option.bind_some, wipeE, b_add, b_sub, k_lt, k_le, k_gt, k_ge, k_eq, k_ne, k_isN, k_isnN, s_lst, s_tup, Bool.and_true, Bool.true_and, if_true, if_false, reduceCtorEq, Nat.reduceAdd, Nat.reduceSub, Nat.reduceLT, Nat.reduceLeDiff, Nat.reduceEqDiff, Bool.and_false, Bool.false_and, Bool.not_true, Bool.not_false, Bool.false_eq_true, okk_bind, okk_ok, okk_nox, okk_out, oks_seq, oks_of, oks_nx, oks_rt, ixc0, ixc1, ixc2, ixc3, nat_c, Int.reduceSub, Int.reduceAdd, Int.reduceEq, Int.reduceLT, Int.reduceLE, Int.reduceMul, Bool.or_false, Bool.false_or, Bool.true_or, Bool.or_true, Bool.or_self, Bool.and_self, List.isEmpty_nil, List.isEmpty_cons, bq1, bq2, bq3, bq4, cond_true, cond_false, eq_self, len_tup, it, e0, show ((0 : Nat) : Int) = 0 from rfl, partsD]
      | [x], hd => simp -implicitDefEqProofs only [runD, evSs, evS, evE, evB, evA, evAV, evO, evC, evI, vw, Mini.start, bind_ok, bind_exc, bind_bad, bind_ite, of_somE, of_noneE, sof_ok, sof_exc, sof_bad, sof_ite, seq_nx, seq_rt, seq_exc, seq_bad, seq_ite, out_nx, out_rt, out_exc, out_ite, nox_ok, truth_bl, dif_true, dif_false, Ck.d, List.map_cons, List.map_nil, List.length_cons, List.length_nil, List.replicate, List.cons_append, List.nil_append, List.append_nil, List.getElem?_cons_zero, List.getElem?_cons_succ, List.set_cons_zero, List.set_cons_succ, Option.map_some, decide_true, decide_false, set2, set_len, asg_nm, asg_tp, asgs_nil, asgs_cons, Option.bind_some, wipeE, b_add, b_sub, k_lt, k_le, k_gt, k_ge, k_eq, k_ne, k_isN, k_isnN, s_lst, s_tup, Bool.and_true, Bool.true_and, if_true, if_false, reduceCtorEq, Nat.reduceAdd, Nat.reduceSub, Nat.reduceLT, Nat.reduceLeDiff, Nat.reduceEqDiff, Bool.and_false, Bool.false_and, Bool.not_true, Bool.not_false, Bool.false_eq_true, okk_bind, okk_ok, okk_nox, okk_out, oks_seq, oks_of, oks_nx, oks_rt, ixc0, ixc1, ixc2, ixc3, nat_c, Int.reduceSub, Int.reduceAdd, Int.reduceEq, Int.reduceLT, Int.reduceLE, Int.reduceMul, Bool.or_false, Bool.false_or, Bool.true_or, Bool.or_true, Bool.or_self, Bool.and_self, List.isEmpty_nil, List.isEmpty_cons, bq1, bq2, bq3, bq4, cond_true, cond_false, eq_self, len_tup, it, e0, show ((1 : Nat) : Int) = 1 from rfl, partsD]
      | w :: x :: xs, hd =>
        have fs := fines_all.mp (pair_and hd).1
        have hl : xs.length + 1 + 1 ≤ 1000000 := of_decide_eq_true (pair_and hd).2
        have l2 : ¬ ((xs.length + 1 + 1 : Nat) : Int) < 2 := by omega
        have is_ := isi_str (D.fine_ref (fs w List.mem_cons_self))
        (try simp -implicitDefEqProofs only [runD, evSs_nil, evS, evE, evB, evA, evAV, evO, evC, evI, vw, Mini.start, bind_ok, bind_exc, bind_bad, bind_ite, of_somE, of_noneE, sof_ok, sof_exc, sof_bad, sof_ite, seq_nx, seq_rt, seq_exc, seq_bad, seq_ite, out_nx, out_rt, out_exc, out_ite, nox_ok, truth_bl, dif_true, dif_false, Ck.d, List.map_cons, List.map_nil, List.length_cons, List.length_nil, List.replicate, List.cons_append, List.nil_append, List.append_nil, List.getElem?_cons_zero, List.getElem?_cons_succ, List.set_cons_zero, List.set_cons_succ, Option.map_some, decide_true, decide_false, set2, set_len, asg_nm, asg_tp, asgs_nil, asgs_cons, Option.bind_some, wipeE, b_add, b_sub, k_lt, k_le, k_gt, k_ge, k_eq, k_ne, k_isN, k_isnN, s_lst, s_tup, Bool.and_true, Bool.true_and, if_true, if_false, reduceCtorEq, Nat.reduceAdd, Nat.reduceSub, Nat.reduceLT, Nat.reduceLeDiff, Nat.reduceEqDiff, Bool.and_false, Bool.false_and, Bool.not_true, Bool.not_false, Bool.false_eq_true, okk_bind, okk_ok, okk_nox, okk_out, oks_seq, oks_of, oks_nx, oks_rt, ixc0, ixc1, ixc2, ixc3, nat_c, Int.reduceSub, Int.reduceAdd, Int.reduceEq, Int.reduceLT, Int.reduceLE, Int.reduceMul, Bool.or_false, Bool.false_or, Bool.true_or, Bool.or_true, Bool.or_self, Bool.and_self, List.isEmpty_nil, List.isEmpty_cons, bq1, bq2, bq3, bq4, cond_true, cond_false, eq_self])
        rw [evSs_cons]; simp -implicitDefEqProofs only [runD, evSs_nil, evS, evE, evB, evA, evAV, evO, evC, evI, vw, Mini.start, bind_ok, bind_exc, bind_bad, bind_ite, of_somE, of_noneE, sof_ok, sof_exc, sof_bad, sof_ite, seq_nx, seq_rt, seq_exc, seq_bad, seq_ite, out_nx, out_rt, out_exc, out_ite, nox_ok, truth_bl, dif_true, dif_false, Ck.d, List.map_cons, List.map_nil, List.length_cons, List.length_nil, List.replicate, List.cons_append, List.nil_append, List.append_nil, List.getElem?_cons_zero, List.getElem?_cons_succ, List.set_cons_zero, List.set_cons_succ, Option.map_some, decide_true, decide_false, set2, set_len, asg_nm, asg_tp, asgs_nil, asgs_cons, Option.bind_some, wipeE, b_add, b_sub, k_lt, k_le, k_gt, k_ge, k_eq, k_ne, k_isN, k_isnN, s_lst, s_tup, Bool.and_true, Bool.true_and, if_true, if_false, reduceCtorEq, Nat.reduceAdd, Nat.reduceSub, Nat.reduceLT, Nat.reduceLeDiff, Nat.reduceEqDiff, Bool.and_false, Bool.false_and, Bool.not_true, Bool.not_false, Bool.false_eq_true, okk_bind, okk_ok, okk_nox, okk_out, oks_seq, oks_of, oks_nx, oks_rt, ixc0, ixc1, ixc2, ixc3, nat_c, Int.reduceSub, Int.reduceAdd, Int.reduceEq, Int.reduceLT, Int.reduceLE, Int.reduceMul, Bool.or_false, Bool.false_or, Bool.true_or, Bool.or_true, Bool.or_self, Bool.and_self, List.isEmpty_nil, List.isEmpty_cons, bq1, bq2, bq3, bq4, cond_true, cond_false, eq_self, len_tup, l2, ixD, it, e0, is_]
        cases w with
        | str w =>
          have ow : PyData.strOk w = true := fs _ List.mem_cons_self
          have fx : x.fine = true := fs _ (by simp)
          have in1 := in2 ow o1 o2
          have in0 := in2 ow o3 o4
          have q1 := eqS ow o1
          have q5 := eqS ow o5
          (try simp -implicitDefEqProofs only [runD, evSs_nil, evS, evE, evB, evA, evAV, evO, evC, evI, vw, Mini.start, bind_ok, bind_exc, bind_bad, bind_ite, of_somE, of_noneE, sof_ok, sof_exc, sof_bad, sof_ite, seq_nx, seq_rt, seq_exc, seq_bad, seq_ite, out_nx, out_rt, out_exc, out_ite, nox_ok, truth_bl, dif_true, dif_false, Ck.d, List.map_cons, List.map_nil, List.length_cons, List.length_nil, List.replicate, List.cons_append, List.nil_append, List.append_nil, List.getElem?_cons_zero, List.getElem?_cons_succ, List.set_cons_zero, List.set_cons_succ, Option.map_some, decide_true, decide_false, set2, set_len, asg_nm, asg_tp, asgs_nil, asgs_cons, Option.bind_some, wipeE, b_add, b_sub, k_lt, k_le, k_gt, k_ge, k_eq, k_ne, k_isN, k_isnN, s_lst, s_tup, Bool.and_true, Bool.true_and, if_true, if_false, reduceCtorEq, Nat.reduceAdd, Nat.reduceSub, Nat.reduceLT, Nat.reduceLeDiff, Nat.reduceEqDiff, Bool.and_false, Bool.false_and, Bool.not_true, Bool.not_false, Bool.false_eq_true, okk_bind, okk_ok, okk_nox, okk_out, oks_seq, oks_of, oks_nx, oks_rt, ixc0, ixc1, ixc2, ixc3, nat_c, Int.reduceSub, Int.reduceAdd, Int.reduceEq, Int.reduceLT, Int.reduceLE, Int.reduceMul, Bool.or_false, Bool.false_or, Bool.true_or, Bool.or_true, Bool.or_self, Bool.and_self, List.isEmpty_nil, List.isEmpty_cons, bq1, bq2, bq3, bq4, cond_true, cond_false, eq_self])
          rw [evSs_cons]; 
          cases w1 : (w == "land") with
          | true =>
            have := eq_of_beq w1
            subst this
            cases xs with
            | nil =>
              simp -implicitDefEqProofs only [runD, evSs, evS, evE, evB, evA, evAV, evO, evC, evI, vw, Mini.start, bind_ok, bind_exc, bind_bad, bind_ite, of_somE, of_noneE, sof_ok, sof_exc, sof_bad, sof_ite, seq_nx, seq_rt, seq_exc, seq_bad, seq_ite, out_nx, out_rt, out_exc, out_ite, nox_ok, truth_bl, dif_true, dif_false, Ck.d, List.map_cons, List.map_nil, List.length_cons, List.length_nil, List.replicate, List.cons_append, List.nil_append, List.append_nil, List.getElem?_cons_zero, List.getElem?_cons_succ, List.set_cons_zero, List.set_cons_succ, Option.map_some, decide_true, decide_false, set2, set_len, asg_nm, asg_tp, asgs_nil, asgs_cons, Option.bind_some, wipeE, b_add, b_sub, k_lt, k_le, k_gt, k_ge, k_eq, k_ne, k_isN, k_isnN, s_lst, s_tup, Bool.and_true, Bool.true_and, if_true, if_false, reduceCtorEq, Nat.reduceAdd, Nat.reduceSub, Nat.reduceLT, Nat.reduceLeDiff, Nat.reduceEqDiff, Bool.and_false, Bool.false_and, Bool.not_true, Bool.not_false, Bool.false_eq_true, okk_bind, okk_ok, okk_nox, okk_out, oks_seq, oks_of, oks_nx, oks_rt, ixc0, ixc1, ixc2, ixc3, nat_c, Int.reduceSub, Int.reduceAdd, Int.reduceEq, Int.reduceLT, Int.reduceLE, Int.reduceMul, Bool.or_false, Bool.false_or, Bool.true_or, Bool.or_true, Bool.or_self, Bool.and_self, List.isEmpty_nil, List.isEmpty_cons, bq1, bq2, bq3, bq4, cond_true, cond_false, eq_self, ixD, in1, q1, beq_self_eq_true, Bool.or_false, Bool.false_or, Bool.true_or, Bool.or_true, sb_land_plan, sb_land_and, sb_land_or, sb_land_not, sb_plan_land, sb_plan_and, sb_plan_or, sb_plan_not, sb_and_land, sb_and_plan, sb_and_or, sb_and_not, sb_or_land, sb_or_plan, sb_or_and, sb_or_not, sb_not_land, sb_not_plan, sb_not_and, sb_not_or, partsD, len_tup, c_is_row hT (n := n + k + 1) fx, int_bl]
              split <;> rfl
            | cons y ys =>
              have l3 : ¬ ((ys.length + 1 + 1 + 1 : Nat) : Int) = 2 := by omega
              simp -implicitDefEqProofs only [runD, evSs, evS, evE, evB, evA, evAV, evO, evC, evI, vw, Mini.start, bind_ok, bind_exc, bind_bad, bind_ite, of_somE, of_noneE, sof_ok, sof_exc, sof_bad, sof_ite, seq_nx, seq_rt, seq_exc, seq_bad, seq_ite, out_nx, out_rt, out_exc, out_ite, nox_ok, truth_bl, dif_true, dif_false, Ck.d, List.map_cons, List.map_nil, List.length_cons, List.length_nil, List.replicate, List.cons_append, List.nil_append, List.append_nil, List.getElem?_cons_zero, List.getElem?_cons_succ, List.set_cons_zero, List.set_cons_succ, Option.map_some, decide_true, decide_false, set2, set_len, asg_nm, asg_tp, asgs_nil, asgs_cons, Option.bind_some, wipeE, b_add, b_sub, k_lt, k_le, k_gt, k_ge, k_eq, k_ne, k_isN, k_isnN, s_lst, s_tup, Bool.and_true, Bool.true_and, if_true, if_false, reduceCtorEq, Nat.reduceAdd, Nat.reduceSub, Nat.reduceLT, Nat.reduceLeDiff, Nat.reduceEqDiff, Bool.and_false, Bool.false_and, Bool.not_true, Bool.not_false, Bool.false_eq_true, okk_bind, okk_ok, okk_nox, okk_out, oks_seq, oks_of, oks_nx, oks_rt, ixc0, ixc1, ixc2, ixc3, nat_c, Int.reduceSub, Int.reduceAdd, Int.reduceEq, Int.reduceLT, Int.reduceLE, Int.reduceMul, Bool.or_false, Bool.false_or, Bool.true_or, Bool.or_true, Bool.or_self, Bool.and_self, List.isEmpty_nil, List.isEmpty_cons, bq1, bq2, bq3, bq4, cond_true, cond_false, eq_self, ixD, in1, q1, beq_self_eq_true, Bool.or_false, Bool.false_or, Bool.true_or, Bool.or_true, sb_land_plan, sb_land_and, sb_land_or, sb_land_not, sb_plan_land, sb_plan_and, sb_plan_or, sb_plan_not, sb_and_land, sb_and_plan, sb_and_or, sb_and_not, sb_or_land, sb_or_plan, sb_or_and, sb_or_not, sb_not_land, sb_not_plan, sb_not_and, sb_not_or, partsD, len_tup, l3, int_bl] <;> rfl
          | false =>
            have eb : ∀ a : Str, (a == w) = (w == a) := fun a => Bool.eq_iff_iff.mpr (by rw [beq_iff_eq, beq_iff_eq]; exact eq_comm)
            have w1' : (("land" : Str) == w) = false := by rw [eb]; exact w1
            cases w2 : (w == "plan") with
            | true =>
              have := eq_of_beq w2
              subst this
              cases xs with
              | nil =>
                simp -implicitDefEqProofs only [runD, evSs, evS, evE, evB, evA, evAV, evO, evC, evI, vw, Mini.start, bind_ok, bind_exc, bind_bad, bind_ite, of_somE, of_noneE, sof_ok, sof_exc, sof_bad, sof_ite, seq_nx, seq_rt, seq_exc, seq_bad, seq_ite, out_nx, out_rt, out_exc, out_ite, nox_ok, truth_bl, dif_true, dif_false, Ck.d, List.map_cons, List.map_nil, List.length_cons, List.length_nil, List.replicate, List.cons_append, List.nil_append, List.append_nil, List.getElem?_cons_zero, List.getElem?_cons_succ, List.set_cons_zero, List.set_cons_succ, Option.map_some, decide_true, decide_false, set2, set_len, asg_nm, asg_tp, asgs_nil, asgs_cons, Option.bind_some, wipeE, b_add, b_sub, k_lt, k_le, k_gt, k_ge, k_eq, k_ne, k_isN, k_isnN, s_lst, s_tup, Bool.and_true, Bool.true_and, if_true, if_false, reduceCtorEq, Nat.reduceAdd, Nat.reduceSub, Nat.reduceLT, Nat.reduceLeDiff, Nat.reduceEqDiff, Bool.and_false, Bool.false_and, Bool.not_true, Bool.not_false, Bool.false_eq_true, okk_bind, okk_ok, okk_nox, okk_out, oks_seq, oks_of, oks_nx, oks_rt, ixc0, ixc1, ixc2, ixc3, nat_c, Int.reduceSub, Int.reduceAdd, Int.reduceEq, Int.reduceLT, Int.reduceLE, Int.reduceMul, Bool.or_false, Bool.false_or, Bool.true_or, Bool.or_true, Bool.or_self, Bool.and_self, List.isEmpty_nil, List.isEmpty_cons, bq1, bq2, bq3, bq4, cond_true, cond_false, eq_self, ixD, in1, q1, beq_self_eq_true, Bool.or_false, Bool.false_or, Bool.true_or, Bool.or_true, sb_land_plan, sb_land_and, sb_land_or, sb_land_not, sb_plan_land, sb_plan_and, sb_plan_or, sb_plan_not, sb_and_land, sb_and_plan, sb_and_or, sb_and_not, sb_or_land, sb_or_plan, sb_or_and, sb_or_not, sb_not_land, sb_not_plan, sb_not_and, sb_not_or, partsD, len_tup, c_is_row hT (n := n + k + 1) fx, int_bl]
                split <;> rfl
              | cons y ys =>
                have l3 : ¬ ((ys.length + 1 + 1 + 1 : Nat) : Int) = 2 := by omega
                simp -implicitDefEqProofs only [runD, evSs, evS, evE, evB, evA, evAV, evO, evC, evI, vw, Mini.start, bind_ok, bind_exc, bind_bad, bind_ite, of_somE, of_noneE, sof_ok, sof_exc, sof_bad, sof_ite, seq_nx, seq_rt, seq_exc, seq_bad, seq_ite, out_nx, out_rt, out_exc, out_ite, nox_ok, truth_bl, dif_true, dif_false, Ck.d, List.map_cons, List.map_nil, List.length_cons, List.length_nil, List.replicate, List.cons_append, List.nil_append, List.append_nil, List.getElem?_cons_zero, List.getElem?_cons_succ, List.set_cons_zero, List.set_cons_succ, Option.map_some, decide_true, decide_false, set2, set_len, asg_nm, asg_tp, asgs_nil, asgs_cons, Option.bind_some, wipeE, b_add, b_sub, k_lt, k_le, k_gt, k_ge, k_eq, k_ne, k_isN, k_isnN, s_lst, s_tup, Bool.and_true, Bool.true_and, if_true, if_false, reduceCtorEq, Nat.reduceAdd, Nat.reduceSub, Nat.reduceLT, Nat.reduceLeDiff, Nat.reduceEqDiff, Bool.and_false, Bool.false_and, Bool.not_true, Bool.not_false, Bool.false_eq_true, okk_bind, okk_ok, okk_nox, okk_out, oks_seq, oks_of, oks_nx, oks_rt, ixc0, ixc1, ixc2, ixc3, nat_c, Int.reduceSub, Int.reduceAdd, Int.reduceEq, Int.reduceLT, Int.reduceLE, Int.reduceMul, Bool.or_false, Bool.false_or, Bool.true_or, Bool.or_true, Bool.or_self, Bool.and_self, List.isEmpty_nil, List.isEmpty_cons, bq1, bq2, bq3, bq4, cond_true, cond_false, eq_self, ixD, in1, q1, beq_self_eq_true, Bool.or_false, Bool.false_or, Bool.true_or, Bool.or_true, sb_land_plan, sb_land_and, sb_land_or, sb_land_not, sb_plan_land, sb_plan_and, sb_plan_or, sb_plan_not, sb_and_land, sb_and_plan, sb_and_or, sb_and_not, sb_or_land, sb_or_plan, sb_or_and, sb_or_not, sb_not_land, sb_not_plan, sb_not_and, sb_not_or, partsD, len_tup, l3, int_bl] <;> rfl
            | false =>
              have w2' : (("plan" : Str) == w) = false := by rw [eb]; exact w2
              have g : ∀ ρ : Ev, ρ[0]? = some (some (.val (.tup (.str w :: x :: xs)))) → evE (call T (n + k + 3)) (.boo .Or (.cons (.boo .And (.cons (.cmp .In (.ix (.var 0) (.k (.int 0))) (.tup (.cons (.k (.str "and")) (.cons (.k (.str "or")) .nil)))) (.cons (.chain .LtE .LtE (.k (.int 3)) (.bi .len (.cons (.var 0) .nil)) (.k (.int 6))) .nil))) (.cons (.boo .And (.cons (.cmp .Eq (.ix (.var 0) (.k (.int 0))) (.k (.str "not"))) (.cons (.cmp .Eq (.bi .len (.cons (.var 0) .nil)) (.k (.int 2))) .nil))) .nil))) ρ h = .ok (.bl (goodW w (xs.length + 1))) h := by
                intro ρ e
                have a1 : ((xs.length + 1 + 1 : Nat) : Int) ≤ 6 ↔ xs.length + 1 ≤ 5 := by omega
                have a2 : (3 : Int) ≤ ((xs.length + 1 + 1 : Nat) : Int) ↔ 2 ≤ xs.length + 1 := by omega
                have a3 : ((xs.length + 1 + 1 : Nat) : Int) = 2 ↔ xs.length + 1 = 1 := by omega
                simp only [evE, evB, evA, evAV, vw, e, bind_ok, Ck.d, ixD, s_tup, List.length_cons, ixc0, List.getElem?_cons_zero, of_somE, in0, q5, truth_bl, Option.map_some, len_tup, eb]
                unfold goodW
                revert a1 a2 a3
                generalize xs.length = m
                intro a1 a2 a3
                simp only [bind_ok, of_somE, k_le, k_eq, a1, a2, a3, Option.map_some]
                generalize decide (2 ≤ m + 1) = B1
                generalize decide (m + 1 ≤ 5) = B2
                generalize decide (m + 1 = 1) = B3
                generalize (w == "and") = A1
                generalize (w == "or") = A2
                generalize (w == "not") = A3
                cases A1 <;> cases A2 <;> cases A3 <;> cases B1 <;> cases B2 <;> cases B3 <;> rfl
              have er : partsD (k + 1) (.tup (.str w :: x :: xs)) = if goodW w (xs.length + 1) then sum0 ((x :: xs).map (partsD k)) else 0 := by
                simp only [partsD, w1, w2, Bool.false_eq_true, if_false]
              simp -implicitDefEqProofs only [runD, evSs_nil, evS, evE, evB, evA, evAV, evO, evC, evI, vw, Mini.start, bind_ok, bind_exc, bind_bad, bind_ite, of_somE, of_noneE, sof_ok, sof_exc, sof_bad, sof_ite, seq_nx, seq_rt, seq_exc, seq_bad, seq_ite, out_nx, out_rt, out_exc, out_ite, nox_ok, truth_bl, dif_true, dif_false, Ck.d, List.map_cons, List.map_nil, List.length_cons, List.length_nil, List.replicate, List.cons_append, List.nil_append, List.append_nil, List.getElem?_cons_zero, List.getElem?_cons_succ, List.set_cons_zero, List.set_cons_succ, Option.map_some, decide_true, decide_false, set2, set_len, asg_nm, asg_tp, asgs_nil, asgs_cons, Option.bind_some, wipeE, b_add, b_sub, k_lt, k_le, k_gt, k_ge, k_eq, k_ne, k_isN, k_isnN, s_lst, s_tup, Bool.and_true, Bool.true_and, if_true, if_false, reduceCtorEq, Nat.reduceAdd, Nat.reduceSub, Nat.reduceLT, Nat.reduceLeDiff, Nat.reduceEqDiff, Bool.and_false, Bool.false_and, Bool.not_true, Bool.not_false, Bool.false_eq_true, okk_bind, okk_ok, okk_nox, okk_out, oks_seq, oks_of, oks_nx, oks_rt, ixc0, ixc1, ixc2, ixc3, nat_c, Int.reduceSub, Int.reduceAdd, Int.reduceEq, Int.reduceLT, Int.reduceLE, Int.reduceMul, Bool.or_false, Bool.false_or, Bool.true_or, Bool.or_true, Bool.or_self, Bool.and_self, List.isEmpty_nil, List.isEmpty_cons, bq1, bq2, bq3, bq4, cond_true, cond_false, eq_self, ixD, in1, q1, w1', w2', w1, w2]
              rw [evSs_cons];
              cases eg : goodW w (xs.length + 1) with
              | false =>
                rw [eg] at g
                rw [er, eg]
                simp -implicitDefEqProofs only [runD, evSs_nil, evS, evE, evB, evA, evAV, evO, evC, evI, vw, Mini.start, bind_ok, bind_exc, bind_bad, bind_ite, of_somE, of_noneE, sof_ok, sof_exc, sof_bad, sof_ite, seq_nx, seq_rt, seq_exc, seq_bad, seq_ite, out_nx, out_rt, out_exc, out_ite, nox_ok, truth_bl, dif_true, dif_false, Ck.d, List.map_cons, List.map_nil, List.length_cons, List.length_nil, List.replicate, List.cons_append, List.nil_append, List.append_nil, List.getElem?_cons_zero, List.getElem?_cons_succ, List.set_cons_zero, List.set_cons_succ, Option.map_some, decide_true, decide_false, set2, set_len, asg_nm, asg_tp, asgs_nil, asgs_cons, Option.bind_some, wipeE, b_add, b_sub, k_lt, k_le, k_gt, k_ge, k_eq, k_ne, k_isN, k_isnN, s_lst, s_tup, Bool.and_true, Bool.true_and, if_true, if_false, reduceCtorEq, Nat.reduceAdd, Nat.reduceSub, Nat.reduceLT, Nat.reduceLeDiff, Nat.reduceEqDiff, Bool.and_false, Bool.false_and, Bool.not_true, Bool.not_false, Bool.false_eq_true, okk_bind, okk_ok, okk_nox, okk_out, oks_seq, oks_of, oks_nx, oks_rt, ixc0, ixc1, ixc2, ixc3, nat_c, Int.reduceSub, Int.reduceAdd, Int.reduceEq, Int.reduceLT, Int.reduceLE, Int.reduceMul, Bool.or_false, Bool.false_or, Bool.true_or, Bool.or_true, Bool.or_self, Bool.and_self, List.isEmpty_nil, List.isEmpty_cons, bq1, bq2, bq3, bq4, cond_true, cond_false, eq_self, ↓g]
                rw [evSs_cons]; simp -implicitDefEqProofs only [runD, evSs_nil, evS, evE, evB, evA, evAV, evO, evC, evI, vw, Mini.start, bind_ok, bind_exc, bind_bad, bind_ite, of_somE, of_noneE, sof_ok, sof_exc, sof_bad, sof_ite, seq_nx, seq_rt, seq_exc, seq_bad, seq_ite, out_nx, out_rt, out_exc, out_ite, nox_ok, truth_bl, dif_true, dif_false, Ck.d, List.map_cons, List.map_nil, List.length_cons, List.length_nil, List.replicate, List.cons_append, List.nil_append, List.append_nil, List.getElem?_cons_zero, List.getElem?_cons_succ, List.set_cons_zero, List.set_cons_succ, Option.map_some, decide_true, decide_false, set2, set_len, asg_nm, asg_tp, asgs_nil, asgs_cons, Option.bind_some, wipeE, b_add, b_sub, k_lt, k_le, k_gt, k_ge, k_eq, k_ne, k_isN, k_isnN, s_lst, s_tup, Bool.and_true, Bool.true_and, if_true, if_false, reduceCtorEq, Nat.reduceAdd, Nat.reduceSub, Nat.reduceLT, Nat.reduceLeDiff, Nat.reduceEqDiff, Bool.and_false, Bool.false_and, Bool.not_true, Bool.not_false, Bool.false_eq_true, okk_bind, okk_ok, okk_nox, okk_out, oks_seq, oks_of, oks_nx, oks_rt, ixc0, ixc1, ixc2, ixc3, nat_c, Int.reduceSub, Int.reduceAdd, Int.reduceEq, Int.reduceLT, Int.reduceLE, Int.reduceMul, Bool.or_false, Bool.false_or, Bool.true_or, Bool.or_true, Bool.or_self, Bool.and_self, List.isEmpty_nil, List.isEmpty_cons, bq1, bq2, bq3, bq4, cond_true, cond_false, eq_self, nin_lst 0 [0], show D.lst [D.int 0] = .lst ([(0 : Int)].map .int) from rfl, show (([0] : List Int).contains 0) = true from rfl]
                rw [evSs_cons]; simp -implicitDefEqProofs only [runD, evSs_nil, evS, evE, evB, evA, evAV, evO, evC, evI, vw, Mini.start, bind_ok, bind_exc, bind_bad, bind_ite, of_somE, of_noneE, sof_ok, sof_exc, sof_bad, sof_ite, seq_nx, seq_rt, seq_exc, seq_bad, seq_ite, out_nx, out_rt, out_exc, out_ite, nox_ok, truth_bl, dif_true, dif_false, Ck.d, List.map_cons, List.map_nil, List.length_cons, List.length_nil, List.replicate, List.cons_append, List.nil_append, List.append_nil, List.getElem?_cons_zero, List.getElem?_cons_succ, List.set_cons_zero, List.set_cons_succ, Option.map_some, decide_true, decide_false, set2, set_len, asg_nm, asg_tp, asgs_nil, asgs_cons, Option.bind_some, wipeE, b_add, b_sub, k_lt, k_le, k_gt, k_ge, k_eq, k_ne, k_isN, k_isnN, s_lst, s_tup, Bool.and_true, Bool.true_and, if_true, if_false, reduceCtorEq, Nat.reduceAdd, Nat.reduceSub, Nat.reduceLT, Nat.reduceLeDiff, Nat.reduceEqDiff, Bool.and_false, Bool.false_and, Bool.not_true, Bool.not_false, Bool.false_eq_true, okk_bind, okk_ok, okk_nox, okk_out, oks_seq, oks_of, oks_nx, oks_rt, ixc0, ixc1, ixc2, ixc3, nat_c, Int.reduceSub, Int.reduceAdd, Int.reduceEq, Int.reduceLT, Int.reduceLE, Int.reduceMul, Bool.or_false, Bool.false_or, Bool.true_or, Bool.or_true, Bool.or_self, Bool.and_self, List.isEmpty_nil, List.isEmpty_cons, bq1, bq2, bq3, bq4, cond_true, cond_false, eq_self, nin_lst 0 [0], show (([0] : List Int).contains 0) = true from rfl]
                rfl
              | true =>
                rw [eg] at g
                have gl : xs.length + 1 ≤ 5 := by
                  unfold goodW at eg
                  revert eg
                  generalize xs.length = m
                  cases (w == "and" || w == "or") <;> cases (w == "not") <;> simp <;> omega
                rw [er, eg, dif_true]
                obtain ⟨R, hR⟩ : ∃ R, R = sum0 ((x :: xs).map (partsD k)) := ⟨_, rfl⟩
                rw [← hR]
                simp -implicitDefEqProofs only [runD, evSs_nil, evS, evE, evB, evA, evAV, evO, evC, evI, vw, Mini.start, bind_ok, bind_exc, bind_bad, bind_ite, of_somE, of_noneE, sof_ok, sof_exc, sof_bad, sof_ite, seq_nx, seq_rt, seq_exc, seq_bad, seq_ite, out_nx, out_rt, out_exc, out_ite, nox_ok, truth_bl, dif_true, dif_false, Ck.d, List.map_cons, List.map_nil, List.length_cons, List.length_nil, List.replicate, List.cons_append, List.nil_append, List.append_nil, List.getElem?_cons_zero, List.getElem?_cons_succ, List.set_cons_zero, List.set_cons_succ, Option.map_some, decide_true, decide_false, set2, set_len, asg_nm, asg_tp, asgs_nil, asgs_cons, Option.bind_some, wipeE, b_add, b_sub, k_lt, k_le, k_gt, k_ge, k_eq, k_ne, k_isN, k_isnN, s_lst, s_tup, Bool.and_true, Bool.true_and, if_true, if_false, reduceCtorEq, Nat.reduceAdd, Nat.reduceSub, Nat.reduceLT, Nat.reduceLeDiff, Nat.reduceEqDiff, Bool.and_false, Bool.false_and, Bool.not_true, Bool.not_false, Bool.false_eq_true, okk_bind, okk_ok, okk_nox, okk_out, oks_seq, oks_of, oks_nx, oks_rt, ixc0, ixc1, ixc2, ixc3, nat_c, Int.reduceSub, Int.reduceAdd, Int.reduceEq, Int.reduceLT, Int.reduceLE, Int.reduceMul, Bool.or_false, Bool.false_or, Bool.true_or, Bool.or_true, Bool.or_self, Bool.and_self, List.isEmpty_nil, List.isEmpty_cons, bq1, bq2, bq3, bq4, cond_true, cond_false, eq_self, ↓g]
                rw [evSs_cons]; simp -implicitDefEqProofs only [runD, evSs_nil, evS, evE, evB, evA, evAV, evO, evC, evI, vw, Mini.start, bind_ok, bind_exc, bind_bad, bind_ite, of_somE, of_noneE, sof_ok, sof_exc, sof_bad, sof_ite, seq_nx, seq_rt, seq_exc, seq_bad, seq_ite, out_nx, out_rt, out_exc, out_ite, nox_ok, truth_bl, dif_true, dif_false, Ck.d, List.map_cons, List.map_nil, List.length_cons, List.length_nil, List.replicate, List.cons_append, List.nil_append, List.append_nil, List.getElem?_cons_zero, List.getElem?_cons_succ, List.set_cons_zero, List.set_cons_succ, Option.map_some, decide_true, decide_false, set2, set_len, asg_nm, asg_tp, asgs_nil, asgs_cons, Option.bind_some, wipeE, b_add, b_sub, k_lt, k_le, k_gt, k_ge, k_eq, k_ne, k_isN, k_isnN, s_lst, s_tup, Bool.and_true, Bool.true_and, if_true, if_false, reduceCtorEq, Nat.reduceAdd, Nat.reduceSub, Nat.reduceLT, Nat.reduceLeDiff, Nat.reduceEqDiff, Bool.and_false, Bool.false_and, Bool.not_true, Bool.not_false, Bool.false_eq_true, okk_bind, okk_ok, okk_nox, okk_out, oks_seq, oks_of, oks_nx, oks_rt, ixc0, ixc1, ixc2, ixc3, nat_c, Int.reduceSub, Int.reduceAdd, Int.reduceEq, Int.reduceLT, Int.reduceLE, Int.reduceMul, Bool.or_false, Bool.false_or, Bool.true_or, Bool.or_true, Bool.or_self, Bool.and_self, List.isEmpty_nil, List.isEmpty_cons, bq1, bq2, bq3, bq4, cond_true, cond_false, eq_self, slD, cut_tail]
                rw [loopC_map (f := fun y => some (.int (partsD k y : Nat))) (fun y hy => by
                  have := c_parts k n (h := h) (fs y (by simp only [List.mem_cons] at hy ⊢; exact .inr hy))
                  simp -implicitDefEqProofs only [runD, evSs, evS, evE, evB, evA, evAV, evO, evC, evI, vw, Mini.start, bind_ok, bind_exc, bind_bad, bind_ite, of_somE, of_noneE, sof_ok, sof_exc, sof_bad, sof_ite, seq_nx, seq_rt, seq_exc, seq_bad, seq_ite, out_nx, out_rt, out_exc, out_ite, nox_ok, truth_bl, dif_true, dif_false, Ck.d, List.map_cons, List.map_nil, List.length_cons, List.length_nil, List.replicate, List.cons_append, List.nil_append, List.append_nil, List.getElem?_cons_zero, List.getElem?_cons_succ, List.set_cons_zero, List.set_cons_succ, Option.map_some, decide_true, decide_false, set2, set_len, asg_nm, asg_tp, asgs_nil, asgs_cons, Option.bind_some, wipeE, b_add, b_sub, k_lt, k_le, k_gt, k_ge, k_eq, k_ne, k_isN, k_isnN, s_lst, s_tup, Bool.and_true, Bool.true_and, if_true, if_false, reduceCtorEq, Nat.reduceAdd, Nat.reduceSub, Nat.reduceLT, Nat.reduceLeDiff, Nat.reduceEqDiff, Bool.and_false, Bool.false_and, Bool.not_true, Bool.not_false, Bool.false_eq_true, okk_bind, okk_ok, okk_nox, okk_out, oks_seq, oks_of, oks_nx, oks_rt, ixc0, ixc1, ixc2, ixc3, nat_c, Int.reduceSub, Int.reduceAdd, Int.reduceEq, Int.reduceLT, Int.reduceLE, Int.reduceMul, Bool.or_false, Bool.false_or, Bool.true_or, Bool.or_true, Bool.or_self, Bool.and_self, List.isEmpty_nil, List.isEmpty_cons, bq1, bq2, bq3, bq4, cond_true, cond_false, eq_self, show ((k + 1 : Nat) : Int) - 1 = (k : Nat) by omega, this]), filterMap_some]
                have em : (x :: xs).map (fun y => D.int (partsD k y : Nat)) = (((x :: xs).map (partsD k)).map Int.ofNat).map .int := by
                  rw [List.map_map, List.map_map]
                  rfl
                have el : decide (((((x :: xs).map (partsD k)).map Int.ofNat).map D.int).length ≤ 1000000) = true := by
                  simp only [List.length_map, List.length_cons]
                  exact decide_eq_true (by omega)
                rw [em]
                generalize (x :: xs).map (partsD k) = L at *
                simp -implicitDefEqProofs only [runD, evSs_nil, evS, evE, evB, evA, evAV, evO, evC, evI, vw, Mini.start, bind_ok, bind_exc, bind_bad, bind_ite, of_somE, of_noneE, sof_ok, sof_exc, sof_bad, sof_ite, seq_nx, seq_rt, seq_exc, seq_bad, seq_ite, out_nx, out_rt, out_exc, out_ite, nox_ok, truth_bl, dif_true, dif_false, Ck.d, List.map_cons, List.map_nil, List.length_cons, List.length_nil, List.replicate, List.cons_append, List.nil_append, List.append_nil, List.getElem?_cons_zero, List.getElem?_cons_succ, List.set_cons_zero, List.set_cons_succ, Option.map_some, decide_true, decide_false, set2, set_len, asg_nm, asg_tp, asgs_nil, asgs_cons, Option.bind_some, wipeE, b_add, b_sub, k_lt, k_le, k_gt, k_ge, k_eq, k_ne, k_isN, k_isnN, s_lst, s_tup, Bool.and_true, Bool.true_and, if_true, if_false, reduceCtorEq, Nat.reduceAdd, Nat.reduceSub, Nat.reduceLT, Nat.reduceLeDiff, Nat.reduceEqDiff, Bool.and_false, Bool.false_and, Bool.not_true, Bool.not_false, Bool.false_eq_true, okk_bind, okk_ok, okk_nox, okk_out, oks_seq, oks_of, oks_nx, oks_rt, ixc0, ixc1, ixc2, ixc3, nat_c, Int.reduceSub, Int.reduceAdd, Int.reduceEq, Int.reduceLT, Int.reduceLE, Int.reduceMul, Bool.or_false, Bool.false_or, Bool.true_or, Bool.or_true, Bool.or_self, Bool.and_self, List.isEmpty_nil, List.isEmpty_cons, bq1, bq2, bq3, bq4, cond_true, cond_false, eq_self, el]
                rw [evSs_cons]; simp -implicitDefEqProofs only [runD, evSs_nil, evS, evE, evB, evA, evAV, evO, evC, evI, vw, Mini.start, bind_ok, bind_exc, bind_bad, bind_ite, of_somE, of_noneE, sof_ok, sof_exc, sof_bad, sof_ite, seq_nx, seq_rt, seq_exc, seq_bad, seq_ite, out_nx, out_rt, out_exc, out_ite, nox_ok, truth_bl, dif_true, dif_false, Ck.d, List.map_cons, List.map_nil, List.length_cons, List.length_nil, List.replicate, List.cons_append, List.nil_append, List.append_nil, List.getElem?_cons_zero, List.getElem?_cons_succ, List.set_cons_zero, List.set_cons_succ, Option.map_some, decide_true, decide_false, set2, set_len, asg_nm, asg_tp, asgs_nil, asgs_cons, Option.bind_some, wipeE, b_add, b_sub, k_lt, k_le, k_gt, k_ge, k_eq, k_ne, k_isN, k_isnN, s_lst, s_tup, Bool.and_true, Bool.true_and, if_true, if_false, reduceCtorEq, Nat.reduceAdd, Nat.reduceSub, Nat.reduceLT, Nat.reduceLeDiff, Nat.reduceEqDiff, Bool.and_false, Bool.false_and, Bool.not_true, Bool.not_false, Bool.false_eq_true, okk_bind, okk_ok, okk_nox, okk_out, oks_seq, oks_of, oks_nx, oks_rt, ixc0, ixc1, ixc2, ixc3, nat_c, Int.reduceSub, Int.reduceAdd, Int.reduceEq, Int.reduceLT, Int.reduceLE, Int.reduceMul, Bool.or_false, Bool.false_or, Bool.true_or, Bool.or_true, Bool.or_self, Bool.and_self, List.isEmpty_nil, List.isEmpty_cons, bq1, bq2, bq3, bq4, cond_true, cond_false, eq_self, nin_lst, contains_cast, sum_lst (ints_map _), sum_cast]
                rw [hR]
                unfold sum0
                cases L.contains 0
                · (try simp -implicitDefEqProofs only [runD, evSs_nil, evS, evE, evB, evA, evAV, evO, evC, evI, vw, Mini.start, bind_ok, bind_exc, bind_bad, bind_ite, of_somE, of_noneE, sof_ok, sof_exc, sof_bad, sof_ite, seq_nx, seq_rt, seq_exc, seq_bad, seq_ite, out_nx, out_rt, out_exc, out_ite, nox_ok, truth_bl, dif_true, dif_false, Ck.d, List.map_cons, List.map_nil, List.length_cons, List.length_nil, List.replicate, List.cons_append, List.nil_append, List.append_nil, List.getElem?_cons_zero, List.getElem?_cons_succ, List.set_cons_zero, List.set_cons_succ, Option.map_some, decide_true, decide_false, set2, set_len, asg_nm, asg_tp, asgs_nil, asgs_cons, Option.bind_some, wipeE, b_add, b_sub, k_lt, k_le, k_gt, k_ge, k_eq, k_ne, k_isN, k_isnN, s_lst, s_tup, Bool.and_true, Bool.true_and, if_true, if_false, reduceCtorEq, Nat.reduceAdd, Nat.reduceSub, Nat.reduceLT, Nat.reduceLeDiff, Nat.reduceEqDiff, Bool.and_false, Bool.false_and, Bool.not_true, Bool.not_false, Bool.false_eq_true, okk_bind, okk_ok, okk_nox, okk_out, oks_seq, oks_of, oks_nx, oks_rt, ixc0, ixc1, ixc2, ixc3, nat_c, Int.reduceSub, Int.reduceAdd, Int.reduceEq, Int.reduceLT, Int.reduceLE, Int.reduceMul, Bool.or_false, Bool.false_or, Bool.true_or, Bool.or_true, Bool.or_self, Bool.and_self, List.isEmpty_nil, List.isEmpty_cons, bq1, bq2, bq3, bq4, cond_true, cond_false, eq_self])
                  rfl
                · (try simp -implicitDefEqProofs only [runD, evSs_nil, evS, evE, evB, evA, evAV, evO, evC, evI, vw, Mini.start, bind_ok, bind_exc, bind_bad, bind_ite, of_somE, of_noneE, sof_ok, sof_exc, sof_bad, sof_ite, seq_nx, seq_rt, seq_exc, seq_bad, seq_ite, out_nx, out_rt, out_exc, out_ite, nox_ok, truth_bl, dif_true, dif_false, Ck.d, List.map_cons, List.map_nil, List.length_cons, List.length_nil, List.replicate, List.cons_append, List.nil_append, List.append_nil, List.getElem?_cons_zero, List.getElem?_cons_succ, List.set_cons_zero, List.set_cons_succ, Option.map_some, decide_true, decide_false, set2, set_len, asg_nm, asg_tp, asgs_nil, asgs_cons, Option.bind_some, wipeE, b_add, b_sub, k_lt, k_le, k_gt, k_ge, k_eq, k_ne, k_isN, k_isnN, s_lst, s_tup, Bool.and_true, Bool.true_and, if_true, if_false, reduceCtorEq, Nat.reduceAdd, Nat.reduceSub, Nat.reduceLT, Nat.reduceLeDiff, Nat.reduceEqDiff, Bool.and_false, Bool.false_and, Bool.not_true, Bool.not_false, Bool.false_eq_true, okk_bind, okk_ok, okk_nox, okk_out, oks_seq, oks_of, oks_nx, oks_rt, ixc0, ixc1, ixc2, ixc3, nat_c, Int.reduceSub, Int.reduceAdd, Int.reduceEq, Int.reduceLT, Int.reduceLE, Int.reduceMul, Bool.or_false, Bool.false_or, Bool.true_or, Bool.or_true, Bool.or_self, Bool.and_self, List.isEmpty_nil, List.isEmpty_cons, bq1, bq2, bq3, bq4, cond_true, cond_false, eq_self])
        | _ => simp -implicitDefEqProofs only [runD, evSs, evS, evE, evB, evA, evAV, evO, evC, evI, vw, Mini.start, bind_ok, bind_exc, bind_bad, bind_ite, of_somE, of_noneE, sof_ok, sof_exc, sof_bad, sof_ite, seq_nx, seq_rt, seq_exc, seq_bad, seq_ite, out_nx, out_rt, out_exc, out_ite, nox_ok, truth_bl, dif_true, dif_false, Ck.d, List.map_cons, List.map_nil, List.length_cons, List.length_nil, List.replicate, List.cons_append, List.nil_append, List.append_nil, List.getElem?_cons_zero, List.getElem?_cons_succ, List.set_cons_zero, List.set_cons_succ, Option.map_some, decide_true, decide_false, set2, set_len, asg_nm, asg_tp, asgs_nil, asgs_cons, Option.bind_some, wipeE, b_add, b_sub, k_lt, k_le, k_gt, k_ge, k_eq, k_ne, k_isN, k_isnN, s_lst, s_tup, Bool.and_true, Bool.true_and, if_true, if_false, reduceCtorEq, Nat.reduceAdd, Nat.reduceSub, Nat.reduceLT, Nat.reduceLeDiff, Nat.reduceEqDiff, Bool.and_false, Bool.false_and, Bool.not_true, Bool.not_false, Bool.false_eq_true, okk_bind, okk_ok, okk_nox, okk_out, oks_seq, oks_of, oks_nx, oks_rt, ixc0, ixc1, ixc2, ixc3, nat_c, Int.reduceSub, Int.reduceAdd, Int.reduceEq, Int.reduceLT, Int.reduceLE, Int.reduceMul, Bool.or_false, Bool.false_or, Bool.true_or, Bool.or_true, Bool.or_self, Bool.and_self, List.isEmpty_nil, List.isEmpty_cons, bq1, bq2, bq3, bq4, cond_true, cond_false, eq_self, partsD] <;> rfl
    | ref _ => cases hd
    | _ => simp -implicitDefEqProofs only [runD, evSs, evS, evE, evB, evA, evAV, evO, evC, evI, vw, Mini.start, bind_ok, bind_exc, bind_bad, bind_ite, of_somE, of_noneE, sof_ok, sof_exc, sof_bad, sof_ite, seq_nx, seq_rt, seq_exc, seq_bad, seq_ite, out_nx, out_rt, out_exc, out_ite, nox_ok, truth_bl, dif_true, dif_false, Ck.d, List.map_cons, List.map_nil, List.length_cons, List.length_nil, List.replicate, List.cons_append, List.nil_append, List.append_nil, List.getElem?_cons_zero, List.getElem?_cons_succ, List.set_cons_zero, List.set_cons_succ, Option.map_some, decide_true, decide_false, set2, set_len, asg_nm, asg_tp, asgs_nil, asgs_cons, Option.bind_some, wipeE, b_add, b_sub, k_lt, k_le, k_gt, k_ge, k_eq, k_ne, k_isN, k_isnN, s_lst, s_tup, Bool.and_true, Bool.true_and, if_true, if_false, reduceCtorEq, Nat.reduceAdd, Nat.reduceSub, Nat.reduceLT, Nat.reduceLeDiff, Nat.reduceEqDiff, Bool.and_false, Bool.false_and, Bool.not_true, Bool.not_false, Bool.false_eq_true, okk_bind, okk_ok, okk_nox, okk_out, oks_seq, oks_of, oks_nx, oks_rt, ixc0, ixc1, ixc2, ixc3, nat_c, Int.reduceSub, Int.reduceAdd, Int.reduceEq, Int.reduceLT, Int.reduceLE, Int.reduceMul, Bool.or_false, Bool.false_or, Bool.true_or, Bool.or_true, Bool.or_self, Bool.and_self, List.isEmpty_nil, List.isEmpty_cons, bq1, bq2, bq3, bq4, cond_true, cond_false, eq_self, partsD, it, e0] <;> rfl
theorem c_is_cond {n : Nat} {d : D} {h : Hd} (hd : d.fine = true) : call T (n + 9) 15 [d] h = .ok (.bl (decide (1 ≤ partsD 5 d) && decide (partsD 5 d ≤ 40))) h := by
  rw [callT hT (show T0 15 = some ir_is_condition from rfl)]
  unfold ir_is_condition
  have e : call T (n + 8) 14 [d, .int 5] h = .ok (.int (partsD 5 d : Nat)) h := c_parts hT 5 n (h := h) hd
  have a1 : (1 : Int) ≤ (partsD 5 d : Nat) ↔ 1 ≤ partsD 5 d := by omega
  have a2 : ((partsD 5 d : Nat) : Int) ≤ 40 ↔ partsD 5 d ≤ 40 := by omega
  simp -implicitDefEqProofs only [runD, evSs, evS, evE, evB, evA, evAV, evO, evC, evI, vw, Mini.start, bind_ok, bind_exc, bind_bad, bind_ite, of_somE, of_noneE, sof_ok, sof_exc, sof_bad, sof_ite, seq_nx, seq_rt, seq_exc, seq_bad, seq_ite, out_nx, out_rt, out_exc, out_ite, nox_ok, truth_bl, dif_true, dif_false, Ck.d, List.map_cons, List.map_nil, List.length_cons, List.length_nil, List.replicate, List.cons_append, List.nil_append, List.append_nil, List.getElem?_cons_zero, List.getElem?_cons_succ, List.set_cons_zero, List.set_cons_succ, Option.map_some, decide_true, decide_false, set2, set_len, asg_nm, asg_tp, asgs_nil, asgs_cons, Option.bind_some, wipeE, b_add, b_sub, k_lt, k_le, k_gt, k_ge, k_eq, k_ne, k_isN, k_isnN, s_lst, s_tup, Bool.and_true, Bool.true_and, if_true, if_false, reduceCtorEq, Nat.reduceAdd, Nat.reduceSub, Nat.reduceLT, Nat.reduceLeDiff, Nat.reduceEqDiff, Bool.and_false, Bool.false_and, Bool.not_true, Bool.not_false, Bool.false_eq_true, okk_bind, okk_ok, okk_nox, okk_out, oks_seq, oks_of, oks_nx, oks_rt, ixc0, ixc1, ixc2, ixc3, nat_c, Int.reduceSub, Int.reduceAdd, Int.reduceEq, Int.reduceLT, Int.reduceLE, Int.reduceMul, Bool.or_false, Bool.false_or, Bool.true_or, Bool.or_true, Bool.or_self, Bool.and_self, List.isEmpty_nil, List.isEmpty_cons, bq1, bq2, bq3, bq4, cond_true, cond_false, eq_self, e, a1, a2]
  by_cases b1 : 1 ≤ partsD 5 d
  · simp -implicitDefEqProofs only [runD, evSs, evS, evE, evB, evA, evAV, evO, evC, evI, vw, Mini.start, bind_ok, bind_exc, bind_bad, bind_ite, of_somE, of_noneE, sof_ok, sof_exc, sof_bad, sof_ite, seq_nx, seq_rt, seq_exc, seq_bad, seq_ite, out_nx, out_rt, out_exc, out_ite, nox_ok, truth_bl, dif_true, dif_false, Ck.d, List.map_cons, List.map_nil, List.length_cons, List.length_nil, List.replicate, List.cons_append, List.nil_append, List.append_nil, List.getElem?_cons_zero, List.getElem?_cons_succ, List.set_cons_zero, List.set_cons_succ, Option.map_some, decide_true, decide_false, set2, set_len, asg_nm, asg_tp, asgs_nil, asgs_cons, Option.bind_some, wipeE, b_add, b_sub, k_lt, k_le, k_gt, k_ge, k_eq, k_ne, k_isN, k_isnN, s_lst, s_tup, Bool.and_true, Bool.true_and, if_true, if_false, reduceCtorEq, Nat.reduceAdd, Nat.reduceSub, Nat.reduceLT, Nat.reduceLeDiff, Nat.reduceEqDiff, Bool.and_false, Bool.false_and, Bool.not_true, Bool.not_false, Bool.false_eq_true, okk_bind, okk_ok, okk_nox, okk_out, oks_seq, oks_of, oks_nx, oks_rt, ixc0, ixc1, ixc2, ixc3, nat_c, Int.reduceSub, Int.reduceAdd, Int.reduceEq, Int.reduceLT, Int.reduceLE, Int.reduceMul, Bool.or_false, Bool.false_or, Bool.true_or, Bool.or_true, Bool.or_self, Bool.and_self, List.isEmpty_nil, List.isEmpty_cons, bq1, bq2, bq3, bq4, cond_true, cond_false, eq_self, b1]
  · simp -implicitDefEqProofs only [runD, evSs, evS, evE, evB, evA, evAV, evO, evC, evI, vw, Mini.start, bind_ok, bind_exc, bind_bad, bind_ite, of_somE, of_noneE, sof_ok, sof_exc, sof_bad, sof_ite, seq_nx, seq_rt, seq_exc, seq_bad, seq_ite, out_nx, out_rt, out_exc, out_ite, nox_ok, truth_bl, dif_true, dif_false, Ck.d, List.map_cons, List.map_nil, List.length_cons, List.length_nil, List.replicate, List.cons_append, List.nil_append, List.append_nil, List.getElem?_cons_zero, List.getElem?_cons_succ, List.set_cons_zero, List.set_cons_succ, Option.map_some, decide_true, decide_false, set2, set_len, asg_nm, asg_tp, asgs_nil, asgs_cons, Option.bind_some, wipeE, b_add, b_sub, k_lt, k_le, k_gt, k_ge, k_eq, k_ne, k_isN, k_isnN, s_lst, s_tup, Bool.and_true, Bool.true_and, if_true, if_false, reduceCtorEq, Nat.reduceAdd, Nat.reduceSub, Nat.reduceLT, Nat.reduceLeDiff, Nat.reduceEqDiff, Bool.and_false, Bool.false_and, Bool.not_true, Bool.not_false, Bool.false_eq_true, okk_bind, okk_ok, okk_nox, okk_out, oks_seq, oks_of, oks_nx, oks_rt, ixc0, ixc1, ixc2, ixc3, nat_c, Int.reduceSub, Int.reduceAdd, Int.reduceEq, Int.reduceLT, Int.reduceLE, Int.reduceMul, Bool.or_false, Bool.false_or, Bool.true_or, Bool.or_true, Bool.or_self, Bool.and_self, List.isEmpty_nil, List.isEmpty_cons, bq1, bq2, bq3, bq4, cond_true, cond_false, eq_self, b1]
/-- a condition -/
structure IsC (d : D) : Prop where
  fine : d.fine = true
  p1 : 1 ≤ partsD 5 d
  p2 : partsD 5 d ≤ 40
theorem c_need_cond {n : Nat} {d : D} {h : Hd} (k : IsC d) : call T (n + 10) 16 [d] h = .ok .non h := by
  rw [callT hT (show T0 16 = some ir_need_condition from rfl)]
  unfold ir_need_condition
  simp -implicitDefEqProofs only [runD, evSs, evS, evE, evB, evA, evAV, evO, evC, evI, vw, Mini.start, bind_ok, bind_exc, bind_bad, bind_ite, of_somE, of_noneE, sof_ok, sof_exc, sof_bad, sof_ite, seq_nx, seq_rt, seq_exc, seq_bad, seq_ite, out_nx, out_rt, out_exc, out_ite, nox_ok, truth_bl, dif_true, dif_false, Ck.d, List.map_cons, List.map_nil, List.length_cons, List.length_nil, List.replicate, List.cons_append, List.nil_append, List.append_nil, List.getElem?_cons_zero, List.getElem?_cons_succ, List.set_cons_zero, List.set_cons_succ, Option.map_some, decide_true, decide_false, set2, set_len, asg_nm, asg_tp, asgs_nil, asgs_cons, Option.bind_some, wipeE, b_add, b_sub, k_lt, k_le, k_gt, k_ge, k_eq, k_ne, k_isN, k_isnN, s_lst, s_tup, Bool.and_true, Bool.true_and, if_true, if_false, reduceCtorEq, Nat.reduceAdd, Nat.reduceSub, Nat.reduceLT, Nat.reduceLeDiff, Nat.reduceEqDiff, Bool.and_false, Bool.false_and, Bool.not_true, Bool.not_false, Bool.false_eq_true, okk_bind, okk_ok, okk_nox, okk_out, oks_seq, oks_of, oks_nx, oks_rt, ixc0, ixc1, ixc2, ixc3, nat_c, Int.reduceSub, Int.reduceAdd, Int.reduceEq, Int.reduceLT, Int.reduceLE, Int.reduceMul, Bool.or_false, Bool.false_or, Bool.true_or, Bool.or_true, Bool.or_self, Bool.and_self, List.isEmpty_nil, List.isEmpty_cons, bq1, bq2, bq3, bq4, cond_true, cond_false, eq_self, c_is_cond hT k.fine, k.p1, k.p2]
end
/-! ### of whom it holds -/
def inT (l : Int) : D → Bool
  | .tup xs => inD (.int l) xs
  | _ => false
def fitK : Nat → Int → Int → D → Bool
  | 0, _, _, _ => false
  | k + 1, l, p, d => (match d with
    | .tup (.str w :: x :: xs) =>
      if w == "land" then inT l x
      else if w == "plan" then inT p x
      else if w == "not" then !fitK k l p x
      else if w == "and" then (x :: xs).all (fitK k l p) else (x :: xs).any (fitK k l p)
    | _ => false)
theorem sum0_ne {rows : List Nat} (h : sum0 rows ≠ 0) : ∀ r ∈ rows, r ≠ 0 := by
  intro r hr e
  subst e
  refine h ?_
  unfold sum0
  rw [if_pos (List.contains_iff_mem.mpr hr)]
theorem row_of {m : Int} {x : D} (h : rowD m x = true) : ∃ ns : List Int, x = .tup (ns.map .int) ∧ ∀ n ∈ ns, 0 ≤ n ∧ n ≤ m - 1 := by
  cases x with
  | tup xs =>
    simp only [rowD, Bool.and_eq_true] at h
    obtain ⟨ns, rfl, k⟩ := ints_of_nums h.2.1
    exact ⟨ns, rfl, k⟩
  | _ => cases h
/-- the kinds of condition -/
theorem parts_case {k : Nat} {d : D} (h : partsD (k + 1) d ≠ 0) :
    (∃ ns : List Int, d = .tup [.str "land", .tup (ns.map .int)]) ∨ (∃ ns : List Int, d = .tup [.str "plan", .tup (ns.map .int)]) ∨
    (∃ x, d = .tup [.str "not", x] ∧ partsD k x ≠ 0) ∨ (∃ x xs, d = .tup (.str "and" :: x :: xs) ∧ xs.length ≤ 4 ∧ ∀ y ∈ x :: xs, partsD k y ≠ 0) ∨ (∃ x xs, d = .tup (.str "or" :: x :: xs) ∧ xs.length ≤ 4 ∧ ∀ y ∈ x :: xs, partsD k y ≠ 0) := by
  unfold partsD at h
  split at h
  · rename_i w x xs
    split at h
    · rename_i e
      have := eq_of_beq e
      subst this
      split at h
      · rename_i e2
        simp only [Bool.and_eq_true, List.isEmpty_iff] at e2
        obtain ⟨rfl, e3⟩ := e2
        obtain ⟨ns, rfl, _⟩ := row_of e3
        exact .inl ⟨ns, rfl⟩
      · exact (h rfl).elim
    · split at h
      · rename_i e
        have := eq_of_beq e
        subst this
        split at h
        · rename_i e2
          simp only [Bool.and_eq_true, List.isEmpty_iff] at e2
          obtain ⟨rfl, e3⟩ := e2
          obtain ⟨ns, rfl, _⟩ := row_of e3
          exact .inr (.inl ⟨ns, rfl⟩)
        · exact (h rfl).elim
      · split at h
        · rename_i g
          have q := sum0_ne h
          have q : ∀ y ∈ x :: xs, partsD k y ≠ 0 := fun y hy => q _ (List.mem_map.mpr ⟨y, hy, rfl⟩)
          simp only [goodW, Bool.or_eq_true, Bool.and_eq_true, beq_iff_eq, decide_eq_true_eq] at g
          rcases g with ⟨e | e, _, g⟩ | ⟨e, g⟩
          · subst e
            exact .inr (.inr (.inr (.inl ⟨x, xs, rfl, by omega, q⟩)))
          · subst e
            exact .inr (.inr (.inr (.inr ⟨x, xs, rfl, by omega, q⟩)))
          · subst e
            have : xs = [] := List.eq_nil_of_length_eq_zero (by omega)
            subst this
            exact .inr (.inr (.inl ⟨x, rfl, q x (by simp)⟩))
        · exact (h rfl).elim
  · exact (h rfl).elim
/-- a for that goes on until it tells -/
theorem forL_find {g : D → Ev → Hd → SO} {f : D → Option D} {h : Hd} {P : Ev → Prop} : ∀ {xs : List D} {ρ : Ev}, (∀ x ∈ xs, ∀ ρ, P ρ → match f x with | some d => g x ρ h = .rt d h | none => ∃ ρ', g x ρ h = .nx ρ' h ∧ P ρ') → P ρ →
    match xs.findSome? f with | some d => forL g xs ρ h = .rt d h | none => ∃ ρ', forL g xs ρ h = .nx ρ' h ∧ P ρ'
  | [], ρ, _, p => ⟨ρ, rfl, p⟩
  | x :: r, ρ, hs, p => by
    have a := hs x List.mem_cons_self ρ p
    rw [List.findSome?_cons]
    cases e : f x with
    | some d =>
      rw [e] at a
      simp only [forL_cons]
      rw [a, seq_rt]
    | none =>
      rw [e] at a
      obtain ⟨ρ', e1, p1⟩ := a
      simp only [forL_cons]
      rw [e1, seq_nx]
      exact forL_find (fun y hy => hs y (List.mem_cons_of_mem _ hy)) p1
theorem Okk.eq {α : Type} {o : Out α} {d : α} {h : Hd} (p : Okk o fun a h' => a = d ∧ h' = h) : o = .ok d h := by
  obtain ⟨a, h', e, rfl, rfl⟩ := p.get
  exact e
/-- a for that goes on until it tells -/
theorem oks_find {g : D → Ev → Hd → SO} {h : Hd} (f : D → Option D) (P : Ev → Prop) {N : Ev → Hd → Prop} {R : D → Hd → Prop} : ∀ {xs : List D} {ρ : Ev},
    (∀ x ∈ xs, ∀ ρ, P ρ → Oks (g x ρ h) (fun ρ' h' => f x = none ∧ h' = h ∧ P ρ') (fun d h' => f x = some d ∧ h' = h)) → P ρ →
    (∀ d, xs.findSome? f = some d → R d h) → (xs.findSome? f = none → ∀ ρ', P ρ' → N ρ' h) → Oks (forL g xs ρ h) N R
  | [], ρ, _, p, _, hn => hn rfl ρ p
  | x :: r, ρ, hs, p, hr, hn => by
    rw [forL_cons, oks_seq]
    refine (hs x List.mem_cons_self ρ p).mono (fun ρ' h' z => ?_) (fun d h' z => ?_)
    · obtain ⟨z1, rfl, z3⟩ := z
      refine oks_find f P (fun y hy => hs y (List.mem_cons_of_mem _ hy)) z3 (fun d e => hr d ?_) (fun e => hn ?_)
      · rw [List.findSome?_cons, z1]; exact e
      · rw [List.findSome?_cons, z1]; exact e
    · obtain ⟨z1, rfl⟩ := z
      exact hr d (by rw [List.findSome?_cons, z1])
theorem k_neB (a b : Bool) : cmpD .NotEq (.bl a) (.bl b) = some (!(a == b)) := by simp [cmpD, D.okEq, D.nr, D.dp, D.eqv]
theorem k_eqB (a b : Bool) : cmpD .Eq (.bl a) (.bl b) = some (a == b) := by simp [cmpD, D.okEq, D.nr, D.dp, D.eqv]
section
variable {T : Nat → Option Df} (hT : Exts T)
include hT
theorem c_fits (l p : Int) : ∀ (k n : Nat) {d : D} {h : Hd}, d.fine = true → partsD k d ≠ 0 → call T (n + k) 17 [d, .int l, .int p] h = .ok (.bl (fitK k l p d)) h
  | 0, _, _, _, _, q => (q rfl).elim
  | k + 1, n, d, h, hd, q => by
    rw [show n + (k + 1) = (n + k) + 1 by omega, callT hT (show T0 17 = some ir_fits from rfl)]
    unfold ir_fits
    obtain ⟨o1, o2, o3, o4, o5⟩ := okS
    have many : ∀ (w : Str) (x : D) (xs : List D), d = .tup (.str w :: x :: xs) → (∀ y ∈ x :: xs, partsD k y ≠ 0) → ∀ y ∈ x :: xs, ∀ h : Hd, call T (n + k) 17 [y, .int l, .int p] h = .ok (.bl (fitK k l p y)) h := by
      intro w x xs e q' y hy h
      subst e
      exact c_fits l p k n (fines_all.mp (pair_and hd).1 y (List.mem_cons_of_mem _ hy)) (q' y hy)
    rcases parts_case q with ⟨ns, rfl⟩ | ⟨ns, rfl⟩ | ⟨x, rfl, q1⟩ | ⟨x, xs, rfl, q0, q1⟩ | ⟨x, xs, rfl, q0, q1⟩
    · (try simp -implicitDefEqProofs only [runD, evSs_nil, evS, evE, evB, evA, evAV, evO, evC, evI, vw, Mini.start, bind_ok, bind_exc, bind_bad, bind_ite, of_somE, of_noneE, sof_ok, sof_exc, sof_bad, sof_ite, seq_nx, seq_rt, seq_exc, seq_bad, seq_ite, out_nx, out_rt, out_exc, out_ite, nox_ok, truth_bl, dif_true, dif_false, Ck.d, List.map_cons, List.map_nil, List.length_cons, List.length_nil, List.replicate, List.cons_append, List.nil_append, List.append_nil, List.getElem?_cons_zero, List.getElem?_cons_succ, List.set_cons_zero, List.set_cons_succ, Option.map_some, decide_true, decide_false, set2, set_len, asg_nm, asg_tp, asgs_nil, asgs_cons, Option.bind_some, wipeE, b_add, b_sub, k_lt, k_le, k_gt, k_ge, k_eq, k_ne, k_isN, k_isnN, s_lst, s_tup, Bool.and_true, Bool.true_and, if_true, if_false, reduceCtorEq, Nat.reduceAdd, Nat.reduceSub, Nat.reduceLT, Nat.reduceLeDiff, Nat.reduceEqDiff, Bool.and_false, Bool.false_and, Bool.not_true, Bool.not_false, Bool.false_eq_true, okk_bind, okk_ok, okk_nox, okk_out, oks_seq, oks_of, oks_nx, oks_rt, ixc0, ixc1, ixc2, ixc3, nat_c, Int.reduceSub, Int.reduceAdd, Int.reduceEq, Int.reduceLT, Int.reduceLE, Int.reduceMul, Bool.or_false, Bool.false_or, Bool.true_or, Bool.or_true, Bool.or_self, Bool.and_self, List.isEmpty_nil, List.isEmpty_cons, bq1, bq2, bq3, bq4, cond_true, cond_false, eq_self])
      rw [evSs_cons]; simp -implicitDefEqProofs only [runD, evSs_nil, evS, evE, evB, evA, evAV, evO, evC, evI, vw, Mini.start, bind_ok, bind_exc, bind_bad, bind_ite, of_somE, of_noneE, sof_ok, sof_exc, sof_bad, sof_ite, seq_nx, seq_rt, seq_exc, seq_bad, seq_ite, out_nx, out_rt, out_exc, out_ite, nox_ok, truth_bl, dif_true, dif_false, Ck.d, List.map_cons, List.map_nil, List.length_cons, List.length_nil, List.replicate, List.cons_append, List.nil_append, List.append_nil, List.getElem?_cons_zero, List.getElem?_cons_succ, List.set_cons_zero, List.set_cons_succ, Option.map_some, decide_true, decide_false, set2, set_len, asg_nm, asg_tp, asgs_nil, asgs_cons, Option.bind_some, wipeE, b_add, b_sub, k_lt, k_le, k_gt, k_ge, k_eq, k_ne, k_isN, k_isnN, s_lst, s_tup, Bool.and_true, Bool.true_and, if_true, if_false, reduceCtorEq, Nat.reduceAdd, Nat.reduceSub, Nat.reduceLT, Nat.reduceLeDiff, Nat.reduceEqDiff, Bool.and_false, Bool.false_and, Bool.not_true, Bool.not_false, Bool.false_eq_true, okk_bind, okk_ok, okk_nox, okk_out, oks_seq, oks_of, oks_nx, oks_rt, ixc0, ixc1, ixc2, ixc3, nat_c, Int.reduceSub, Int.reduceAdd, Int.reduceEq, Int.reduceLT, Int.reduceLE, Int.reduceMul, Bool.or_false, Bool.false_or, Bool.true_or, Bool.or_true, Bool.or_self, Bool.and_self, List.isEmpty_nil, List.isEmpty_cons, bq1, bq2, bq3, bq4, cond_true, cond_false, eq_self, ixD, eqS o1 o1, beq_self_eq_true, Bool.or_false, Bool.false_or, Bool.true_or, Bool.or_true, sb_land_plan, sb_land_and, sb_land_or, sb_land_not, sb_plan_land, sb_plan_and, sb_plan_or, sb_plan_not, sb_and_land, sb_and_plan, sb_and_or, sb_and_not, sb_or_land, sb_or_plan, sb_or_and, sb_or_not, sb_not_land, sb_not_plan, sb_not_and, sb_not_or]
      rw [evSs_cons]; simp -implicitDefEqProofs only [runD, evSs_nil, evS, evE, evB, evA, evAV, evO, evC, evI, vw, Mini.start, bind_ok, bind_exc, bind_bad, bind_ite, of_somE, of_noneE, sof_ok, sof_exc, sof_bad, sof_ite, seq_nx, seq_rt, seq_exc, seq_bad, seq_ite, out_nx, out_rt, out_exc, out_ite, nox_ok, truth_bl, dif_true, dif_false, Ck.d, List.map_cons, List.map_nil, List.length_cons, List.length_nil, List.replicate, List.cons_append, List.nil_append, List.append_nil, List.getElem?_cons_zero, List.getElem?_cons_succ, List.set_cons_zero, List.set_cons_succ, Option.map_some, decide_true, decide_false, set2, set_len, asg_nm, asg_tp, asgs_nil, asgs_cons, Option.bind_some, wipeE, b_add, b_sub, k_lt, k_le, k_gt, k_ge, k_eq, k_ne, k_isN, k_isnN, s_lst, s_tup, Bool.and_true, Bool.true_and, if_true, if_false, reduceCtorEq, Nat.reduceAdd, Nat.reduceSub, Nat.reduceLT, Nat.reduceLeDiff, Nat.reduceEqDiff, Bool.and_false, Bool.false_and, Bool.not_true, Bool.not_false, Bool.false_eq_true, okk_bind, okk_ok, okk_nox, okk_out, oks_seq, oks_of, oks_nx, oks_rt, ixc0, ixc1, ixc2, ixc3, nat_c, Int.reduceSub, Int.reduceAdd, Int.reduceEq, Int.reduceLT, Int.reduceLE, Int.reduceMul, Bool.or_false, Bool.false_or, Bool.true_or, Bool.or_true, Bool.or_self, Bool.and_self, List.isEmpty_nil, List.isEmpty_cons, bq1, bq2, bq3, bq4, cond_true, cond_false, eq_self, ixD, in_tup, fitK, inT, in_ints, beq_self_eq_true, Bool.or_false, Bool.false_or, Bool.true_or, Bool.or_true, sb_land_plan, sb_land_and, sb_land_or, sb_land_not, sb_plan_land, sb_plan_and, sb_plan_or, sb_plan_not, sb_and_land, sb_and_plan, sb_and_or, sb_and_not, sb_or_land, sb_or_plan, sb_or_and, sb_or_not, sb_not_land, sb_not_plan, sb_not_and, sb_not_or]
    · (try simp -implicitDefEqProofs only [runD, evSs_nil, evS, evE, evB, evA, evAV, evO, evC, evI, vw, Mini.start, bind_ok, bind_exc, bind_bad, bind_ite, of_somE, of_noneE, sof_ok, sof_exc, sof_bad, sof_ite, seq_nx, seq_rt, seq_exc, seq_bad, seq_ite, out_nx, out_rt, out_exc, out_ite, nox_ok, truth_bl, dif_true, dif_false, Ck.d, List.map_cons, List.map_nil, List.length_cons, List.length_nil, List.replicate, List.cons_append, List.nil_append, List.append_nil, List.getElem?_cons_zero, List.getElem?_cons_succ, List.set_cons_zero, List.set_cons_succ, Option.map_some, decide_true, decide_false, set2, set_len, asg_nm, asg_tp, asgs_nil, asgs_cons, Option.bind_some, wipeE, b_add, b_sub, k_lt, k_le, k_gt, k_ge, k_eq, k_ne, k_isN, k_isnN, s_lst, s_tup, Bool.and_true, Bool.true_and, if_true, if_false, reduceCtorEq, Nat.reduceAdd, Nat.reduceSub, Nat.reduceLT, Nat.reduceLeDiff, Nat.reduceEqDiff, Bool.and_false, Bool.false_and, Bool.not_true, Bool.not_false, Bool.false_eq_true, okk_bind, okk_ok, okk_nox, okk_out, oks_seq, oks_of, oks_nx, oks_rt, ixc0, ixc1, ixc2, ixc3, nat_c, Int.reduceSub, Int.reduceAdd, Int.reduceEq, Int.reduceLT, Int.reduceLE, Int.reduceMul, Bool.or_false, Bool.false_or, Bool.true_or, Bool.or_true, Bool.or_self, Bool.and_self, List.isEmpty_nil, List.isEmpty_cons, bq1, bq2, bq3, bq4, cond_true, cond_false, eq_self])
      rw [evSs_cons]; simp -implicitDefEqProofs only [runD, evSs_nil, evS, evE, evB, evA, evAV, evO, evC, evI, vw, Mini.start, bind_ok, bind_exc, bind_bad, bind_ite, of_somE, of_noneE, sof_ok, sof_exc, sof_bad, sof_ite, seq_nx, seq_rt, seq_exc, seq_bad, seq_ite, out_nx, out_rt, out_exc, out_ite, nox_ok, truth_bl, dif_true, dif_false, Ck.d, List.map_cons, List.map_nil, List.length_cons, List.length_nil, List.replicate, List.cons_append, List.nil_append, List.append_nil, List.getElem?_cons_zero, List.getElem?_cons_succ, List.set_cons_zero, List.set_cons_succ, Option.map_some, decide_true, decide_false, set2, set_len, asg_nm, asg_tp, asgs_nil, asgs_cons, Option.bind_some, wipeE, b_add, b_sub, k_lt, k_le, k_gt, k_ge, k_eq, k_ne, k_isN, k_isnN, s_lst, s_tup, Bool.and_true, Bool.true_and, if_true, if_false, reduceCtorEq, Nat.reduceAdd, Nat.reduceSub, Nat.reduceLT, Nat.reduceLeDiff, Nat.reduceEqDiff, Bool.and_false, Bool.false_and, Bool.not_true, Bool.not_false, Bool.false_eq_true, okk_bind, okk_ok, okk_nox, okk_out, oks_seq, oks_of, oks_nx, oks_rt, ixc0, ixc1, ixc2, ixc3, nat_c, Int.reduceSub, Int.reduceAdd, Int.reduceEq, Int.reduceLT, Int.reduceLE, Int.reduceMul, Bool.or_false, Bool.false_or, Bool.true_or, Bool.or_true, Bool.or_self, Bool.and_self, List.isEmpty_nil, List.isEmpty_cons, bq1, bq2, bq3, bq4, cond_true, cond_false, eq_self, ixD, eqS o2 o1, beq_self_eq_true, Bool.or_false, Bool.false_or, Bool.true_or, Bool.or_true, sb_land_plan, sb_land_and, sb_land_or, sb_land_not, sb_plan_land, sb_plan_and, sb_plan_or, sb_plan_not, sb_and_land, sb_and_plan, sb_and_or, sb_and_not, sb_or_land, sb_or_plan, sb_or_and, sb_or_not, sb_not_land, sb_not_plan, sb_not_and, sb_not_or]
      rw [evSs_cons]; simp -implicitDefEqProofs only [runD, evSs_nil, evS, evE, evB, evA, evAV, evO, evC, evI, vw, Mini.start, bind_ok, bind_exc, bind_bad, bind_ite, of_somE, of_noneE, sof_ok, sof_exc, sof_bad, sof_ite, seq_nx, seq_rt, seq_exc, seq_bad, seq_ite, out_nx, out_rt, out_exc, out_ite, nox_ok, truth_bl, dif_true, dif_false, Ck.d, List.map_cons, List.map_nil, List.length_cons, List.length_nil, List.replicate, List.cons_append, List.nil_append, List.append_nil, List.getElem?_cons_zero, List.getElem?_cons_succ, List.set_cons_zero, List.set_cons_succ, Option.map_some, decide_true, decide_false, set2, set_len, asg_nm, asg_tp, asgs_nil, asgs_cons, Option.bind_some, wipeE, b_add, b_sub, k_lt, k_le, k_gt, k_ge, k_eq, k_ne, k_isN, k_isnN, s_lst, s_tup, Bool.and_true, Bool.true_and, if_true, if_false, reduceCtorEq, Nat.reduceAdd, Nat.reduceSub, Nat.reduceLT, Nat.reduceLeDiff, Nat.reduceEqDiff, Bool.and_false, Bool.false_and, Bool.not_true, Bool.not_false, Bool.false_eq_true, okk_bind, okk_ok, okk_nox, okk_out, oks_seq, oks_of, oks_nx, oks_rt, ixc0, ixc1, ixc2, ixc3, nat_c, Int.reduceSub, Int.reduceAdd, Int.reduceEq, Int.reduceLT, Int.reduceLE, Int.reduceMul, Bool.or_false, Bool.false_or, Bool.true_or, Bool.or_true, Bool.or_self, Bool.and_self, List.isEmpty_nil, List.isEmpty_cons, bq1, bq2, bq3, bq4, cond_true, cond_false, eq_self, ixD, eqS o2 o2, beq_self_eq_true, Bool.or_false, Bool.false_or, Bool.true_or, Bool.or_true, sb_land_plan, sb_land_and, sb_land_or, sb_land_not, sb_plan_land, sb_plan_and, sb_plan_or, sb_plan_not, sb_and_land, sb_and_plan, sb_and_or, sb_and_not, sb_or_land, sb_or_plan, sb_or_and, sb_or_not, sb_not_land, sb_not_plan, sb_not_and, sb_not_or]
      rw [evSs_cons]; simp -implicitDefEqProofs only [runD, evSs_nil, evS, evE, evB, evA, evAV, evO, evC, evI, vw, Mini.start, bind_ok, bind_exc, bind_bad, bind_ite, of_somE, of_noneE, sof_ok, sof_exc, sof_bad, sof_ite, seq_nx, seq_rt, seq_exc, seq_bad, seq_ite, out_nx, out_rt, out_exc, out_ite, nox_ok, truth_bl, dif_true, dif_false, Ck.d, List.map_cons, List.map_nil, List.length_cons, List.length_nil, List.replicate, List.cons_append, List.nil_append, List.append_nil, List.getElem?_cons_zero, List.getElem?_cons_succ, List.set_cons_zero, List.set_cons_succ, Option.map_some, decide_true, decide_false, set2, set_len, asg_nm, asg_tp, asgs_nil, asgs_cons, Option.bind_some, wipeE, b_add, b_sub, k_lt, k_le, k_gt, k_ge, k_eq, k_ne, k_isN, k_isnN, s_lst, s_tup, Bool.and_true, Bool.true_and, if_true, if_false, reduceCtorEq, Nat.reduceAdd, Nat.reduceSub, Nat.reduceLT, Nat.reduceLeDiff, Nat.reduceEqDiff, Bool.and_false, Bool.false_and, Bool.not_true, Bool.not_false, Bool.false_eq_true, okk_bind, okk_ok, okk_nox, okk_out, oks_seq, oks_of, oks_nx, oks_rt, ixc0, ixc1, ixc2, ixc3, nat_c, Int.reduceSub, Int.reduceAdd, Int.reduceEq, Int.reduceLT, Int.reduceLE, Int.reduceMul, Bool.or_false, Bool.false_or, Bool.true_or, Bool.or_true, Bool.or_self, Bool.and_self, List.isEmpty_nil, List.isEmpty_cons, bq1, bq2, bq3, bq4, cond_true, cond_false, eq_self, ixD, in_tup, fitK, inT, in_ints, beq_self_eq_true, Bool.or_false, Bool.false_or, Bool.true_or, Bool.or_true, sb_land_plan, sb_land_and, sb_land_or, sb_land_not, sb_plan_land, sb_plan_and, sb_plan_or, sb_plan_not, sb_and_land, sb_and_plan, sb_and_or, sb_and_not, sb_or_land, sb_or_plan, sb_or_and, sb_or_not, sb_not_land, sb_not_plan, sb_not_and, sb_not_or]
    · have := many _ _ _ rfl (by simpa using q1) x (by simp)
      (try simp -implicitDefEqProofs only [runD, evSs_nil, evS, evE, evB, evA, evAV, evO, evC, evI, vw, Mini.start, bind_ok, bind_exc, bind_bad, bind_ite, of_somE, of_noneE, sof_ok, sof_exc, sof_bad, sof_ite, seq_nx, seq_rt, seq_exc, seq_bad, seq_ite, out_nx, out_rt, out_exc, out_ite, nox_ok, truth_bl, dif_true, dif_false, Ck.d, List.map_cons, List.map_nil, List.length_cons, List.length_nil, List.replicate, List.cons_append, List.nil_append, List.append_nil, List.getElem?_cons_zero, List.getElem?_cons_succ, List.set_cons_zero, List.set_cons_succ, Option.map_some, decide_true, decide_false, set2, set_len, asg_nm, asg_tp, asgs_nil, asgs_cons, Option.bind_some, wipeE, b_add, b_sub, k_lt, k_le, k_gt, k_ge, k_eq, k_ne, k_isN, k_isnN, s_lst, s_tup, Bool.and_true, Bool.true_and, if_true, if_false, reduceCtorEq, Nat.reduceAdd, Nat.reduceSub, Nat.reduceLT, Nat.reduceLeDiff, Nat.reduceEqDiff, Bool.and_false, Bool.false_and, Bool.not_true, Bool.not_false, Bool.false_eq_true, okk_bind, okk_ok, okk_nox, okk_out, oks_seq, oks_of, oks_nx, oks_rt, ixc0, ixc1, ixc2, ixc3, nat_c, Int.reduceSub, Int.reduceAdd, Int.reduceEq, Int.reduceLT, Int.reduceLE, Int.reduceMul, Bool.or_false, Bool.false_or, Bool.true_or, Bool.or_true, Bool.or_self, Bool.and_self, List.isEmpty_nil, List.isEmpty_cons, bq1, bq2, bq3, bq4, cond_true, cond_false, eq_self])
      rw [evSs_cons]; simp -implicitDefEqProofs only [runD, evSs_nil, evS, evE, evB, evA, evAV, evO, evC, evI, vw, Mini.start, bind_ok, bind_exc, bind_bad, bind_ite, of_somE, of_noneE, sof_ok, sof_exc, sof_bad, sof_ite, seq_nx, seq_rt, seq_exc, seq_bad, seq_ite, out_nx, out_rt, out_exc, out_ite, nox_ok, truth_bl, dif_true, dif_false, Ck.d, List.map_cons, List.map_nil, List.length_cons, List.length_nil, List.replicate, List.cons_append, List.nil_append, List.append_nil, List.getElem?_cons_zero, List.getElem?_cons_succ, List.set_cons_zero, List.set_cons_succ, Option.map_some, decide_true, decide_false, set2, set_len, asg_nm, asg_tp, asgs_nil, asgs_cons, Option.bind_some, wipeE, b_add, b_sub, k_lt, k_le, k_gt, k_ge, k_eq, k_ne, k_isN, k_isnN, s_lst, s_tup, Bool.and_true, Bool.true_and, if_true, if_false, reduceCtorEq, Nat.reduceAdd, Nat.reduceSub, Nat.reduceLT, Nat.reduceLeDiff, Nat.reduceEqDiff, Bool.and_false, Bool.false_and, Bool.not_true, Bool.not_false, Bool.false_eq_true, okk_bind, okk_ok, okk_nox, okk_out, oks_seq, oks_of, oks_nx, oks_rt, ixc0, ixc1, ixc2, ixc3, nat_c, Int.reduceSub, Int.reduceAdd, Int.reduceEq, Int.reduceLT, Int.reduceLE, Int.reduceMul, Bool.or_false, Bool.false_or, Bool.true_or, Bool.or_true, Bool.or_self, Bool.and_self, List.isEmpty_nil, List.isEmpty_cons, bq1, bq2, bq3, bq4, cond_true, cond_false, eq_self, ixD, eqS o5 o1, beq_self_eq_true, Bool.or_false, Bool.false_or, Bool.true_or, Bool.or_true, sb_land_plan, sb_land_and, sb_land_or, sb_land_not, sb_plan_land, sb_plan_and, sb_plan_or, sb_plan_not, sb_and_land, sb_and_plan, sb_and_or, sb_and_not, sb_or_land, sb_or_plan, sb_or_and, sb_or_not, sb_not_land, sb_not_plan, sb_not_and, sb_not_or]
      rw [evSs_cons]; simp -implicitDefEqProofs only [runD, evSs_nil, evS, evE, evB, evA, evAV, evO, evC, evI, vw, Mini.start, bind_ok, bind_exc, bind_bad, bind_ite, of_somE, of_noneE, sof_ok, sof_exc, sof_bad, sof_ite, seq_nx, seq_rt, seq_exc, seq_bad, seq_ite, out_nx, out_rt, out_exc, out_ite, nox_ok, truth_bl, dif_true, dif_false, Ck.d, List.map_cons, List.map_nil, List.length_cons, List.length_nil, List.replicate, List.cons_append, List.nil_append, List.append_nil, List.getElem?_cons_zero, List.getElem?_cons_succ, List.set_cons_zero, List.set_cons_succ, Option.map_some, decide_true, decide_false, set2, set_len, asg_nm, asg_tp, asgs_nil, asgs_cons, Option.bind_some, wipeE, b_add, b_sub, k_lt, k_le, k_gt, k_ge, k_eq, k_ne, k_isN, k_isnN, s_lst, s_tup, Bool.and_true, Bool.true_and, if_true, if_false, reduceCtorEq, Nat.reduceAdd, Nat.reduceSub, Nat.reduceLT, Nat.reduceLeDiff, Nat.reduceEqDiff, Bool.and_false, Bool.false_and, Bool.not_true, Bool.not_false, Bool.false_eq_true, okk_bind, okk_ok, okk_nox, okk_out, oks_seq, oks_of, oks_nx, oks_rt, ixc0, ixc1, ixc2, ixc3, nat_c, Int.reduceSub, Int.reduceAdd, Int.reduceEq, Int.reduceLT, Int.reduceLE, Int.reduceMul, Bool.or_false, Bool.false_or, Bool.true_or, Bool.or_true, Bool.or_self, Bool.and_self, List.isEmpty_nil, List.isEmpty_cons, bq1, bq2, bq3, bq4, cond_true, cond_false, eq_self, ixD, eqS o5 o2, beq_self_eq_true, Bool.or_false, Bool.false_or, Bool.true_or, Bool.or_true, sb_land_plan, sb_land_and, sb_land_or, sb_land_not, sb_plan_land, sb_plan_and, sb_plan_or, sb_plan_not, sb_and_land, sb_and_plan, sb_and_or, sb_and_not, sb_or_land, sb_or_plan, sb_or_and, sb_or_not, sb_not_land, sb_not_plan, sb_not_and, sb_not_or]
      rw [evSs_cons]; simp -implicitDefEqProofs only [runD, evSs_nil, evS, evE, evB, evA, evAV, evO, evC, evI, vw, Mini.start, bind_ok, bind_exc, bind_bad, bind_ite, of_somE, of_noneE, sof_ok, sof_exc, sof_bad, sof_ite, seq_nx, seq_rt, seq_exc, seq_bad, seq_ite, out_nx, out_rt, out_exc, out_ite, nox_ok, truth_bl, dif_true, dif_false, Ck.d, List.map_cons, List.map_nil, List.length_cons, List.length_nil, List.replicate, List.cons_append, List.nil_append, List.append_nil, List.getElem?_cons_zero, List.getElem?_cons_succ, List.set_cons_zero, List.set_cons_succ, Option.map_some, decide_true, decide_false, set2, set_len, asg_nm, asg_tp, asgs_nil, asgs_cons, Option.bind_some, wipeE, b_add, b_sub, k_lt, k_le, k_gt, k_ge, k_eq, k_ne, k_isN, k_isnN, s_lst, s_tup, Bool.and_true, Bool.true_and, if_true, if_false, reduceCtorEq, Nat.reduceAdd, Nat.reduceSub, Nat.reduceLT, Nat.reduceLeDiff, Nat.reduceEqDiff, Bool.and_false, Bool.false_and, Bool.not_true, Bool.not_false, Bool.false_eq_true, okk_bind, okk_ok, okk_nox, okk_out, oks_seq, oks_of, oks_nx, oks_rt, ixc0, ixc1, ixc2, ixc3, nat_c, Int.reduceSub, Int.reduceAdd, Int.reduceEq, Int.reduceLT, Int.reduceLE, Int.reduceMul, Bool.or_false, Bool.false_or, Bool.true_or, Bool.or_true, Bool.or_self, Bool.and_self, List.isEmpty_nil, List.isEmpty_cons, bq1, bq2, bq3, bq4, cond_true, cond_false, eq_self, slD, cut_tail, loopC_cons, loopC_nil, this]
      rw [evSs_cons]; simp -implicitDefEqProofs only [runD, evSs_nil, evS, evE, evB, evA, evAV, evO, evC, evI, vw, Mini.start, bind_ok, bind_exc, bind_bad, bind_ite, of_somE, of_noneE, sof_ok, sof_exc, sof_bad, sof_ite, seq_nx, seq_rt, seq_exc, seq_bad, seq_ite, out_nx, out_rt, out_exc, out_ite, nox_ok, truth_bl, dif_true, dif_false, Ck.d, List.map_cons, List.map_nil, List.length_cons, List.length_nil, List.replicate, List.cons_append, List.nil_append, List.append_nil, List.getElem?_cons_zero, List.getElem?_cons_succ, List.set_cons_zero, List.set_cons_succ, Option.map_some, decide_true, decide_false, set2, set_len, asg_nm, asg_tp, asgs_nil, asgs_cons, Option.bind_some, wipeE, b_add, b_sub, k_lt, k_le, k_gt, k_ge, k_eq, k_ne, k_isN, k_isnN, s_lst, s_tup, Bool.and_true, Bool.true_and, if_true, if_false, reduceCtorEq, Nat.reduceAdd, Nat.reduceSub, Nat.reduceLT, Nat.reduceLeDiff, Nat.reduceEqDiff, Bool.and_false, Bool.false_and, Bool.not_true, Bool.not_false, Bool.false_eq_true, okk_bind, okk_ok, okk_nox, okk_out, oks_seq, oks_of, oks_nx, oks_rt, ixc0, ixc1, ixc2, ixc3, nat_c, Int.reduceSub, Int.reduceAdd, Int.reduceEq, Int.reduceLT, Int.reduceLE, Int.reduceMul, Bool.or_false, Bool.false_or, Bool.true_or, Bool.or_true, Bool.or_self, Bool.and_self, List.isEmpty_nil, List.isEmpty_cons, bq1, bq2, bq3, bq4, cond_true, cond_false, eq_self, ixD, eqS o5 o5, beq_self_eq_true, Bool.or_false, Bool.false_or, Bool.true_or, Bool.or_true, sb_land_plan, sb_land_and, sb_land_or, sb_land_not, sb_plan_land, sb_plan_and, sb_plan_or, sb_plan_not, sb_and_land, sb_and_plan, sb_and_or, sb_and_not, sb_or_land, sb_or_plan, sb_or_and, sb_or_not, sb_not_land, sb_not_plan, sb_not_and, sb_not_or]
      rw [evSs_cons]; simp -implicitDefEqProofs only [runD, evSs_nil, evS, evE, evB, evA, evAV, evO, evC, evI, vw, Mini.start, bind_ok, bind_exc, bind_bad, bind_ite, of_somE, of_noneE, sof_ok, sof_exc, sof_bad, sof_ite, seq_nx, seq_rt, seq_exc, seq_bad, seq_ite, out_nx, out_rt, out_exc, out_ite, nox_ok, truth_bl, dif_true, dif_false, Ck.d, List.map_cons, List.map_nil, List.length_cons, List.length_nil, List.replicate, List.cons_append, List.nil_append, List.append_nil, List.getElem?_cons_zero, List.getElem?_cons_succ, List.set_cons_zero, List.set_cons_succ, Option.map_some, decide_true, decide_false, set2, set_len, asg_nm, asg_tp, asgs_nil, asgs_cons, Option.bind_some, wipeE, b_add, b_sub, k_lt, k_le, k_gt, k_ge, k_eq, k_ne, k_isN, k_isnN, s_lst, s_tup, Bool.and_true, Bool.true_and, if_true, if_false, reduceCtorEq, Nat.reduceAdd, Nat.reduceSub, Nat.reduceLT, Nat.reduceLeDiff, Nat.reduceEqDiff, Bool.and_false, Bool.false_and, Bool.not_true, Bool.not_false, Bool.false_eq_true, okk_bind, okk_ok, okk_nox, okk_out, oks_seq, oks_of, oks_nx, oks_rt, ixc0, ixc1, ixc2, ixc3, nat_c, Int.reduceSub, Int.reduceAdd, Int.reduceEq, Int.reduceLT, Int.reduceLE, Int.reduceMul, Bool.or_false, Bool.false_or, Bool.true_or, Bool.or_true, Bool.or_self, Bool.and_self, List.isEmpty_nil, List.isEmpty_cons, bq1, bq2, bq3, bq4, cond_true, cond_false, eq_self, ixD, fitK, beq_self_eq_true, Bool.or_false, Bool.false_or, Bool.true_or, Bool.or_true, sb_land_plan, sb_land_and, sb_land_or, sb_land_not, sb_plan_land, sb_plan_and, sb_plan_or, sb_plan_not, sb_and_land, sb_and_plan, sb_and_or, sb_and_not, sb_or_land, sb_or_plan, sb_or_and, sb_or_not, sb_not_land, sb_not_plan, sb_not_and, sb_not_or]
    · have m := many _ _ _ rfl q1
      (try simp -implicitDefEqProofs only [runD, evSs_nil, evS, evE, evB, evA, evAV, evO, evC, evI, vw, Mini.start, bind_ok, bind_exc, bind_bad, bind_ite, of_somE, of_noneE, sof_ok, sof_exc, sof_bad, sof_ite, seq_nx, seq_rt, seq_exc, seq_bad, seq_ite, out_nx, out_rt, out_exc, out_ite, nox_ok, truth_bl, dif_true, dif_false, Ck.d, List.map_cons, List.map_nil, List.length_cons, List.length_nil, List.replicate, List.cons_append, List.nil_append, List.append_nil, List.getElem?_cons_zero, List.getElem?_cons_succ, List.set_cons_zero, List.set_cons_succ, Option.map_some, decide_true, decide_false, set2, set_len, asg_nm, asg_tp, asgs_nil, asgs_cons, Option.bind_some, wipeE, b_add, b_sub, k_lt, k_le, k_gt, k_ge, k_eq, k_ne, k_isN, k_isnN, s_lst, s_tup, Bool.and_true, Bool.true_and, if_true, if_false, reduceCtorEq, Nat.reduceAdd, Nat.reduceSub, Nat.reduceLT, Nat.reduceLeDiff, Nat.reduceEqDiff, Bool.and_false, Bool.false_and, Bool.not_true, Bool.not_false, Bool.false_eq_true, okk_bind, okk_ok, okk_nox, okk_out, oks_seq, oks_of, oks_nx, oks_rt, ixc0, ixc1, ixc2, ixc3, nat_c, Int.reduceSub, Int.reduceAdd, Int.reduceEq, Int.reduceLT, Int.reduceLE, Int.reduceMul, Bool.or_false, Bool.false_or, Bool.true_or, Bool.or_true, Bool.or_self, Bool.and_self, List.isEmpty_nil, List.isEmpty_cons, bq1, bq2, bq3, bq4, cond_true, cond_false, eq_self])
      rw [evSs_cons]; simp -implicitDefEqProofs only [runD, evSs_nil, evS, evE, evB, evA, evAV, evO, evC, evI, vw, Mini.start, bind_ok, bind_exc, bind_bad, bind_ite, of_somE, of_noneE, sof_ok, sof_exc, sof_bad, sof_ite, seq_nx, seq_rt, seq_exc, seq_bad, seq_ite, out_nx, out_rt, out_exc, out_ite, nox_ok, truth_bl, dif_true, dif_false, Ck.d, List.map_cons, List.map_nil, List.length_cons, List.length_nil, List.replicate, List.cons_append, List.nil_append, List.append_nil, List.getElem?_cons_zero, List.getElem?_cons_succ, List.set_cons_zero, List.set_cons_succ, Option.map_some, decide_true, decide_false, set2, set_len, asg_nm, asg_tp, asgs_nil, asgs_cons, Option.bind_some, wipeE, b_add, b_sub, k_lt, k_le, k_gt, k_ge, k_eq, k_ne, k_isN, k_isnN, s_lst, s_tup, Bool.and_true, Bool.true_and, if_true, if_false, reduceCtorEq, Nat.reduceAdd, Nat.reduceSub, Nat.reduceLT, Nat.reduceLeDiff, Nat.reduceEqDiff, Bool.and_false, Bool.false_and, Bool.not_true, Bool.not_false, Bool.false_eq_true, okk_bind, okk_ok, okk_nox, okk_out, oks_seq, oks_of, oks_nx, oks_rt, ixc0, ixc1, ixc2, ixc3, nat_c, Int.reduceSub, Int.reduceAdd, Int.reduceEq, Int.reduceLT, Int.reduceLE, Int.reduceMul, Bool.or_false, Bool.false_or, Bool.true_or, Bool.or_true, Bool.or_self, Bool.and_self, List.isEmpty_nil, List.isEmpty_cons, bq1, bq2, bq3, bq4, cond_true, cond_false, eq_self, ixD, eqS o3 o1, beq_self_eq_true, Bool.or_false, Bool.false_or, Bool.true_or, Bool.or_true, sb_land_plan, sb_land_and, sb_land_or, sb_land_not, sb_plan_land, sb_plan_and, sb_plan_or, sb_plan_not, sb_and_land, sb_and_plan, sb_and_or, sb_and_not, sb_or_land, sb_or_plan, sb_or_and, sb_or_not, sb_not_land, sb_not_plan, sb_not_and, sb_not_or]
      rw [evSs_cons]; simp -implicitDefEqProofs only [runD, evSs_nil, evS, evE, evB, evA, evAV, evO, evC, evI, vw, Mini.start, bind_ok, bind_exc, bind_bad, bind_ite, of_somE, of_noneE, sof_ok, sof_exc, sof_bad, sof_ite, seq_nx, seq_rt, seq_exc, seq_bad, seq_ite, out_nx, out_rt, out_exc, out_ite, nox_ok, truth_bl, dif_true, dif_false, Ck.d, List.map_cons, List.map_nil, List.length_cons, List.length_nil, List.replicate, List.cons_append, List.nil_append, List.append_nil, List.getElem?_cons_zero, List.getElem?_cons_succ, List.set_cons_zero, List.set_cons_succ, Option.map_some, decide_true, decide_false, set2, set_len, asg_nm, asg_tp, asgs_nil, asgs_cons, Option.bind_some, wipeE, b_add, b_sub, k_lt, k_le, k_gt, k_ge, k_eq, k_ne, k_isN, k_isnN, s_lst, s_tup, Bool.and_true, Bool.true_and, if_true, if_false, reduceCtorEq, Nat.reduceAdd, Nat.reduceSub, Nat.reduceLT, Nat.reduceLeDiff, Nat.reduceEqDiff, Bool.and_false, Bool.false_and, Bool.not_true, Bool.not_false, Bool.false_eq_true, okk_bind, okk_ok, okk_nox, okk_out, oks_seq, oks_of, oks_nx, oks_rt, ixc0, ixc1, ixc2, ixc3, nat_c, Int.reduceSub, Int.reduceAdd, Int.reduceEq, Int.reduceLT, Int.reduceLE, Int.reduceMul, Bool.or_false, Bool.false_or, Bool.true_or, Bool.or_true, Bool.or_self, Bool.and_self, List.isEmpty_nil, List.isEmpty_cons, bq1, bq2, bq3, bq4, cond_true, cond_false, eq_self, ixD, eqS o3 o2, beq_self_eq_true, Bool.or_false, Bool.false_or, Bool.true_or, Bool.or_true, sb_land_plan, sb_land_and, sb_land_or, sb_land_not, sb_plan_land, sb_plan_and, sb_plan_or, sb_plan_not, sb_and_land, sb_and_plan, sb_and_or, sb_and_not, sb_or_land, sb_or_plan, sb_or_and, sb_or_not, sb_not_land, sb_not_plan, sb_not_and, sb_not_or]
      rw [evSs_cons]; simp -implicitDefEqProofs only [runD, evSs_nil, evS, evE, evB, evA, evAV, evO, evC, evI, vw, Mini.start, bind_ok, bind_exc, bind_bad, bind_ite, of_somE, of_noneE, sof_ok, sof_exc, sof_bad, sof_ite, seq_nx, seq_rt, seq_exc, seq_bad, seq_ite, out_nx, out_rt, out_exc, out_ite, nox_ok, truth_bl, dif_true, dif_false, Ck.d, List.map_cons, List.map_nil, List.length_cons, List.length_nil, List.replicate, List.cons_append, List.nil_append, List.append_nil, List.getElem?_cons_zero, List.getElem?_cons_succ, List.set_cons_zero, List.set_cons_succ, Option.map_some, decide_true, decide_false, set2, set_len, asg_nm, asg_tp, asgs_nil, asgs_cons, Option.bind_some, wipeE, b_add, b_sub, k_lt, k_le, k_gt, k_ge, k_eq, k_ne, k_isN, k_isnN, s_lst, s_tup, Bool.and_true, Bool.true_and, if_true, if_false, reduceCtorEq, Nat.reduceAdd, Nat.reduceSub, Nat.reduceLT, Nat.reduceLeDiff, Nat.reduceEqDiff, Bool.and_false, Bool.false_and, Bool.not_true, Bool.not_false, Bool.false_eq_true, okk_bind, okk_ok, okk_nox, okk_out, oks_seq, oks_of, oks_nx, oks_rt, ixc0, ixc1, ixc2, ixc3, nat_c, Int.reduceSub, Int.reduceAdd, Int.reduceEq, Int.reduceLT, Int.reduceLE, Int.reduceMul, Bool.or_false, Bool.false_or, Bool.true_or, Bool.or_true, Bool.or_self, Bool.and_self, List.isEmpty_nil, List.isEmpty_cons, bq1, bq2, bq3, bq4, cond_true, cond_false, eq_self, slD, cut_tail]
      rw [loopC_map (f := fun y => some (.bl (fitK k l p y))) (fun y hy => by simp -implicitDefEqProofs only [runD, evSs_nil, evS, evE, evB, evA, evAV, evO, evC, evI, vw, Mini.start, bind_ok, bind_exc, bind_bad, bind_ite, of_somE, of_noneE, sof_ok, sof_exc, sof_bad, sof_ite, seq_nx, seq_rt, seq_exc, seq_bad, seq_ite, out_nx, out_rt, out_exc, out_ite, nox_ok, truth_bl, dif_true, dif_false, Ck.d, List.map_cons, List.map_nil, List.length_cons, List.length_nil, List.replicate, List.cons_append, List.nil_append, List.append_nil, List.getElem?_cons_zero, List.getElem?_cons_succ, List.set_cons_zero, List.set_cons_succ, Option.map_some, decide_true, decide_false, set2, set_len, asg_nm, asg_tp, asgs_nil, asgs_cons, Option.bind_some, wipeE, b_add, b_sub, k_lt, k_le, k_gt, k_ge, k_eq, k_ne, k_isN, k_isnN, s_lst, s_tup, Bool.and_true, Bool.true_and, if_true, if_false, reduceCtorEq, Nat.reduceAdd, Nat.reduceSub, Nat.reduceLT, Nat.reduceLeDiff, Nat.reduceEqDiff, Bool.and_false, Bool.false_and, Bool.not_true, Bool.not_false, Bool.false_eq_true, okk_bind, okk_ok, okk_nox, okk_out, oks_seq, oks_of, oks_nx, oks_rt, ixc0, ixc1, ixc2, ixc3, nat_c, Int.reduceSub, Int.reduceAdd, Int.reduceEq, Int.reduceLT, Int.reduceLE, Int.reduceMul, Bool.or_false, Bool.false_or, Bool.true_or, Bool.or_true, Bool.or_self, Bool.and_self, List.isEmpty_nil, List.isEmpty_cons, bq1, bq2, bq3, bq4, cond_true, cond_false, eq_self, m y hy]), filterMap_some]
      have em : (x :: xs).map (fun y => D.bl (fitK k l p y)) = ((x :: xs).map (fitK k l p)).map .bl := by rw [List.map_map]; rfl
      have el : decide (((x :: xs).map (fun y => D.bl (fitK k l p y))).length ≤ 1000000) = true := decide_eq_true (by simp only [List.length_map, List.length_cons]; omega)
      have er : fitK (k + 1) l p (.tup (.str "and" :: x :: xs)) = ((x :: xs).map (fitK k l p)).all id := by simp only [fitK, beq_self_eq_true, Bool.or_false, Bool.false_or, Bool.true_or, Bool.or_true, sb_land_plan, sb_land_and, sb_land_or, sb_land_not, sb_plan_land, sb_plan_and, sb_plan_or, sb_plan_not, sb_and_land, sb_and_plan, sb_and_or, sb_and_not, sb_or_land, sb_or_plan, sb_or_and, sb_or_not, sb_not_land, sb_not_plan, sb_not_and, sb_not_or, Bool.false_eq_true, if_false, if_true, List.all_map, Function.comp_def, id]
      rw [er]
      rw [em] at el ⊢
      generalize (x :: xs).map (fitK k l p) = L at *
      simp -implicitDefEqProofs only [runD, evSs_nil, evS, evE, evB, evA, evAV, evO, evC, evI, vw, Mini.start, bind_ok, bind_exc, bind_bad, bind_ite, of_somE, of_noneE, sof_ok, sof_exc, sof_bad, sof_ite, seq_nx, seq_rt, seq_exc, seq_bad, seq_ite, out_nx, out_rt, out_exc, out_ite, nox_ok, truth_bl, dif_true, dif_false, Ck.d, List.map_cons, List.map_nil, List.length_cons, List.length_nil, List.replicate, List.cons_append, List.nil_append, List.append_nil, List.getElem?_cons_zero, List.getElem?_cons_succ, List.set_cons_zero, List.set_cons_succ, Option.map_some, decide_true, decide_false, set2, set_len, asg_nm, asg_tp, asgs_nil, asgs_cons, Option.bind_some, wipeE, b_add, b_sub, k_lt, k_le, k_gt, k_ge, k_eq, k_ne, k_isN, k_isnN, s_lst, s_tup, Bool.and_true, Bool.true_and, if_true, if_false, reduceCtorEq, Nat.reduceAdd, Nat.reduceSub, Nat.reduceLT, Nat.reduceLeDiff, Nat.reduceEqDiff, Bool.and_false, Bool.false_and, Bool.not_true, Bool.not_false, Bool.false_eq_true, okk_bind, okk_ok, okk_nox, okk_out, oks_seq, oks_of, oks_nx, oks_rt, ixc0, ixc1, ixc2, ixc3, nat_c, Int.reduceSub, Int.reduceAdd, Int.reduceEq, Int.reduceLT, Int.reduceLE, Int.reduceMul, Bool.or_false, Bool.false_or, Bool.true_or, Bool.or_true, Bool.or_self, Bool.and_self, List.isEmpty_nil, List.isEmpty_cons, bq1, bq2, bq3, bq4, cond_true, cond_false, eq_self, el]
      rw [evSs_cons]; simp -implicitDefEqProofs only [runD, evSs_nil, evS, evE, evB, evA, evAV, evO, evC, evI, vw, Mini.start, bind_ok, bind_exc, bind_bad, bind_ite, of_somE, of_noneE, sof_ok, sof_exc, sof_bad, sof_ite, seq_nx, seq_rt, seq_exc, seq_bad, seq_ite, out_nx, out_rt, out_exc, out_ite, nox_ok, truth_bl, dif_true, dif_false, Ck.d, List.map_cons, List.map_nil, List.length_cons, List.length_nil, List.replicate, List.cons_append, List.nil_append, List.append_nil, List.getElem?_cons_zero, List.getElem?_cons_succ, List.set_cons_zero, List.set_cons_succ, Option.map_some, decide_true, decide_false, set2, set_len, asg_nm, asg_tp, asgs_nil, asgs_cons, Option.bind_some, wipeE, b_add, b_sub, k_lt, k_le, k_gt, k_ge, k_eq, k_ne, k_isN, k_isnN, s_lst, s_tup, Bool.and_true, Bool.true_and, if_true, if_false, reduceCtorEq, Nat.reduceAdd, Nat.reduceSub, Nat.reduceLT, Nat.reduceLeDiff, Nat.reduceEqDiff, Bool.and_false, Bool.false_and, Bool.not_true, Bool.not_false, Bool.false_eq_true, okk_bind, okk_ok, okk_nox, okk_out, oks_seq, oks_of, oks_nx, oks_rt, ixc0, ixc1, ixc2, ixc3, nat_c, Int.reduceSub, Int.reduceAdd, Int.reduceEq, Int.reduceLT, Int.reduceLE, Int.reduceMul, Bool.or_false, Bool.false_or, Bool.true_or, Bool.or_true, Bool.or_self, Bool.and_self, List.isEmpty_nil, List.isEmpty_cons, bq1, bq2, bq3, bq4, cond_true, cond_false, eq_self, ixD, eqS o3 o5, beq_self_eq_true, Bool.or_false, Bool.false_or, Bool.true_or, Bool.or_true, sb_land_plan, sb_land_and, sb_land_or, sb_land_not, sb_plan_land, sb_plan_and, sb_plan_or, sb_plan_not, sb_and_land, sb_and_plan, sb_and_or, sb_and_not, sb_or_land, sb_or_plan, sb_or_and, sb_or_not, sb_not_land, sb_not_plan, sb_not_and, sb_not_or]
      rw [evSs_cons]; simp -implicitDefEqProofs only [runD, evSs_nil, evS, evE, evB, evA, evAV, evO, evC, evI, vw, Mini.start, bind_ok, bind_exc, bind_bad, bind_ite, of_somE, of_noneE, sof_ok, sof_exc, sof_bad, sof_ite, seq_nx, seq_rt, seq_exc, seq_bad, seq_ite, out_nx, out_rt, out_exc, out_ite, nox_ok, truth_bl, dif_true, dif_false, Ck.d, List.map_cons, List.map_nil, List.length_cons, List.length_nil, List.replicate, List.cons_append, List.nil_append, List.append_nil, List.getElem?_cons_zero, List.getElem?_cons_succ, List.set_cons_zero, List.set_cons_succ, Option.map_some, decide_true, decide_false, set2, set_len, asg_nm, asg_tp, asgs_nil, asgs_cons, Option.bind_some, wipeE, b_add, b_sub, k_lt, k_le, k_gt, k_ge, k_eq, k_ne, k_isN, k_isnN, s_lst, s_tup, Bool.and_true, Bool.true_and, if_true, if_false, reduceCtorEq, Nat.reduceAdd, Nat.reduceSub, Nat.reduceLT, Nat.reduceLeDiff, Nat.reduceEqDiff, Bool.and_false, Bool.false_and, Bool.not_true, Bool.not_false, Bool.false_eq_true, okk_bind, okk_ok, okk_nox, okk_out, oks_seq, oks_of, oks_nx, oks_rt, ixc0, ixc1, ixc2, ixc3, nat_c, Int.reduceSub, Int.reduceAdd, Int.reduceEq, Int.reduceLT, Int.reduceLE, Int.reduceMul, Bool.or_false, Bool.false_or, Bool.true_or, Bool.or_true, Bool.or_self, Bool.and_self, List.isEmpty_nil, List.isEmpty_cons, bq1, bq2, bq3, bq4, cond_true, cond_false, eq_self, ixD, eqS o3 o3, beq_self_eq_true, Bool.or_false, Bool.false_or, Bool.true_or, Bool.or_true, sb_land_plan, sb_land_and, sb_land_or, sb_land_not, sb_plan_land, sb_plan_and, sb_plan_or, sb_plan_not, sb_and_land, sb_and_plan, sb_and_or, sb_and_not, sb_or_land, sb_or_plan, sb_or_and, sb_or_not, sb_not_land, sb_not_plan, sb_not_and, sb_not_or, all_lst (bls_map _)]
    · have m := many _ _ _ rfl q1
      (try simp -implicitDefEqProofs only [runD, evSs_nil, evS, evE, evB, evA, evAV, evO, evC, evI, vw, Mini.start, bind_ok, bind_exc, bind_bad, bind_ite, of_somE, of_noneE, sof_ok, sof_exc, sof_bad, sof_ite, seq_nx, seq_rt, seq_exc, seq_bad, seq_ite, out_nx, out_rt, out_exc, out_ite, nox_ok, truth_bl, dif_true, dif_false, Ck.d, List.map_cons, List.map_nil, List.length_cons, List.length_nil, List.replicate, List.cons_append, List.nil_append, List.append_nil, List.getElem?_cons_zero, List.getElem?_cons_succ, List.set_cons_zero, List.set_cons_succ, Option.map_some, decide_true, decide_false, set2, set_len, asg_nm, asg_tp, asgs_nil, asgs_cons, Option.bind_some, wipeE, b_add, b_sub, k_lt, k_le, k_gt, k_ge, k_eq, k_ne, k_isN, k_isnN, s_lst, s_tup, Bool.and_true, Bool.true_and, if_true, if_false, reduceCtorEq, Nat.reduceAdd, Nat.reduceSub, Nat.reduceLT, Nat.reduceLeDiff, Nat.reduceEqDiff, Bool.and_false, Bool.false_and, Bool.not_true, Bool.not_false, Bool.false_eq_true, okk_bind, okk_ok, okk_nox, okk_out, oks_seq, oks_of, oks_nx, oks_rt, ixc0, ixc1, ixc2, ixc3, nat_c, Int.reduceSub, Int.reduceAdd, Int.reduceEq, Int.reduceLT, Int.reduceLE, Int.reduceMul, Bool.or_false, Bool.false_or, Bool.true_or, Bool.or_true, Bool.or_self, Bool.and_self, List.isEmpty_nil, List.isEmpty_cons, bq1, bq2, bq3, bq4, cond_true, cond_false, eq_self])
      rw [evSs_cons]; simp -implicitDefEqProofs only [runD, evSs_nil, evS, evE, evB, evA, evAV, evO, evC, evI, vw, Mini.start, bind_ok, bind_exc, bind_bad, bind_ite, of_somE, of_noneE, sof_ok, sof_exc, sof_bad, sof_ite, seq_nx, seq_rt, seq_exc, seq_bad, seq_ite, out_nx, out_rt, out_exc, out_ite, nox_ok, truth_bl, dif_true, dif_false, Ck.d, List.map_cons, List.map_nil, List.length_cons, List.length_nil, List.replicate, List.cons_append, List.nil_append, List.append_nil, List.getElem?_cons_zero, List.getElem?_cons_succ, List.set_cons_zero, List.set_cons_succ, Option.map_some, decide_true, decide_false, set2, set_len, asg_nm, asg_tp, asgs_nil, asgs_cons, Option.bind_some, wipeE, b_add, b_sub, k_lt, k_le, k_gt, k_ge, k_eq, k_ne, k_isN, k_isnN, s_lst, s_tup, Bool.and_true, Bool.true_and, if_true, if_false, reduceCtorEq, Nat.reduceAdd, Nat.reduceSub, Nat.reduceLT, Nat.reduceLeDiff, Nat.reduceEqDiff, Bool.and_false, Bool.false_and, Bool.not_true, Bool.not_false, Bool.false_eq_true, okk_bind, okk_ok, okk_nox, okk_out, oks_seq, oks_of, oks_nx, oks_rt, ixc0, ixc1, ixc2, ixc3, nat_c, Int.reduceSub, Int.reduceAdd, Int.reduceEq, Int.reduceLT, Int.reduceLE, Int.reduceMul, Bool.or_false, Bool.false_or, Bool.true_or, Bool.or_true, Bool.or_self, Bool.and_self, List.isEmpty_nil, List.isEmpty_cons, bq1, bq2, bq3, bq4, cond_true, cond_false, eq_self, ixD, eqS o4 o1, beq_self_eq_true, Bool.or_false, Bool.false_or, Bool.true_or, Bool.or_true, sb_land_plan, sb_land_and, sb_land_or, sb_land_not, sb_plan_land, sb_plan_and, sb_plan_or, sb_plan_not, sb_and_land, sb_and_plan, sb_and_or, sb_and_not, sb_or_land, sb_or_plan, sb_or_and, sb_or_not, sb_not_land, sb_not_plan, sb_not_and, sb_not_or]
      rw [evSs_cons]; simp -implicitDefEqProofs only [runD, evSs_nil, evS, evE, evB, evA, evAV, evO, evC, evI, vw, Mini.start, bind_ok, bind_exc, bind_bad, bind_ite, of_somE, of_noneE, sof_ok, sof_exc, sof_bad, sof_ite, seq_nx, seq_rt, seq_exc, seq_bad, seq_ite, out_nx, out_rt, out_exc, out_ite, nox_ok, truth_bl, dif_true, dif_false, Ck.d, List.map_cons, List.map_nil, List.length_cons, List.length_nil, List.replicate, List.cons_append, List.nil_append, List.append_nil, List.getElem?_cons_zero, List.getElem?_cons_succ, List.set_cons_zero, List.set_cons_succ, Option.map_some, decide_true, decide_false, set2, set_len, asg_nm, asg_tp, asgs_nil, asgs_cons, Option.bind_some, wipeE, b_add, b_sub, k_lt, k_le, k_gt, k_ge, k_eq, k_ne, k_isN, k_isnN, s_lst, s_tup, Bool.and_true, Bool.true_and, if_true, if_false, reduceCtorEq, Nat.reduceAdd, Nat.reduceSub, Nat.reduceLT, Nat.reduceLeDiff, Nat.reduceEqDiff, Bool.and_false, Bool.false_and, Bool.not_true, Bool.not_false, Bool.false_eq_true, okk_bind, okk_ok, okk_nox, okk_out, oks_seq, oks_of, oks_nx, oks_rt, ixc0, ixc1, ixc2, ixc3, nat_c, Int.reduceSub, Int.reduceAdd, Int.reduceEq, Int.reduceLT, Int.reduceLE, Int.reduceMul, Bool.or_false, Bool.false_or, Bool.true_or, Bool.or_true, Bool.or_self, Bool.and_self, List.isEmpty_nil, List.isEmpty_cons, bq1, bq2, bq3, bq4, cond_true, cond_false, eq_self, ixD, eqS o4 o2, beq_self_eq_true, Bool.or_false, Bool.false_or, Bool.true_or, Bool.or_true, sb_land_plan, sb_land_and, sb_land_or, sb_land_not, sb_plan_land, sb_plan_and, sb_plan_or, sb_plan_not, sb_and_land, sb_and_plan, sb_and_or, sb_and_not, sb_or_land, sb_or_plan, sb_or_and, sb_or_not, sb_not_land, sb_not_plan, sb_not_and, sb_not_or]
      rw [evSs_cons]; simp -implicitDefEqProofs only [runD, evSs_nil, evS, evE, evB, evA, evAV, evO, evC, evI, vw, Mini.start, bind_ok, bind_exc, bind_bad, bind_ite, of_somE, of_noneE, sof_ok, sof_exc, sof_bad, sof_ite, seq_nx, seq_rt, seq_exc, seq_bad, seq_ite, out_nx, out_rt, out_exc, out_ite, nox_ok, truth_bl, dif_true, dif_false, Ck.d, List.map_cons, List.map_nil, List.length_cons, List.length_nil, List.replicate, List.cons_append, List.nil_append, List.append_nil, List.getElem?_cons_zero, List.getElem?_cons_succ, List.set_cons_zero, List.set_cons_succ, Option.map_some, decide_true, decide_false, set2, set_len, asg_nm, asg_tp, asgs_nil, asgs_cons, Option.bind_some, wipeE, b_add, b_sub, k_lt, k_le, k_gt, k_ge, k_eq, k_ne, k_isN, k_isnN, s_lst, s_tup, Bool.and_true, Bool.true_and, if_true, if_false, reduceCtorEq, Nat.reduceAdd, Nat.reduceSub, Nat.reduceLT, Nat.reduceLeDiff, Nat.reduceEqDiff, Bool.and_false, Bool.false_and, Bool.not_true, Bool.not_false, Bool.false_eq_true, okk_bind, okk_ok, okk_nox, okk_out, oks_seq, oks_of, oks_nx, oks_rt, ixc0, ixc1, ixc2, ixc3, nat_c, Int.reduceSub, Int.reduceAdd, Int.reduceEq, Int.reduceLT, Int.reduceLE, Int.reduceMul, Bool.or_false, Bool.false_or, Bool.true_or, Bool.or_true, Bool.or_self, Bool.and_self, List.isEmpty_nil, List.isEmpty_cons, bq1, bq2, bq3, bq4, cond_true, cond_false, eq_self, slD, cut_tail]
      rw [loopC_map (f := fun y => some (.bl (fitK k l p y))) (fun y hy => by simp -implicitDefEqProofs only [runD, evSs_nil, evS, evE, evB, evA, evAV, evO, evC, evI, vw, Mini.start, bind_ok, bind_exc, bind_bad, bind_ite, of_somE, of_noneE, sof_ok, sof_exc, sof_bad, sof_ite, seq_nx, seq_rt, seq_exc, seq_bad, seq_ite, out_nx, out_rt, out_exc, out_ite, nox_ok, truth_bl, dif_true, dif_false, Ck.d, List.map_cons, List.map_nil, List.length_cons, List.length_nil, List.replicate, List.cons_append, List.nil_append, List.append_nil, List.getElem?_cons_zero, List.getElem?_cons_succ, List.set_cons_zero, List.set_cons_succ, Option.map_some, decide_true, decide_false, set2, set_len, asg_nm, asg_tp, asgs_nil, asgs_cons, Option.bind_some, wipeE, b_add, b_sub, k_lt, k_le, k_gt, k_ge, k_eq, k_ne, k_isN, k_isnN, s_lst, s_tup, Bool.and_true, Bool.true_and, if_true, if_false, reduceCtorEq, Nat.reduceAdd, Nat.reduceSub, Nat.reduceLT, Nat.reduceLeDiff, Nat.reduceEqDiff, Bool.and_false, Bool.false_and, Bool.not_true, Bool.not_false, Bool.false_eq_true, okk_bind, okk_ok, okk_nox, okk_out, oks_seq, oks_of, oks_nx, oks_rt, ixc0, ixc1, ixc2, ixc3, nat_c, Int.reduceSub, Int.reduceAdd, Int.reduceEq, Int.reduceLT, Int.reduceLE, Int.reduceMul, Bool.or_false, Bool.false_or, Bool.true_or, Bool.or_true, Bool.or_self, Bool.and_self, List.isEmpty_nil, List.isEmpty_cons, bq1, bq2, bq3, bq4, cond_true, cond_false, eq_self, m y hy]), filterMap_some]
      have em : (x :: xs).map (fun y => D.bl (fitK k l p y)) = ((x :: xs).map (fitK k l p)).map .bl := by rw [List.map_map]; rfl
      have el : decide (((x :: xs).map (fun y => D.bl (fitK k l p y))).length ≤ 1000000) = true := decide_eq_true (by simp only [List.length_map, List.length_cons]; omega)
      have er : fitK (k + 1) l p (.tup (.str "or" :: x :: xs)) = ((x :: xs).map (fitK k l p)).any id := by simp only [fitK, beq_self_eq_true, Bool.or_false, Bool.false_or, Bool.true_or, Bool.or_true, sb_land_plan, sb_land_and, sb_land_or, sb_land_not, sb_plan_land, sb_plan_and, sb_plan_or, sb_plan_not, sb_and_land, sb_and_plan, sb_and_or, sb_and_not, sb_or_land, sb_or_plan, sb_or_and, sb_or_not, sb_not_land, sb_not_plan, sb_not_and, sb_not_or, Bool.false_eq_true, if_false, if_true, List.any_map, Function.comp_def, id]
      rw [er]
      rw [em] at el ⊢
      generalize (x :: xs).map (fitK k l p) = L at *
      simp -implicitDefEqProofs only [runD, evSs_nil, evS, evE, evB, evA, evAV, evO, evC, evI, vw, Mini.start, bind_ok, bind_exc, bind_bad, bind_ite, of_somE, of_noneE, sof_ok, sof_exc, sof_bad, sof_ite, seq_nx, seq_rt, seq_exc, seq_bad, seq_ite, out_nx, out_rt, out_exc, out_ite, nox_ok, truth_bl, dif_true, dif_false, Ck.d, List.map_cons, List.map_nil, List.length_cons, List.length_nil, List.replicate, List.cons_append, List.nil_append, List.append_nil, List.getElem?_cons_zero, List.getElem?_cons_succ, List.set_cons_zero, List.set_cons_succ, Option.map_some, decide_true, decide_false, set2, set_len, asg_nm, asg_tp, asgs_nil, asgs_cons, Option.bind_some, wipeE, b_add, b_sub, k_lt, k_le, k_gt, k_ge, k_eq, k_ne, k_isN, k_isnN, s_lst, s_tup, Bool.and_true, Bool.true_and, if_true, if_false, reduceCtorEq, Nat.reduceAdd, Nat.reduceSub, Nat.reduceLT, Nat.reduceLeDiff, Nat.reduceEqDiff, Bool.and_false, Bool.false_and, Bool.not_true, Bool.not_false, Bool.false_eq_true, okk_bind, okk_ok, okk_nox, okk_out, oks_seq, oks_of, oks_nx, oks_rt, ixc0, ixc1, ixc2, ixc3, nat_c, Int.reduceSub, Int.reduceAdd, Int.reduceEq, Int.reduceLT, Int.reduceLE, Int.reduceMul, Bool.or_false, Bool.false_or, Bool.true_or, Bool.or_true, Bool.or_self, Bool.and_self, List.isEmpty_nil, List.isEmpty_cons, bq1, bq2, bq3, bq4, cond_true, cond_false, eq_self, el]
      rw [evSs_cons]; simp -implicitDefEqProofs only [runD, evSs_nil, evS, evE, evB, evA, evAV, evO, evC, evI, vw, Mini.start, bind_ok, bind_exc, bind_bad, bind_ite, of_somE, of_noneE, sof_ok, sof_exc, sof_bad, sof_ite, seq_nx, seq_rt, seq_exc, seq_bad, seq_ite, out_nx, out_rt, out_exc, out_ite, nox_ok, truth_bl, dif_true, dif_false, Ck.d, List.map_cons, List.map_nil, List.length_cons, List.length_nil, List.replicate, List.cons_append, List.nil_append, List.append_nil, List.getElem?_cons_zero, List.getElem?_cons_succ, List.set_cons_zero, List.set_cons_succ, Option.map_some, decide_true, decide_false, set2, set_len, asg_nm, asg_tp, asgs_nil, asgs_cons, Option.bind_some, wipeE, b_add, b_sub, k_lt, k_le, k_gt, k_ge, k_eq, k_ne, k_isN, k_isnN, s_lst, s_tup, Bool.and_true, Bool.true_and, if_true, if_false, reduceCtorEq, Nat.reduceAdd, Nat.reduceSub, Nat.reduceLT, Nat.reduceLeDiff, Nat.reduceEqDiff, Bool.and_false, Bool.false_and, Bool.not_true, Bool.not_false, Bool.false_eq_true, okk_bind, okk_ok, okk_nox, okk_out, oks_seq, oks_of, oks_nx, oks_rt, ixc0, ixc1, ixc2, ixc3, nat_c, Int.reduceSub, Int.reduceAdd, Int.reduceEq, Int.reduceLT, Int.reduceLE, Int.reduceMul, Bool.or_false, Bool.false_or, Bool.true_or, Bool.or_true, Bool.or_self, Bool.and_self, List.isEmpty_nil, List.isEmpty_cons, bq1, bq2, bq3, bq4, cond_true, cond_false, eq_self, ixD, eqS o4 o5, beq_self_eq_true, Bool.or_false, Bool.false_or, Bool.true_or, Bool.or_true, sb_land_plan, sb_land_and, sb_land_or, sb_land_not, sb_plan_land, sb_plan_and, sb_plan_or, sb_plan_not, sb_and_land, sb_and_plan, sb_and_or, sb_and_not, sb_or_land, sb_or_plan, sb_or_and, sb_or_not, sb_not_land, sb_not_plan, sb_not_and, sb_not_or]
      rw [evSs_cons]; simp -implicitDefEqProofs only [runD, evSs_nil, evS, evE, evB, evA, evAV, evO, evC, evI, vw, Mini.start, bind_ok, bind_exc, bind_bad, bind_ite, of_somE, of_noneE, sof_ok, sof_exc, sof_bad, sof_ite, seq_nx, seq_rt, seq_exc, seq_bad, seq_ite, out_nx, out_rt, out_exc, out_ite, nox_ok, truth_bl, dif_true, dif_false, Ck.d, List.map_cons, List.map_nil, List.length_cons, List.length_nil, List.replicate, List.cons_append, List.nil_append, List.append_nil, List.getElem?_cons_zero, List.getElem?_cons_succ, List.set_cons_zero, List.set_cons_succ, Option.map_some, decide_true, decide_false, set2, set_len, asg_nm, asg_tp, asgs_nil, asgs_cons, Option.bind_some, wipeE, b_add, b_sub, k_lt, k_le, k_gt, k_ge, k_eq, k_ne, k_isN, k_isnN, s_lst, s_tup, Bool.and_true, Bool.true_and, if_true, if_false, reduceCtorEq, Nat.reduceAdd, Nat.reduceSub, Nat.reduceLT, Nat.reduceLeDiff, Nat.reduceEqDiff, Bool.and_false, Bool.false_and, Bool.not_true, Bool.not_false, Bool.false_eq_true, okk_bind, okk_ok, okk_nox, okk_out, oks_seq, oks_of, oks_nx, oks_rt, ixc0, ixc1, ixc2, ixc3, nat_c, Int.reduceSub, Int.reduceAdd, Int.reduceEq, Int.reduceLT, Int.reduceLE, Int.reduceMul, Bool.or_false, Bool.false_or, Bool.true_or, Bool.or_true, Bool.or_self, Bool.and_self, List.isEmpty_nil, List.isEmpty_cons, bq1, bq2, bq3, bq4, cond_true, cond_false, eq_self, ixD, eqS o4 o3, beq_self_eq_true, Bool.or_false, Bool.false_or, Bool.true_or, Bool.or_true, sb_land_plan, sb_land_and, sb_land_or, sb_land_not, sb_plan_land, sb_plan_and, sb_plan_or, sb_plan_not, sb_and_land, sb_and_plan, sb_and_or, sb_and_not, sb_or_land, sb_or_plan, sb_or_and, sb_or_not, sb_not_land, sb_not_plan, sb_not_and, sb_not_or, any_lst (bls_map _)]
end
end Mini

/-! D6: kinds; the law's own walk over conditions; conditions drawn. -/
namespace Mini
open PySem PySem.Spec L2
abbrev fitD (l p : Int) (d : D) : Bool := fitK 5 l p d
/-- all lands and plans -/
def K24 : List (Int × Int) := (List.range 24).map fun k => ((k / 4 : Nat), (k % 4 : Nat))
def kd (q : Int × Int) : D := .tup [.int q.1, .int q.2]
theorem any_ne (L : List Bool) : (L.all id) = !(L.any (! ·)) := by
  induction L with
  | nil => rfl
  | cons b r ih => simp only [List.all_cons, List.any_cons, ih]; cases b <;> simp
theorem find_bl {f : D → Bool} {c : D} (xs : List D) : xs.findSome? (fun y => if f y = true then some c else none) = if xs.any f = true then some c else none := by
  induction xs with
  | nil => rfl
  | cons x r ih =>
    rw [List.findSome?_cons, List.any_cons]
    cases f x with
    | true => simp
    | false => simpa using ih
section
variable {T : Nat → Option Df} (hT : Exts T)
include hT
theorem c_law_holds (l p : Int) : ∀ (k n : Nat) {d : D} {h : Hd}, d.fine = true → partsD k d ≠ 0 → call T (n + k) 23 [d, .int l, .int p] h = .ok (.bl (fitK k l p d)) h
  | 0, _, _, _, _, q => (q rfl).elim
  | k + 1, n, d, h, hd, q => by
    rw [show n + (k + 1) = (n + k) + 1 by omega, callT hT (show T0 23 = some ir_law_holds from rfl)]
    unfold ir_law_holds
    obtain ⟨o1, o2, o3, o4, o5⟩ := okS
    have many : ∀ (w : Str) (x : D) (xs : List D), d = .tup (.str w :: x :: xs) → (∀ y ∈ x :: xs, partsD k y ≠ 0) → ∀ y ∈ x :: xs, ∀ h : Hd, call T (n + k) 23 [y, .int l, .int p] h = .ok (.bl (fitK k l p y)) h := by
      intro w x xs e q' y hy h
      subst e
      exact c_law_holds l p k n (fines_all.mp (pair_and hd).1 y (List.mem_cons_of_mem _ hy)) (q' y hy)
    rcases parts_case q with ⟨ns, rfl⟩ | ⟨ns, rfl⟩ | ⟨x, rfl, q1⟩ | ⟨x, xs, rfl, q0, q1⟩ | ⟨x, xs, rfl, q0, q1⟩
    · (try simp -implicitDefEqProofs only [runD, evSs_nil, evS, evE, evB, evA, evAV, evO, evC, evI, vw, Mini.start, bind_ok, bind_exc, bind_bad, bind_ite, of_somE, of_noneE, sof_ok, sof_exc, sof_bad, sof_ite, seq_nx, seq_rt, seq_exc, seq_bad, seq_ite, out_nx, out_rt, out_exc, out_ite, nox_ok, truth_bl, dif_true, dif_false, Ck.d, List.map_cons, List.map_nil, List.length_cons, List.length_nil, List.replicate, List.cons_append, List.nil_append, List.append_nil, List.getElem?_cons_zero, List.getElem?_cons_succ, List.set_cons_zero, List.set_cons_succ, Option.map_some, decide_true, decide_false, set2, set_len, asg_nm, asg_tp, asgs_nil, asgs_cons, Option.bind_some, wipeE, b_add, b_sub, k_lt, k_le, k_gt, k_ge, k_eq, k_ne, k_isN, k_isnN, s_lst, s_tup, Bool.and_true, Bool.true_and, if_true, if_false, reduceCtorEq, Nat.reduceAdd, Nat.reduceSub, Nat.reduceLT, Nat.reduceLeDiff, Nat.reduceEqDiff, Bool.and_false, Bool.false_and, Bool.not_true, Bool.not_false, Bool.false_eq_true, okk_bind, okk_ok, okk_nox, okk_out, oks_seq, oks_of, oks_nx, oks_rt, ixc0, ixc1, ixc2, ixc3, nat_c, Int.reduceSub, Int.reduceAdd, Int.reduceEq, Int.reduceLT, Int.reduceLE, Int.reduceMul, Bool.or_false, Bool.false_or, Bool.true_or, Bool.or_true, Bool.or_self, Bool.and_self, List.isEmpty_nil, List.isEmpty_cons, bq1, bq2, bq3, bq4, cond_true, cond_false, eq_self])
      rw [evSs_cons]; simp -implicitDefEqProofs only [runD, evSs_nil, evS, evE, evB, evA, evAV, evO, evC, evI, vw, Mini.start, bind_ok, bind_exc, bind_bad, bind_ite, of_somE, of_noneE, sof_ok, sof_exc, sof_bad, sof_ite, seq_nx, seq_rt, seq_exc, seq_bad, seq_ite, out_nx, out_rt, out_exc, out_ite, nox_ok, truth_bl, dif_true, dif_false, Ck.d, List.map_cons, List.map_nil, List.length_cons, List.length_nil, List.replicate, List.cons_append, List.nil_append, List.append_nil, List.getElem?_cons_zero, List.getElem?_cons_succ, List.set_cons_zero, List.set_cons_succ, Option.map_some, decide_true, decide_false, set2, set_len, asg_nm, asg_tp, asgs_nil, asgs_cons, Option.bind_some, wipeE, b_add, b_sub, k_lt, k_le, k_gt, k_ge, k_eq, k_ne, k_isN, k_isnN, s_lst, s_tup, Bool.and_true, Bool.true_and, if_true, if_false, reduceCtorEq, Nat.reduceAdd, Nat.reduceSub, Nat.reduceLT, Nat.reduceLeDiff, Nat.reduceEqDiff, Bool.and_false, Bool.false_and, Bool.not_true, Bool.not_false, Bool.false_eq_true, okk_bind, okk_ok, okk_nox, okk_out, oks_seq, oks_of, oks_nx, oks_rt, ixc0, ixc1, ixc2, ixc3, nat_c, Int.reduceSub, Int.reduceAdd, Int.reduceEq, Int.reduceLT, Int.reduceLE, Int.reduceMul, Bool.or_false, Bool.false_or, Bool.true_or, Bool.or_true, Bool.or_self, Bool.and_self, List.isEmpty_nil, List.isEmpty_cons, bq1, bq2, bq3, bq4, cond_true, cond_false, eq_self, ixD, in2 o1 o1 o2, beq_self_eq_true, Bool.or_false, Bool.false_or, Bool.true_or, Bool.or_true, sb_land_plan, sb_land_and, sb_land_or, sb_land_not, sb_plan_land, sb_plan_and, sb_plan_or, sb_plan_not, sb_and_land, sb_and_plan, sb_and_or, sb_and_not, sb_or_land, sb_or_plan, sb_or_and, sb_or_not, sb_not_land, sb_not_plan, sb_not_and, sb_not_or]
      rw [evSs_cons]; simp -implicitDefEqProofs only [runD, evSs_nil, evS, evE, evB, evA, evAV, evO, evC, evI, vw, Mini.start, bind_ok, bind_exc, bind_bad, bind_ite, of_somE, of_noneE, sof_ok, sof_exc, sof_bad, sof_ite, seq_nx, seq_rt, seq_exc, seq_bad, seq_ite, out_nx, out_rt, out_exc, out_ite, nox_ok, truth_bl, dif_true, dif_false, Ck.d, List.map_cons, List.map_nil, List.length_cons, List.length_nil, List.replicate, List.cons_append, List.nil_append, List.append_nil, List.getElem?_cons_zero, List.getElem?_cons_succ, List.set_cons_zero, List.set_cons_succ, Option.map_some, decide_true, decide_false, set2, set_len, asg_nm, asg_tp, asgs_nil, asgs_cons, Option.bind_some, wipeE, b_add, b_sub, k_lt, k_le, k_gt, k_ge, k_eq, k_ne, k_isN, k_isnN, s_lst, s_tup, Bool.and_true, Bool.true_and, if_true, if_false, reduceCtorEq, Nat.reduceAdd, Nat.reduceSub, Nat.reduceLT, Nat.reduceLeDiff, Nat.reduceEqDiff, Bool.and_false, Bool.false_and, Bool.not_true, Bool.not_false, Bool.false_eq_true, okk_bind, okk_ok, okk_nox, okk_out, oks_seq, oks_of, oks_nx, oks_rt, ixc0, ixc1, ixc2, ixc3, nat_c, Int.reduceSub, Int.reduceAdd, Int.reduceEq, Int.reduceLT, Int.reduceLE, Int.reduceMul, Bool.or_false, Bool.false_or, Bool.true_or, Bool.or_true, Bool.or_self, Bool.and_self, List.isEmpty_nil, List.isEmpty_cons, bq1, bq2, bq3, bq4, cond_true, cond_false, eq_self, ixD, eqS o1 o1, beq_self_eq_true, Bool.or_false, Bool.false_or, Bool.true_or, Bool.or_true, sb_land_plan, sb_land_and, sb_land_or, sb_land_not, sb_plan_land, sb_plan_and, sb_plan_or, sb_plan_not, sb_and_land, sb_and_plan, sb_and_or, sb_and_not, sb_or_land, sb_or_plan, sb_or_and, sb_or_not, sb_not_land, sb_not_plan, sb_not_and, sb_not_or, in_tup, fitK, inT, in_ints]
    · (try simp -implicitDefEqProofs only [runD, evSs_nil, evS, evE, evB, evA, evAV, evO, evC, evI, vw, Mini.start, bind_ok, bind_exc, bind_bad, bind_ite, of_somE, of_noneE, sof_ok, sof_exc, sof_bad, sof_ite, seq_nx, seq_rt, seq_exc, seq_bad, seq_ite, out_nx, out_rt, out_exc, out_ite, nox_ok, truth_bl, dif_true, dif_false, Ck.d, List.map_cons, List.map_nil, List.length_cons, List.length_nil, List.replicate, List.cons_append, List.nil_append, List.append_nil, List.getElem?_cons_zero, List.getElem?_cons_succ, List.set_cons_zero, List.set_cons_succ, Option.map_some, decide_true, decide_false, set2, set_len, asg_nm, asg_tp, asgs_nil, asgs_cons, Option.bind_some, wipeE, b_add, b_sub, k_lt, k_le, k_gt, k_ge, k_eq, k_ne, k_isN, k_isnN, s_lst, s_tup, Bool.and_true, Bool.true_and, if_true, if_false, reduceCtorEq, Nat.reduceAdd, Nat.reduceSub, Nat.reduceLT, Nat.reduceLeDiff, Nat.reduceEqDiff, Bool.and_false, Bool.false_and, Bool.not_true, Bool.not_false, Bool.false_eq_true, okk_bind, okk_ok, okk_nox, okk_out, oks_seq, oks_of, oks_nx, oks_rt, ixc0, ixc1, ixc2, ixc3, nat_c, Int.reduceSub, Int.reduceAdd, Int.reduceEq, Int.reduceLT, Int.reduceLE, Int.reduceMul, Bool.or_false, Bool.false_or, Bool.true_or, Bool.or_true, Bool.or_self, Bool.and_self, List.isEmpty_nil, List.isEmpty_cons, bq1, bq2, bq3, bq4, cond_true, cond_false, eq_self])
      rw [evSs_cons]; simp -implicitDefEqProofs only [runD, evSs_nil, evS, evE, evB, evA, evAV, evO, evC, evI, vw, Mini.start, bind_ok, bind_exc, bind_bad, bind_ite, of_somE, of_noneE, sof_ok, sof_exc, sof_bad, sof_ite, seq_nx, seq_rt, seq_exc, seq_bad, seq_ite, out_nx, out_rt, out_exc, out_ite, nox_ok, truth_bl, dif_true, dif_false, Ck.d, List.map_cons, List.map_nil, List.length_cons, List.length_nil, List.replicate, List.cons_append, List.nil_append, List.append_nil, List.getElem?_cons_zero, List.getElem?_cons_succ, List.set_cons_zero, List.set_cons_succ, Option.map_some, decide_true, decide_false, set2, set_len, asg_nm, asg_tp, asgs_nil, asgs_cons, Option.bind_some, wipeE, b_add, b_sub, k_lt, k_le, k_gt, k_ge, k_eq, k_ne, k_isN, k_isnN, s_lst, s_tup, Bool.and_true, Bool.true_and, if_true, if_false, reduceCtorEq, Nat.reduceAdd, Nat.reduceSub, Nat.reduceLT, Nat.reduceLeDiff, Nat.reduceEqDiff, Bool.and_false, Bool.false_and, Bool.not_true, Bool.not_false, Bool.false_eq_true, okk_bind, okk_ok, okk_nox, okk_out, oks_seq, oks_of, oks_nx, oks_rt, ixc0, ixc1, ixc2, ixc3, nat_c, Int.reduceSub, Int.reduceAdd, Int.reduceEq, Int.reduceLT, Int.reduceLE, Int.reduceMul, Bool.or_false, Bool.false_or, Bool.true_or, Bool.or_true, Bool.or_self, Bool.and_self, List.isEmpty_nil, List.isEmpty_cons, bq1, bq2, bq3, bq4, cond_true, cond_false, eq_self, ixD, in2 o2 o1 o2, beq_self_eq_true, Bool.or_false, Bool.false_or, Bool.true_or, Bool.or_true, sb_land_plan, sb_land_and, sb_land_or, sb_land_not, sb_plan_land, sb_plan_and, sb_plan_or, sb_plan_not, sb_and_land, sb_and_plan, sb_and_or, sb_and_not, sb_or_land, sb_or_plan, sb_or_and, sb_or_not, sb_not_land, sb_not_plan, sb_not_and, sb_not_or]
      rw [evSs_cons]; simp -implicitDefEqProofs only [runD, evSs_nil, evS, evE, evB, evA, evAV, evO, evC, evI, vw, Mini.start, bind_ok, bind_exc, bind_bad, bind_ite, of_somE, of_noneE, sof_ok, sof_exc, sof_bad, sof_ite, seq_nx, seq_rt, seq_exc, seq_bad, seq_ite, out_nx, out_rt, out_exc, out_ite, nox_ok, truth_bl, dif_true, dif_false, Ck.d, List.map_cons, List.map_nil, List.length_cons, List.length_nil, List.replicate, List.cons_append, List.nil_append, List.append_nil, List.getElem?_cons_zero, List.getElem?_cons_succ, List.set_cons_zero, List.set_cons_succ, Option.map_some, decide_true, decide_false, set2, set_len, asg_nm, asg_tp, asgs_nil, asgs_cons, Option.bind_some, wipeE, b_add, b_sub, k_lt, k_le, k_gt, k_ge, k_eq, k_ne, k_isN, k_isnN, s_lst, s_tup, Bool.and_true, Bool.true_and, if_true, if_false, reduceCtorEq, Nat.reduceAdd, Nat.reduceSub, Nat.reduceLT, Nat.reduceLeDiff, Nat.reduceEqDiff, Bool.and_false, Bool.false_and, Bool.not_true, Bool.not_false, Bool.false_eq_true, okk_bind, okk_ok, okk_nox, okk_out, oks_seq, oks_of, oks_nx, oks_rt, ixc0, ixc1, ixc2, ixc3, nat_c, Int.reduceSub, Int.reduceAdd, Int.reduceEq, Int.reduceLT, Int.reduceLE, Int.reduceMul, Bool.or_false, Bool.false_or, Bool.true_or, Bool.or_true, Bool.or_self, Bool.and_self, List.isEmpty_nil, List.isEmpty_cons, bq1, bq2, bq3, bq4, cond_true, cond_false, eq_self, ixD, eqS o2 o1, beq_self_eq_true, Bool.or_false, Bool.false_or, Bool.true_or, Bool.or_true, sb_land_plan, sb_land_and, sb_land_or, sb_land_not, sb_plan_land, sb_plan_and, sb_plan_or, sb_plan_not, sb_and_land, sb_and_plan, sb_and_or, sb_and_not, sb_or_land, sb_or_plan, sb_or_and, sb_or_not, sb_not_land, sb_not_plan, sb_not_and, sb_not_or, in_tup, fitK, inT, in_ints]
    · have := many _ _ _ rfl (by simpa using q1) x (by simp)
      (try simp -implicitDefEqProofs only [runD, evSs_nil, evS, evE, evB, evA, evAV, evO, evC, evI, vw, Mini.start, bind_ok, bind_exc, bind_bad, bind_ite, of_somE, of_noneE, sof_ok, sof_exc, sof_bad, sof_ite, seq_nx, seq_rt, seq_exc, seq_bad, seq_ite, out_nx, out_rt, out_exc, out_ite, nox_ok, truth_bl, dif_true, dif_false, Ck.d, List.map_cons, List.map_nil, List.length_cons, List.length_nil, List.replicate, List.cons_append, List.nil_append, List.append_nil, List.getElem?_cons_zero, List.getElem?_cons_succ, List.set_cons_zero, List.set_cons_succ, Option.map_some, decide_true, decide_false, set2, set_len, asg_nm, asg_tp, asgs_nil, asgs_cons, Option.bind_some, wipeE, b_add, b_sub, k_lt, k_le, k_gt, k_ge, k_eq, k_ne, k_isN, k_isnN, s_lst, s_tup, Bool.and_true, Bool.true_and, if_true, if_false, reduceCtorEq, Nat.reduceAdd, Nat.reduceSub, Nat.reduceLT, Nat.reduceLeDiff, Nat.reduceEqDiff, Bool.and_false, Bool.false_and, Bool.not_true, Bool.not_false, Bool.false_eq_true, okk_bind, okk_ok, okk_nox, okk_out, oks_seq, oks_of, oks_nx, oks_rt, ixc0, ixc1, ixc2, ixc3, nat_c, Int.reduceSub, Int.reduceAdd, Int.reduceEq, Int.reduceLT, Int.reduceLE, Int.reduceMul, Bool.or_false, Bool.false_or, Bool.true_or, Bool.or_true, Bool.or_self, Bool.and_self, List.isEmpty_nil, List.isEmpty_cons, bq1, bq2, bq3, bq4, cond_true, cond_false, eq_self])
      rw [evSs_cons]; simp -implicitDefEqProofs only [runD, evSs_nil, evS, evE, evB, evA, evAV, evO, evC, evI, vw, Mini.start, bind_ok, bind_exc, bind_bad, bind_ite, of_somE, of_noneE, sof_ok, sof_exc, sof_bad, sof_ite, seq_nx, seq_rt, seq_exc, seq_bad, seq_ite, out_nx, out_rt, out_exc, out_ite, nox_ok, truth_bl, dif_true, dif_false, Ck.d, List.map_cons, List.map_nil, List.length_cons, List.length_nil, List.replicate, List.cons_append, List.nil_append, List.append_nil, List.getElem?_cons_zero, List.getElem?_cons_succ, List.set_cons_zero, List.set_cons_succ, Option.map_some, decide_true, decide_false, set2, set_len, asg_nm, asg_tp, asgs_nil, asgs_cons, Option.bind_some, wipeE, b_add, b_sub, k_lt, k_le, k_gt, k_ge, k_eq, k_ne, k_isN, k_isnN, s_lst, s_tup, Bool.and_true, Bool.true_and, if_true, if_false, reduceCtorEq, Nat.reduceAdd, Nat.reduceSub, Nat.reduceLT, Nat.reduceLeDiff, Nat.reduceEqDiff, Bool.and_false, Bool.false_and, Bool.not_true, Bool.not_false, Bool.false_eq_true, okk_bind, okk_ok, okk_nox, okk_out, oks_seq, oks_of, oks_nx, oks_rt, ixc0, ixc1, ixc2, ixc3, nat_c, Int.reduceSub, Int.reduceAdd, Int.reduceEq, Int.reduceLT, Int.reduceLE, Int.reduceMul, Bool.or_false, Bool.false_or, Bool.true_or, Bool.or_true, Bool.or_self, Bool.and_self, List.isEmpty_nil, List.isEmpty_cons, bq1, bq2, bq3, bq4, cond_true, cond_false, eq_self, ixD, in2 o5 o1 o2, beq_self_eq_true, Bool.or_false, Bool.false_or, Bool.true_or, Bool.or_true, sb_land_plan, sb_land_and, sb_land_or, sb_land_not, sb_plan_land, sb_plan_and, sb_plan_or, sb_plan_not, sb_and_land, sb_and_plan, sb_and_or, sb_and_not, sb_or_land, sb_or_plan, sb_or_and, sb_or_not, sb_not_land, sb_not_plan, sb_not_and, sb_not_or]
      rw [evSs_cons]; simp -implicitDefEqProofs only [runD, evSs_nil, evS, evE, evB, evA, evAV, evO, evC, evI, vw, Mini.start, bind_ok, bind_exc, bind_bad, bind_ite, of_somE, of_noneE, sof_ok, sof_exc, sof_bad, sof_ite, seq_nx, seq_rt, seq_exc, seq_bad, seq_ite, out_nx, out_rt, out_exc, out_ite, nox_ok, truth_bl, dif_true, dif_false, Ck.d, List.map_cons, List.map_nil, List.length_cons, List.length_nil, List.replicate, List.cons_append, List.nil_append, List.append_nil, List.getElem?_cons_zero, List.getElem?_cons_succ, List.set_cons_zero, List.set_cons_succ, Option.map_some, decide_true, decide_false, set2, set_len, asg_nm, asg_tp, asgs_nil, asgs_cons, Option.bind_some, wipeE, b_add, b_sub, k_lt, k_le, k_gt, k_ge, k_eq, k_ne, k_isN, k_isnN, s_lst, s_tup, Bool.and_true, Bool.true_and, if_true, if_false, reduceCtorEq, Nat.reduceAdd, Nat.reduceSub, Nat.reduceLT, Nat.reduceLeDiff, Nat.reduceEqDiff, Bool.and_false, Bool.false_and, Bool.not_true, Bool.not_false, Bool.false_eq_true, okk_bind, okk_ok, okk_nox, okk_out, oks_seq, oks_of, oks_nx, oks_rt, ixc0, ixc1, ixc2, ixc3, nat_c, Int.reduceSub, Int.reduceAdd, Int.reduceEq, Int.reduceLT, Int.reduceLE, Int.reduceMul, Bool.or_false, Bool.false_or, Bool.true_or, Bool.or_true, Bool.or_self, Bool.and_self, List.isEmpty_nil, List.isEmpty_cons, bq1, bq2, bq3, bq4, cond_true, cond_false, eq_self, ixD, eqS o5 o5, beq_self_eq_true, Bool.or_false, Bool.false_or, Bool.true_or, Bool.or_true, sb_land_plan, sb_land_and, sb_land_or, sb_land_not, sb_plan_land, sb_plan_and, sb_plan_or, sb_plan_not, sb_and_land, sb_and_plan, sb_and_or, sb_and_not, sb_or_land, sb_or_plan, sb_or_and, sb_or_not, sb_not_land, sb_not_plan, sb_not_and, sb_not_or]
      rw [evSs_cons]; simp -implicitDefEqProofs only [runD, evSs_nil, evS, evE, evB, evA, evAV, evO, evC, evI, vw, Mini.start, bind_ok, bind_exc, bind_bad, bind_ite, of_somE, of_noneE, sof_ok, sof_exc, sof_bad, sof_ite, seq_nx, seq_rt, seq_exc, seq_bad, seq_ite, out_nx, out_rt, out_exc, out_ite, nox_ok, truth_bl, dif_true, dif_false, Ck.d, List.map_cons, List.map_nil, List.length_cons, List.length_nil, List.replicate, List.cons_append, List.nil_append, List.append_nil, List.getElem?_cons_zero, List.getElem?_cons_succ, List.set_cons_zero, List.set_cons_succ, Option.map_some, decide_true, decide_false, set2, set_len, asg_nm, asg_tp, asgs_nil, asgs_cons, Option.bind_some, wipeE, b_add, b_sub, k_lt, k_le, k_gt, k_ge, k_eq, k_ne, k_isN, k_isnN, s_lst, s_tup, Bool.and_true, Bool.true_and, if_true, if_false, reduceCtorEq, Nat.reduceAdd, Nat.reduceSub, Nat.reduceLT, Nat.reduceLeDiff, Nat.reduceEqDiff, Bool.and_false, Bool.false_and, Bool.not_true, Bool.not_false, Bool.false_eq_true, okk_bind, okk_ok, okk_nox, okk_out, oks_seq, oks_of, oks_nx, oks_rt, ixc0, ixc1, ixc2, ixc3, nat_c, Int.reduceSub, Int.reduceAdd, Int.reduceEq, Int.reduceLT, Int.reduceLE, Int.reduceMul, Bool.or_false, Bool.false_or, Bool.true_or, Bool.or_true, Bool.or_self, Bool.and_self, List.isEmpty_nil, List.isEmpty_cons, bq1, bq2, bq3, bq4, cond_true, cond_false, eq_self, ixD, this, fitK, beq_self_eq_true, Bool.or_false, Bool.false_or, Bool.true_or, Bool.or_true, sb_land_plan, sb_land_and, sb_land_or, sb_land_not, sb_plan_land, sb_plan_and, sb_plan_or, sb_plan_not, sb_and_land, sb_and_plan, sb_and_or, sb_and_not, sb_or_land, sb_or_plan, sb_or_and, sb_or_not, sb_not_land, sb_not_plan, sb_not_and, sb_not_or]
    · have m := many _ _ _ rfl q1
      have er : fitK (k + 1) l p (.tup (.str "and" :: x :: xs)) = !((x :: xs).any fun y => !fitK k l p y) := by
        simp only [fitK, beq_self_eq_true, Bool.or_false, Bool.false_or, Bool.true_or, Bool.or_true, sb_land_plan, sb_land_and, sb_land_or, sb_land_not, sb_plan_land, sb_plan_and, sb_plan_or, sb_plan_not, sb_and_land, sb_and_plan, sb_and_or, sb_and_not, sb_or_land, sb_or_plan, sb_or_and, sb_or_not, sb_not_land, sb_not_plan, sb_not_and, sb_not_or, Bool.false_eq_true, if_false, if_true, List.all_eq_not_any_not]
      rw [er]
      refine Okk.eq ?_
      (try simp -implicitDefEqProofs only [runD, evSs_nil, evS, evE, evB, evA, evAV, evO, evC, evI, vw, Mini.start, bind_ok, bind_exc, bind_bad, bind_ite, of_somE, of_noneE, sof_ok, sof_exc, sof_bad, sof_ite, seq_nx, seq_rt, seq_exc, seq_bad, seq_ite, out_nx, out_rt, out_exc, out_ite, nox_ok, truth_bl, dif_true, dif_false, Ck.d, List.map_cons, List.map_nil, List.length_cons, List.length_nil, List.replicate, List.cons_append, List.nil_append, List.append_nil, List.getElem?_cons_zero, List.getElem?_cons_succ, List.set_cons_zero, List.set_cons_succ, Option.map_some, decide_true, decide_false, set2, set_len, asg_nm, asg_tp, asgs_nil, asgs_cons, Option.bind_some, wipeE, b_add, b_sub, k_lt, k_le, k_gt, k_ge, k_eq, k_ne, k_isN, k_isnN, s_lst, s_tup, Bool.and_true, Bool.true_and, if_true, if_false, reduceCtorEq, Nat.reduceAdd, Nat.reduceSub, Nat.reduceLT, Nat.reduceLeDiff, Nat.reduceEqDiff, Bool.and_false, Bool.false_and, Bool.not_true, Bool.not_false, Bool.false_eq_true, okk_bind, okk_ok, okk_nox, okk_out, oks_seq, oks_of, oks_nx, oks_rt, ixc0, ixc1, ixc2, ixc3, nat_c, Int.reduceSub, Int.reduceAdd, Int.reduceEq, Int.reduceLT, Int.reduceLE, Int.reduceMul, Bool.or_false, Bool.false_or, Bool.true_or, Bool.or_true, Bool.or_self, Bool.and_self, List.isEmpty_nil, List.isEmpty_cons, bq1, bq2, bq3, bq4, cond_true, cond_false, eq_self])
      rw [evSs_cons]; simp -implicitDefEqProofs only [runD, evSs_nil, evS, evE, evB, evA, evAV, evO, evC, evI, vw, Mini.start, bind_ok, bind_exc, bind_bad, bind_ite, of_somE, of_noneE, sof_ok, sof_exc, sof_bad, sof_ite, seq_nx, seq_rt, seq_exc, seq_bad, seq_ite, out_nx, out_rt, out_exc, out_ite, nox_ok, truth_bl, dif_true, dif_false, Ck.d, List.map_cons, List.map_nil, List.length_cons, List.length_nil, List.replicate, List.cons_append, List.nil_append, List.append_nil, List.getElem?_cons_zero, List.getElem?_cons_succ, List.set_cons_zero, List.set_cons_succ, Option.map_some, decide_true, decide_false, set2, set_len, asg_nm, asg_tp, asgs_nil, asgs_cons, Option.bind_some, wipeE, b_add, b_sub, k_lt, k_le, k_gt, k_ge, k_eq, k_ne, k_isN, k_isnN, s_lst, s_tup, Bool.and_true, Bool.true_and, if_true, if_false, reduceCtorEq, Nat.reduceAdd, Nat.reduceSub, Nat.reduceLT, Nat.reduceLeDiff, Nat.reduceEqDiff, Bool.and_false, Bool.false_and, Bool.not_true, Bool.not_false, Bool.false_eq_true, okk_bind, okk_ok, okk_nox, okk_out, oks_seq, oks_of, oks_nx, oks_rt, ixc0, ixc1, ixc2, ixc3, nat_c, Int.reduceSub, Int.reduceAdd, Int.reduceEq, Int.reduceLT, Int.reduceLE, Int.reduceMul, Bool.or_false, Bool.false_or, Bool.true_or, Bool.or_true, Bool.or_self, Bool.and_self, List.isEmpty_nil, List.isEmpty_cons, bq1, bq2, bq3, bq4, cond_true, cond_false, eq_self, ixD, in2 o3 o1 o2, beq_self_eq_true, Bool.or_false, Bool.false_or, Bool.true_or, Bool.or_true, sb_land_plan, sb_land_and, sb_land_or, sb_land_not, sb_plan_land, sb_plan_and, sb_plan_or, sb_plan_not, sb_and_land, sb_and_plan, sb_and_or, sb_and_not, sb_or_land, sb_or_plan, sb_or_and, sb_or_not, sb_not_land, sb_not_plan, sb_not_and, sb_not_or]
      rw [evSs_cons]; simp -implicitDefEqProofs only [runD, evSs_nil, evS, evE, evB, evA, evAV, evO, evC, evI, vw, Mini.start, bind_ok, bind_exc, bind_bad, bind_ite, of_somE, of_noneE, sof_ok, sof_exc, sof_bad, sof_ite, seq_nx, seq_rt, seq_exc, seq_bad, seq_ite, out_nx, out_rt, out_exc, out_ite, nox_ok, truth_bl, dif_true, dif_false, Ck.d, List.map_cons, List.map_nil, List.length_cons, List.length_nil, List.replicate, List.cons_append, List.nil_append, List.append_nil, List.getElem?_cons_zero, List.getElem?_cons_succ, List.set_cons_zero, List.set_cons_succ, Option.map_some, decide_true, decide_false, set2, set_len, asg_nm, asg_tp, asgs_nil, asgs_cons, Option.bind_some, wipeE, b_add, b_sub, k_lt, k_le, k_gt, k_ge, k_eq, k_ne, k_isN, k_isnN, s_lst, s_tup, Bool.and_true, Bool.true_and, if_true, if_false, reduceCtorEq, Nat.reduceAdd, Nat.reduceSub, Nat.reduceLT, Nat.reduceLeDiff, Nat.reduceEqDiff, Bool.and_false, Bool.false_and, Bool.not_true, Bool.not_false, Bool.false_eq_true, okk_bind, okk_ok, okk_nox, okk_out, oks_seq, oks_of, oks_nx, oks_rt, ixc0, ixc1, ixc2, ixc3, nat_c, Int.reduceSub, Int.reduceAdd, Int.reduceEq, Int.reduceLT, Int.reduceLE, Int.reduceMul, Bool.or_false, Bool.false_or, Bool.true_or, Bool.or_true, Bool.or_self, Bool.and_self, List.isEmpty_nil, List.isEmpty_cons, bq1, bq2, bq3, bq4, cond_true, cond_false, eq_self, ixD, eqS o3 o5, beq_self_eq_true, Bool.or_false, Bool.false_or, Bool.true_or, Bool.or_true, sb_land_plan, sb_land_and, sb_land_or, sb_land_not, sb_plan_land, sb_plan_and, sb_plan_or, sb_plan_not, sb_and_land, sb_and_plan, sb_and_or, sb_and_not, sb_or_land, sb_or_plan, sb_or_and, sb_or_not, sb_not_land, sb_not_plan, sb_not_and, sb_not_or]
      rw [evSs_cons]; simp -implicitDefEqProofs only [runD, evSs_nil, evS, evE, evB, evA, evAV, evO, evC, evI, vw, Mini.start, bind_ok, bind_exc, bind_bad, bind_ite, of_somE, of_noneE, sof_ok, sof_exc, sof_bad, sof_ite, seq_nx, seq_rt, seq_exc, seq_bad, seq_ite, out_nx, out_rt, out_exc, out_ite, nox_ok, truth_bl, dif_true, dif_false, Ck.d, List.map_cons, List.map_nil, List.length_cons, List.length_nil, List.replicate, List.cons_append, List.nil_append, List.append_nil, List.getElem?_cons_zero, List.getElem?_cons_succ, List.set_cons_zero, List.set_cons_succ, Option.map_some, decide_true, decide_false, set2, set_len, asg_nm, asg_tp, asgs_nil, asgs_cons, Option.bind_some, wipeE, b_add, b_sub, k_lt, k_le, k_gt, k_ge, k_eq, k_ne, k_isN, k_isnN, s_lst, s_tup, Bool.and_true, Bool.true_and, if_true, if_false, reduceCtorEq, Nat.reduceAdd, Nat.reduceSub, Nat.reduceLT, Nat.reduceLeDiff, Nat.reduceEqDiff, Bool.and_false, Bool.false_and, Bool.not_true, Bool.not_false, Bool.false_eq_true, okk_bind, okk_ok, okk_nox, okk_out, oks_seq, oks_of, oks_nx, oks_rt, ixc0, ixc1, ixc2, ixc3, nat_c, Int.reduceSub, Int.reduceAdd, Int.reduceEq, Int.reduceLT, Int.reduceLE, Int.reduceMul, Bool.or_false, Bool.false_or, Bool.true_or, Bool.or_true, Bool.or_self, Bool.and_self, List.isEmpty_nil, List.isEmpty_cons, bq1, bq2, bq3, bq4, cond_true, cond_false, eq_self, slD, cut_tail]
      refine oks_find (fun y => if (!fitK k l p y) = true then some (.bl false) else none) (fun ρ => ∃ z, ρ = [some (.val (.tup (.str "and" :: x :: xs))), some (.val (.int l)), some (.val (.int p)), z]) (fun y hy ρ hρ => ?_) ⟨_, rfl⟩ ?_ ?_
      · obtain ⟨z, rfl⟩ := hρ
        (try simp -implicitDefEqProofs only [runD, evSs_nil, evS, evE, evB, evA, evAV, evO, evC, evI, vw, Mini.start, bind_ok, bind_exc, bind_bad, bind_ite, of_somE, of_noneE, sof_ok, sof_exc, sof_bad, sof_ite, seq_nx, seq_rt, seq_exc, seq_bad, seq_ite, out_nx, out_rt, out_exc, out_ite, nox_ok, truth_bl, dif_true, dif_false, Ck.d, List.map_cons, List.map_nil, List.length_cons, List.length_nil, List.replicate, List.cons_append, List.nil_append, List.append_nil, List.getElem?_cons_zero, List.getElem?_cons_succ, List.set_cons_zero, List.set_cons_succ, Option.map_some, decide_true, decide_false, set2, set_len, asg_nm, asg_tp, asgs_nil, asgs_cons, Option.bind_some, wipeE, b_add, b_sub, k_lt, k_le, k_gt, k_ge, k_eq, k_ne, k_isN, k_isnN, s_lst, s_tup, Bool.and_true, Bool.true_and, if_true, if_false, reduceCtorEq, Nat.reduceAdd, Nat.reduceSub, Nat.reduceLT, Nat.reduceLeDiff, Nat.reduceEqDiff, Bool.and_false, Bool.false_and, Bool.not_true, Bool.not_false, Bool.false_eq_true, okk_bind, okk_ok, okk_nox, okk_out, oks_seq, oks_of, oks_nx, oks_rt, ixc0, ixc1, ixc2, ixc3, nat_c, Int.reduceSub, Int.reduceAdd, Int.reduceEq, Int.reduceLT, Int.reduceLE, Int.reduceMul, Bool.or_false, Bool.false_or, Bool.true_or, Bool.or_true, Bool.or_self, Bool.and_self, List.isEmpty_nil, List.isEmpty_cons, bq1, bq2, bq3, bq4, cond_true, cond_false, eq_self])
        rw [evSs_cons]; simp -implicitDefEqProofs only [runD, evSs_nil, evS, evE, evB, evA, evAV, evO, evC, evI, vw, Mini.start, bind_ok, bind_exc, bind_bad, bind_ite, of_somE, of_noneE, sof_ok, sof_exc, sof_bad, sof_ite, seq_nx, seq_rt, seq_exc, seq_bad, seq_ite, out_nx, out_rt, out_exc, out_ite, nox_ok, truth_bl, dif_true, dif_false, Ck.d, List.map_cons, List.map_nil, List.length_cons, List.length_nil, List.replicate, List.cons_append, List.nil_append, List.append_nil, List.getElem?_cons_zero, List.getElem?_cons_succ, List.set_cons_zero, List.set_cons_succ, Option.map_some, decide_true, decide_false, set2, set_len, asg_nm, asg_tp, asgs_nil, asgs_cons, Option.bind_some, wipeE, b_add, b_sub, k_lt, k_le, k_gt, k_ge, k_eq, k_ne, k_isN, k_isnN, s_lst, s_tup, Bool.and_true, Bool.true_and, if_true, if_false, reduceCtorEq, Nat.reduceAdd, Nat.reduceSub, Nat.reduceLT, Nat.reduceLeDiff, Nat.reduceEqDiff, Bool.and_false, Bool.false_and, Bool.not_true, Bool.not_false, Bool.false_eq_true, okk_bind, okk_ok, okk_nox, okk_out, oks_seq, oks_of, oks_nx, oks_rt, ixc0, ixc1, ixc2, ixc3, nat_c, Int.reduceSub, Int.reduceAdd, Int.reduceEq, Int.reduceLT, Int.reduceLE, Int.reduceMul, Bool.or_false, Bool.false_or, Bool.true_or, Bool.or_true, Bool.or_self, Bool.and_self, List.isEmpty_nil, List.isEmpty_cons, bq1, bq2, bq3, bq4, cond_true, cond_false, eq_self, m y hy h, ixD, eqS o3 o3, k_neB, beq_self_eq_true, Bool.or_false, Bool.false_or, Bool.true_or, Bool.or_true, sb_land_plan, sb_land_and, sb_land_or, sb_land_not, sb_plan_land, sb_plan_and, sb_plan_or, sb_plan_not, sb_and_land, sb_and_plan, sb_and_or, sb_and_not, sb_or_land, sb_or_plan, sb_or_and, sb_or_not, sb_not_land, sb_not_plan, sb_not_and, sb_not_or]
        cases fitK k l p y with
        | true => (try simp -implicitDefEqProofs only [runD, evSs_nil, evS, evE, evB, evA, evAV, evO, evC, evI, vw, Mini.start, bind_ok, bind_exc, bind_bad, bind_ite, of_somE, of_noneE, sof_ok, sof_exc, sof_bad, sof_ite, seq_nx, seq_rt, seq_exc, seq_bad, seq_ite, out_nx, out_rt, out_exc, out_ite, nox_ok, truth_bl, dif_true, dif_false, Ck.d, List.map_cons, List.map_nil, List.length_cons, List.length_nil, List.replicate, List.cons_append, List.nil_append, List.append_nil, List.getElem?_cons_zero, List.getElem?_cons_succ, List.set_cons_zero, List.set_cons_succ, Option.map_some, decide_true, decide_false, set2, set_len, asg_nm, asg_tp, asgs_nil, asgs_cons, Option.bind_some, wipeE, b_add, b_sub, k_lt, k_le, k_gt, k_ge, k_eq, k_ne, k_isN, k_isnN, s_lst, s_tup, Bool.and_true, Bool.true_and, if_true, if_false, reduceCtorEq, Nat.reduceAdd, Nat.reduceSub, Nat.reduceLT, Nat.reduceLeDiff, Nat.reduceEqDiff, Bool.and_false, Bool.false_and, Bool.not_true, Bool.not_false, Bool.false_eq_true, okk_bind, okk_ok, okk_nox, okk_out, oks_seq, oks_of, oks_nx, oks_rt, ixc0, ixc1, ixc2, ixc3, nat_c, Int.reduceSub, Int.reduceAdd, Int.reduceEq, Int.reduceLT, Int.reduceLE, Int.reduceMul, Bool.or_false, Bool.false_or, Bool.true_or, Bool.or_true, Bool.or_self, Bool.and_self, List.isEmpty_nil, List.isEmpty_cons, bq1, bq2, bq3, bq4, cond_true, cond_false, eq_self]); exact ⟨trivial, trivial, _, rfl⟩
        | false =>
          (try simp -implicitDefEqProofs only [runD, evSs_nil, evS, evE, evB, evA, evAV, evO, evC, evI, vw, Mini.start, bind_ok, bind_exc, bind_bad, bind_ite, of_somE, of_noneE, sof_ok, sof_exc, sof_bad, sof_ite, seq_nx, seq_rt, seq_exc, seq_bad, seq_ite, out_nx, out_rt, out_exc, out_ite, nox_ok, truth_bl, dif_true, dif_false, Ck.d, List.map_cons, List.map_nil, List.length_cons, List.length_nil, List.replicate, List.cons_append, List.nil_append, List.append_nil, List.getElem?_cons_zero, List.getElem?_cons_succ, List.set_cons_zero, List.set_cons_succ, Option.map_some, decide_true, decide_false, set2, set_len, asg_nm, asg_tp, asgs_nil, asgs_cons, Option.bind_some, wipeE, b_add, b_sub, k_lt, k_le, k_gt, k_ge, k_eq, k_ne, k_isN, k_isnN, s_lst, s_tup, Bool.and_true, Bool.true_and, if_true, if_false, reduceCtorEq, Nat.reduceAdd, Nat.reduceSub, Nat.reduceLT, Nat.reduceLeDiff, Nat.reduceEqDiff, Bool.and_false, Bool.false_and, Bool.not_true, Bool.not_false, Bool.false_eq_true, okk_bind, okk_ok, okk_nox, okk_out, oks_seq, oks_of, oks_nx, oks_rt, ixc0, ixc1, ixc2, ixc3, nat_c, Int.reduceSub, Int.reduceAdd, Int.reduceEq, Int.reduceLT, Int.reduceLE, Int.reduceMul, Bool.or_false, Bool.false_or, Bool.true_or, Bool.or_true, Bool.or_self, Bool.and_self, List.isEmpty_nil, List.isEmpty_cons, bq1, bq2, bq3, bq4, cond_true, cond_false, eq_self])
          rw [evSs_cons]; simp -implicitDefEqProofs only [runD, evSs_nil, evS, evE, evB, evA, evAV, evO, evC, evI, vw, Mini.start, bind_ok, bind_exc, bind_bad, bind_ite, of_somE, of_noneE, sof_ok, sof_exc, sof_bad, sof_ite, seq_nx, seq_rt, seq_exc, seq_bad, seq_ite, out_nx, out_rt, out_exc, out_ite, nox_ok, truth_bl, dif_true, dif_false, Ck.d, List.map_cons, List.map_nil, List.length_cons, List.length_nil, List.replicate, List.cons_append, List.nil_append, List.append_nil, List.getElem?_cons_zero, List.getElem?_cons_succ, List.set_cons_zero, List.set_cons_succ, Option.map_some, decide_true, decide_false, set2, set_len, asg_nm, asg_tp, asgs_nil, asgs_cons, Option.bind_some, wipeE, b_add, b_sub, k_lt, k_le, k_gt, k_ge, k_eq, k_ne, k_isN, k_isnN, s_lst, s_tup, Bool.and_true, Bool.true_and, if_true, if_false, reduceCtorEq, Nat.reduceAdd, Nat.reduceSub, Nat.reduceLT, Nat.reduceLeDiff, Nat.reduceEqDiff, Bool.and_false, Bool.false_and, Bool.not_true, Bool.not_false, Bool.false_eq_true, okk_bind, okk_ok, okk_nox, okk_out, oks_seq, oks_of, oks_nx, oks_rt, ixc0, ixc1, ixc2, ixc3, nat_c, Int.reduceSub, Int.reduceAdd, Int.reduceEq, Int.reduceLT, Int.reduceLE, Int.reduceMul, Bool.or_false, Bool.false_or, Bool.true_or, Bool.or_true, Bool.or_self, Bool.and_self, List.isEmpty_nil, List.isEmpty_cons, bq1, bq2, bq3, bq4, cond_true, cond_false, eq_self, ixD, eqS o3 o4, beq_self_eq_true, Bool.or_false, Bool.false_or, Bool.true_or, Bool.or_true, sb_land_plan, sb_land_and, sb_land_or, sb_land_not, sb_plan_land, sb_plan_and, sb_plan_or, sb_plan_not, sb_and_land, sb_and_plan, sb_and_or, sb_and_not, sb_or_land, sb_or_plan, sb_or_and, sb_or_not, sb_not_land, sb_not_plan, sb_not_and, sb_not_or]
          exact ⟨trivial, trivial⟩
      · intro d hd
        rw [find_bl (f := fun y => !fitK k l p y)] at hd
        cases e : (x :: xs).any (fun y => !fitK k l p y) with
        | true => rw [e] at hd; cases hd; exact ⟨rfl, rfl⟩
        | false => rw [e] at hd; cases hd
      · intro hd ρ hρ
        obtain ⟨z, rfl⟩ := hρ
        rw [find_bl (f := fun y => !fitK k l p y)] at hd
        cases e : (x :: xs).any (fun y => !fitK k l p y) with
        | true => rw [e] at hd; cases hd
        | false =>
          rw [evSs_cons]; simp -implicitDefEqProofs only [runD, evSs_nil, evS, evE, evB, evA, evAV, evO, evC, evI, vw, Mini.start, bind_ok, bind_exc, bind_bad, bind_ite, of_somE, of_noneE, sof_ok, sof_exc, sof_bad, sof_ite, seq_nx, seq_rt, seq_exc, seq_bad, seq_ite, out_nx, out_rt, out_exc, out_ite, nox_ok, truth_bl, dif_true, dif_false, Ck.d, List.map_cons, List.map_nil, List.length_cons, List.length_nil, List.replicate, List.cons_append, List.nil_append, List.append_nil, List.getElem?_cons_zero, List.getElem?_cons_succ, List.set_cons_zero, List.set_cons_succ, Option.map_some, decide_true, decide_false, set2, set_len, asg_nm, asg_tp, asgs_nil, asgs_cons, Option.bind_some, wipeE, b_add, b_sub, k_lt, k_le, k_gt, k_ge, k_eq, k_ne, k_isN, k_isnN, s_lst, s_tup, Bool.and_true, Bool.true_and, if_true, if_false, reduceCtorEq, Nat.reduceAdd, Nat.reduceSub, Nat.reduceLT, Nat.reduceLeDiff, Nat.reduceEqDiff, Bool.and_false, Bool.false_and, Bool.not_true, Bool.not_false, Bool.false_eq_true, okk_bind, okk_ok, okk_nox, okk_out, oks_seq, oks_of, oks_nx, oks_rt, ixc0, ixc1, ixc2, ixc3, nat_c, Int.reduceSub, Int.reduceAdd, Int.reduceEq, Int.reduceLT, Int.reduceLE, Int.reduceMul, Bool.or_false, Bool.false_or, Bool.true_or, Bool.or_true, Bool.or_self, Bool.and_self, List.isEmpty_nil, List.isEmpty_cons, bq1, bq2, bq3, bq4, cond_true, cond_false, eq_self, ixD, eqS o3 o3, beq_self_eq_true, Bool.or_false, Bool.false_or, Bool.true_or, Bool.or_true, sb_land_plan, sb_land_and, sb_land_or, sb_land_not, sb_plan_land, sb_plan_and, sb_plan_or, sb_plan_not, sb_and_land, sb_and_plan, sb_and_or, sb_and_not, sb_or_land, sb_or_plan, sb_or_and, sb_or_not, sb_not_land, sb_not_plan, sb_not_and, sb_not_or]
          exact ⟨trivial, trivial⟩
    · have m := many _ _ _ rfl q1
      have er : fitK (k + 1) l p (.tup (.str "or" :: x :: xs)) = ((x :: xs).any fun y => fitK k l p y) := by
        simp only [fitK, beq_self_eq_true, Bool.or_false, Bool.false_or, Bool.true_or, Bool.or_true, sb_land_plan, sb_land_and, sb_land_or, sb_land_not, sb_plan_land, sb_plan_and, sb_plan_or, sb_plan_not, sb_and_land, sb_and_plan, sb_and_or, sb_and_not, sb_or_land, sb_or_plan, sb_or_and, sb_or_not, sb_not_land, sb_not_plan, sb_not_and, sb_not_or, Bool.false_eq_true, if_false, if_true]
      rw [er]
      refine Okk.eq ?_
      (try simp -implicitDefEqProofs only [runD, evSs_nil, evS, evE, evB, evA, evAV, evO, evC, evI, vw, Mini.start, bind_ok, bind_exc, bind_bad, bind_ite, of_somE, of_noneE, sof_ok, sof_exc, sof_bad, sof_ite, seq_nx, seq_rt, seq_exc, seq_bad, seq_ite, out_nx, out_rt, out_exc, out_ite, nox_ok, truth_bl, dif_true, dif_false, Ck.d, List.map_cons, List.map_nil, List.length_cons, List.length_nil, List.replicate, List.cons_append, List.nil_append, List.append_nil, List.getElem?_cons_zero, List.getElem?_cons_succ, List.set_cons_zero, List.set_cons_succ, Option.map_some, decide_true, decide_false, set2, set_len, asg_nm, asg_tp, asgs_nil, asgs_cons, Option.bind_some, wipeE, b_add, b_sub, k_lt, k_le, k_gt, k_ge, k_eq, k_ne, k_isN, k_isnN, s_lst, s_tup, Bool.and_true, Bool.true_and, if_true, if_false, reduceCtorEq, Nat.reduceAdd, Nat.reduceSub, Nat.reduceLT, Nat.reduceLeDiff, Nat.reduceEqDiff, Bool.and_false, Bool.false_and, Bool.not_true, Bool.not_false, Bool.false_eq_true, okk_bind, okk_ok, okk_nox, okk_out, oks_seq, oks_of, oks_nx, oks_rt, ixc0, ixc1, ixc2, ixc3, nat_c, Int.reduceSub, Int.reduceAdd, Int.reduceEq, Int.reduceLT, Int.reduceLE, Int.reduceMul, Bool.or_false, Bool.false_or, Bool.true_or, Bool.or_true, Bool.or_self, Bool.and_self, List.isEmpty_nil, List.isEmpty_cons, bq1, bq2, bq3, bq4, cond_true, cond_false, eq_self])
      rw [evSs_cons]; simp -implicitDefEqProofs only [runD, evSs_nil, evS, evE, evB, evA, evAV, evO, evC, evI, vw, Mini.start, bind_ok, bind_exc, bind_bad, bind_ite, of_somE, of_noneE, sof_ok, sof_exc, sof_bad, sof_ite, seq_nx, seq_rt, seq_exc, seq_bad, seq_ite, out_nx, out_rt, out_exc, out_ite, nox_ok, truth_bl, dif_true, dif_false, Ck.d, List.map_cons, List.map_nil, List.length_cons, List.length_nil, List.replicate, List.cons_append, List.nil_append, List.append_nil, List.getElem?_cons_zero, List.getElem?_cons_succ, List.set_cons_zero, List.set_cons_succ, Option.map_some, decide_true, decide_false, set2, set_len, asg_nm, asg_tp, asgs_nil, asgs_cons, Option.bind_some, wipeE, b_add, b_sub, k_lt, k_le, k_gt, k_ge, k_eq, k_ne, k_isN, k_isnN, s_lst, s_tup, Bool.and_true, Bool.true_and, if_true, if_false, reduceCtorEq, Nat.reduceAdd, Nat.reduceSub, Nat.reduceLT, Nat.reduceLeDiff, Nat.reduceEqDiff, Bool.and_false, Bool.false_and, Bool.not_true, Bool.not_false, Bool.false_eq_true, okk_bind, okk_ok, okk_nox, okk_out, oks_seq, oks_of, oks_nx, oks_rt, ixc0, ixc1, ixc2, ixc3, nat_c, Int.reduceSub, Int.reduceAdd, Int.reduceEq, Int.reduceLT, Int.reduceLE, Int.reduceMul, Bool.or_false, Bool.false_or, Bool.true_or, Bool.or_true, Bool.or_self, Bool.and_self, List.isEmpty_nil, List.isEmpty_cons, bq1, bq2, bq3, bq4, cond_true, cond_false, eq_self, ixD, in2 o4 o1 o2, beq_self_eq_true, Bool.or_false, Bool.false_or, Bool.true_or, Bool.or_true, sb_land_plan, sb_land_and, sb_land_or, sb_land_not, sb_plan_land, sb_plan_and, sb_plan_or, sb_plan_not, sb_and_land, sb_and_plan, sb_and_or, sb_and_not, sb_or_land, sb_or_plan, sb_or_and, sb_or_not, sb_not_land, sb_not_plan, sb_not_and, sb_not_or]
      rw [evSs_cons]; simp -implicitDefEqProofs only [runD, evSs_nil, evS, evE, evB, evA, evAV, evO, evC, evI, vw, Mini.start, bind_ok, bind_exc, bind_bad, bind_ite, of_somE, of_noneE, sof_ok, sof_exc, sof_bad, sof_ite, seq_nx, seq_rt, seq_exc, seq_bad, seq_ite, out_nx, out_rt, out_exc, out_ite, nox_ok, truth_bl, dif_true, dif_false, Ck.d, List.map_cons, List.map_nil, List.length_cons, List.length_nil, List.replicate, List.cons_append, List.nil_append, List.append_nil, List.getElem?_cons_zero, List.getElem?_cons_succ, List.set_cons_zero, List.set_cons_succ, Option.map_some, decide_true, decide_false, set2, set_len, asg_nm, asg_tp, asgs_nil, asgs_cons, Option.bind_some, wipeE, b_add, b_sub, k_lt, k_le, k_gt, k_ge, k_eq, k_ne, k_isN, k_isnN, s_lst, s_tup, Bool.and_true, Bool.true_and, if_true, if_false, reduceCtorEq, Nat.reduceAdd, Nat.reduceSub, Nat.reduceLT, Nat.reduceLeDiff, Nat.reduceEqDiff, Bool.and_false, Bool.false_and, Bool.not_true, Bool.not_false, Bool.false_eq_true, okk_bind, okk_ok, okk_nox, okk_out, oks_seq, oks_of, oks_nx, oks_rt, ixc0, ixc1, ixc2, ixc3, nat_c, Int.reduceSub, Int.reduceAdd, Int.reduceEq, Int.reduceLT, Int.reduceLE, Int.reduceMul, Bool.or_false, Bool.false_or, Bool.true_or, Bool.or_true, Bool.or_self, Bool.and_self, List.isEmpty_nil, List.isEmpty_cons, bq1, bq2, bq3, bq4, cond_true, cond_false, eq_self, ixD, eqS o4 o5, beq_self_eq_true, Bool.or_false, Bool.false_or, Bool.true_or, Bool.or_true, sb_land_plan, sb_land_and, sb_land_or, sb_land_not, sb_plan_land, sb_plan_and, sb_plan_or, sb_plan_not, sb_and_land, sb_and_plan, sb_and_or, sb_and_not, sb_or_land, sb_or_plan, sb_or_and, sb_or_not, sb_not_land, sb_not_plan, sb_not_and, sb_not_or]
      rw [evSs_cons]; simp -implicitDefEqProofs only [runD, evSs_nil, evS, evE, evB, evA, evAV, evO, evC, evI, vw, Mini.start, bind_ok, bind_exc, bind_bad, bind_ite, of_somE, of_noneE, sof_ok, sof_exc, sof_bad, sof_ite, seq_nx, seq_rt, seq_exc, seq_bad, seq_ite, out_nx, out_rt, out_exc, out_ite, nox_ok, truth_bl, dif_true, dif_false, Ck.d, List.map_cons, List.map_nil, List.length_cons, List.length_nil, List.replicate, List.cons_append, List.nil_append, List.append_nil, List.getElem?_cons_zero, List.getElem?_cons_succ, List.set_cons_zero, List.set_cons_succ, Option.map_some, decide_true, decide_false, set2, set_len, asg_nm, asg_tp, asgs_nil, asgs_cons, Option.bind_some, wipeE, b_add, b_sub, k_lt, k_le, k_gt, k_ge, k_eq, k_ne, k_isN, k_isnN, s_lst, s_tup, Bool.and_true, Bool.true_and, if_true, if_false, reduceCtorEq, Nat.reduceAdd, Nat.reduceSub, Nat.reduceLT, Nat.reduceLeDiff, Nat.reduceEqDiff, Bool.and_false, Bool.false_and, Bool.not_true, Bool.not_false, Bool.false_eq_true, okk_bind, okk_ok, okk_nox, okk_out, oks_seq, oks_of, oks_nx, oks_rt, ixc0, ixc1, ixc2, ixc3, nat_c, Int.reduceSub, Int.reduceAdd, Int.reduceEq, Int.reduceLT, Int.reduceLE, Int.reduceMul, Bool.or_false, Bool.false_or, Bool.true_or, Bool.or_true, Bool.or_self, Bool.and_self, List.isEmpty_nil, List.isEmpty_cons, bq1, bq2, bq3, bq4, cond_true, cond_false, eq_self, slD, cut_tail]
      refine oks_find (fun y => if fitK k l p y = true then some (.bl true) else none) (fun ρ => ∃ z, ρ = [some (.val (.tup (.str "or" :: x :: xs))), some (.val (.int l)), some (.val (.int p)), z]) (fun y hy ρ hρ => ?_) ⟨_, rfl⟩ ?_ ?_
      · obtain ⟨z, rfl⟩ := hρ
        (try simp -implicitDefEqProofs only [runD, evSs_nil, evS, evE, evB, evA, evAV, evO, evC, evI, vw, Mini.start, bind_ok, bind_exc, bind_bad, bind_ite, of_somE, of_noneE, sof_ok, sof_exc, sof_bad, sof_ite, seq_nx, seq_rt, seq_exc, seq_bad, seq_ite, out_nx, out_rt, out_exc, out_ite, nox_ok, truth_bl, dif_true, dif_false, Ck.d, List.map_cons, List.map_nil, List.length_cons, List.length_nil, List.replicate, List.cons_append, List.nil_append, List.append_nil, List.getElem?_cons_zero, List.getElem?_cons_succ, List.set_cons_zero, List.set_cons_succ, Option.map_some, decide_true, decide_false, set2, set_len, asg_nm, asg_tp, asgs_nil, asgs_cons, Option.bind_some, wipeE, b_add, b_sub, k_lt, k_le, k_gt, k_ge, k_eq, k_ne, k_isN, k_isnN, s_lst, s_tup, Bool.and_true, Bool.true_and, if_true, if_false, reduceCtorEq, Nat.reduceAdd, Nat.reduceSub, Nat.reduceLT, Nat.reduceLeDiff, Nat.reduceEqDiff, Bool.and_false, Bool.false_and, Bool.not_true, Bool.not_false, Bool.false_eq_true, okk_bind, okk_ok, okk_nox, okk_out, oks_seq, oks_of, oks_nx, oks_rt, ixc0, ixc1, ixc2, ixc3, nat_c, Int.reduceSub, Int.reduceAdd, Int.reduceEq, Int.reduceLT, Int.reduceLE, Int.reduceMul, Bool.or_false, Bool.false_or, Bool.true_or, Bool.or_true, Bool.or_self, Bool.and_self, List.isEmpty_nil, List.isEmpty_cons, bq1, bq2, bq3, bq4, cond_true, cond_false, eq_self])
        rw [evSs_cons]; simp -implicitDefEqProofs only [runD, evSs_nil, evS, evE, evB, evA, evAV, evO, evC, evI, vw, Mini.start, bind_ok, bind_exc, bind_bad, bind_ite, of_somE, of_noneE, sof_ok, sof_exc, sof_bad, sof_ite, seq_nx, seq_rt, seq_exc, seq_bad, seq_ite, out_nx, out_rt, out_exc, out_ite, nox_ok, truth_bl, dif_true, dif_false, Ck.d, List.map_cons, List.map_nil, List.length_cons, List.length_nil, List.replicate, List.cons_append, List.nil_append, List.append_nil, List.getElem?_cons_zero, List.getElem?_cons_succ, List.set_cons_zero, List.set_cons_succ, Option.map_some, decide_true, decide_false, set2, set_len, asg_nm, asg_tp, asgs_nil, asgs_cons, Option.bind_some, wipeE, b_add, b_sub, k_lt, k_le, k_gt, k_ge, k_eq, k_ne, k_isN, k_isnN, s_lst, s_tup, Bool.and_true, Bool.true_and, if_true, if_false, reduceCtorEq, Nat.reduceAdd, Nat.reduceSub, Nat.reduceLT, Nat.reduceLeDiff, Nat.reduceEqDiff, Bool.and_false, Bool.false_and, Bool.not_true, Bool.not_false, Bool.false_eq_true, okk_bind, okk_ok, okk_nox, okk_out, oks_seq, oks_of, oks_nx, oks_rt, ixc0, ixc1, ixc2, ixc3, nat_c, Int.reduceSub, Int.reduceAdd, Int.reduceEq, Int.reduceLT, Int.reduceLE, Int.reduceMul, Bool.or_false, Bool.false_or, Bool.true_or, Bool.or_true, Bool.or_self, Bool.and_self, List.isEmpty_nil, List.isEmpty_cons, bq1, bq2, bq3, bq4, cond_true, cond_false, eq_self, m y hy h, ixD, eqS o4 o3, k_neB, beq_self_eq_true, Bool.or_false, Bool.false_or, Bool.true_or, Bool.or_true, sb_land_plan, sb_land_and, sb_land_or, sb_land_not, sb_plan_land, sb_plan_and, sb_plan_or, sb_plan_not, sb_and_land, sb_and_plan, sb_and_or, sb_and_not, sb_or_land, sb_or_plan, sb_or_and, sb_or_not, sb_not_land, sb_not_plan, sb_not_and, sb_not_or]
        cases fitK k l p y with
        | false => (try simp -implicitDefEqProofs only [runD, evSs_nil, evS, evE, evB, evA, evAV, evO, evC, evI, vw, Mini.start, bind_ok, bind_exc, bind_bad, bind_ite, of_somE, of_noneE, sof_ok, sof_exc, sof_bad, sof_ite, seq_nx, seq_rt, seq_exc, seq_bad, seq_ite, out_nx, out_rt, out_exc, out_ite, nox_ok, truth_bl, dif_true, dif_false, Ck.d, List.map_cons, List.map_nil, List.length_cons, List.length_nil, List.replicate, List.cons_append, List.nil_append, List.append_nil, List.getElem?_cons_zero, List.getElem?_cons_succ, List.set_cons_zero, List.set_cons_succ, Option.map_some, decide_true, decide_false, set2, set_len, asg_nm, asg_tp, asgs_nil, asgs_cons, Option.bind_some, wipeE, b_add, b_sub, k_lt, k_le, k_gt, k_ge, k_eq, k_ne, k_isN, k_isnN, s_lst, s_tup, Bool.and_true, Bool.true_and, if_true, if_false, reduceCtorEq, Nat.reduceAdd, Nat.reduceSub, Nat.reduceLT, Nat.reduceLeDiff, Nat.reduceEqDiff, Bool.and_false, Bool.false_and, Bool.not_true, Bool.not_false, Bool.false_eq_true, okk_bind, okk_ok, okk_nox, okk_out, oks_seq, oks_of, oks_nx, oks_rt, ixc0, ixc1, ixc2, ixc3, nat_c, Int.reduceSub, Int.reduceAdd, Int.reduceEq, Int.reduceLT, Int.reduceLE, Int.reduceMul, Bool.or_false, Bool.false_or, Bool.true_or, Bool.or_true, Bool.or_self, Bool.and_self, List.isEmpty_nil, List.isEmpty_cons, bq1, bq2, bq3, bq4, cond_true, cond_false, eq_self]); exact ⟨trivial, trivial, _, rfl⟩
        | true =>
          (try simp -implicitDefEqProofs only [runD, evSs_nil, evS, evE, evB, evA, evAV, evO, evC, evI, vw, Mini.start, bind_ok, bind_exc, bind_bad, bind_ite, of_somE, of_noneE, sof_ok, sof_exc, sof_bad, sof_ite, seq_nx, seq_rt, seq_exc, seq_bad, seq_ite, out_nx, out_rt, out_exc, out_ite, nox_ok, truth_bl, dif_true, dif_false, Ck.d, List.map_cons, List.map_nil, List.length_cons, List.length_nil, List.replicate, List.cons_append, List.nil_append, List.append_nil, List.getElem?_cons_zero, List.getElem?_cons_succ, List.set_cons_zero, List.set_cons_succ, Option.map_some, decide_true, decide_false, set2, set_len, asg_nm, asg_tp, asgs_nil, asgs_cons, Option.bind_some, wipeE, b_add, b_sub, k_lt, k_le, k_gt, k_ge, k_eq, k_ne, k_isN, k_isnN, s_lst, s_tup, Bool.and_true, Bool.true_and, if_true, if_false, reduceCtorEq, Nat.reduceAdd, Nat.reduceSub, Nat.reduceLT, Nat.reduceLeDiff, Nat.reduceEqDiff, Bool.and_false, Bool.false_and, Bool.not_true, Bool.not_false, Bool.false_eq_true, okk_bind, okk_ok, okk_nox, okk_out, oks_seq, oks_of, oks_nx, oks_rt, ixc0, ixc1, ixc2, ixc3, nat_c, Int.reduceSub, Int.reduceAdd, Int.reduceEq, Int.reduceLT, Int.reduceLE, Int.reduceMul, Bool.or_false, Bool.false_or, Bool.true_or, Bool.or_true, Bool.or_self, Bool.and_self, List.isEmpty_nil, List.isEmpty_cons, bq1, bq2, bq3, bq4, cond_true, cond_false, eq_self])
          rw [evSs_cons]; simp -implicitDefEqProofs only [runD, evSs_nil, evS, evE, evB, evA, evAV, evO, evC, evI, vw, Mini.start, bind_ok, bind_exc, bind_bad, bind_ite, of_somE, of_noneE, sof_ok, sof_exc, sof_bad, sof_ite, seq_nx, seq_rt, seq_exc, seq_bad, seq_ite, out_nx, out_rt, out_exc, out_ite, nox_ok, truth_bl, dif_true, dif_false, Ck.d, List.map_cons, List.map_nil, List.length_cons, List.length_nil, List.replicate, List.cons_append, List.nil_append, List.append_nil, List.getElem?_cons_zero, List.getElem?_cons_succ, List.set_cons_zero, List.set_cons_succ, Option.map_some, decide_true, decide_false, set2, set_len, asg_nm, asg_tp, asgs_nil, asgs_cons, Option.bind_some, wipeE, b_add, b_sub, k_lt, k_le, k_gt, k_ge, k_eq, k_ne, k_isN, k_isnN, s_lst, s_tup, Bool.and_true, Bool.true_and, if_true, if_false, reduceCtorEq, Nat.reduceAdd, Nat.reduceSub, Nat.reduceLT, Nat.reduceLeDiff, Nat.reduceEqDiff, Bool.and_false, Bool.false_and, Bool.not_true, Bool.not_false, Bool.false_eq_true, okk_bind, okk_ok, okk_nox, okk_out, oks_seq, oks_of, oks_nx, oks_rt, ixc0, ixc1, ixc2, ixc3, nat_c, Int.reduceSub, Int.reduceAdd, Int.reduceEq, Int.reduceLT, Int.reduceLE, Int.reduceMul, Bool.or_false, Bool.false_or, Bool.true_or, Bool.or_true, Bool.or_self, Bool.and_self, List.isEmpty_nil, List.isEmpty_cons, bq1, bq2, bq3, bq4, cond_true, cond_false, eq_self, ixD, eqS o4 o4, beq_self_eq_true, Bool.or_false, Bool.false_or, Bool.true_or, Bool.or_true, sb_land_plan, sb_land_and, sb_land_or, sb_land_not, sb_plan_land, sb_plan_and, sb_plan_or, sb_plan_not, sb_and_land, sb_and_plan, sb_and_or, sb_and_not, sb_or_land, sb_or_plan, sb_or_and, sb_or_not, sb_not_land, sb_not_plan, sb_not_and, sb_not_or]
          exact ⟨trivial, trivial⟩
      · intro d hd
        rw [find_bl (f := fun y => fitK k l p y)] at hd
        cases e : (x :: xs).any (fun y => fitK k l p y) with
        | true => rw [e] at hd; cases hd; exact ⟨rfl, rfl⟩
        | false => rw [e] at hd; cases hd
      · intro hd ρ hρ
        obtain ⟨z, rfl⟩ := hρ
        rw [find_bl (f := fun y => fitK k l p y)] at hd
        cases e : (x :: xs).any (fun y => fitK k l p y) with
        | true => rw [e] at hd; cases hd
        | false =>
          rw [evSs_cons]; simp -implicitDefEqProofs only [runD, evSs_nil, evS, evE, evB, evA, evAV, evO, evC, evI, vw, Mini.start, bind_ok, bind_exc, bind_bad, bind_ite, of_somE, of_noneE, sof_ok, sof_exc, sof_bad, sof_ite, seq_nx, seq_rt, seq_exc, seq_bad, seq_ite, out_nx, out_rt, out_exc, out_ite, nox_ok, truth_bl, dif_true, dif_false, Ck.d, List.map_cons, List.map_nil, List.length_cons, List.length_nil, List.replicate, List.cons_append, List.nil_append, List.append_nil, List.getElem?_cons_zero, List.getElem?_cons_succ, List.set_cons_zero, List.set_cons_succ, Option.map_some, decide_true, decide_false, set2, set_len, asg_nm, asg_tp, asgs_nil, asgs_cons, Option.bind_some, wipeE, b_add, b_sub, k_lt, k_le, k_gt, k_ge, k_eq, k_ne, k_isN, k_isnN, s_lst, s_tup, Bool.and_true, Bool.true_and, if_true, if_false, reduceCtorEq, Nat.reduceAdd, Nat.reduceSub, Nat.reduceLT, Nat.reduceLeDiff, Nat.reduceEqDiff, Bool.and_false, Bool.false_and, Bool.not_true, Bool.not_false, Bool.false_eq_true, okk_bind, okk_ok, okk_nox, okk_out, oks_seq, oks_of, oks_nx, oks_rt, ixc0, ixc1, ixc2, ixc3, nat_c, Int.reduceSub, Int.reduceAdd, Int.reduceEq, Int.reduceLT, Int.reduceLE, Int.reduceMul, Bool.or_false, Bool.false_or, Bool.true_or, Bool.or_true, Bool.or_self, Bool.and_self, List.isEmpty_nil, List.isEmpty_cons, bq1, bq2, bq3, bq4, cond_true, cond_false, eq_self, ixD, eqS o4 o3, beq_self_eq_true, Bool.or_false, Bool.false_or, Bool.true_or, Bool.or_true, sb_land_plan, sb_land_and, sb_land_or, sb_land_not, sb_plan_land, sb_plan_and, sb_plan_or, sb_plan_not, sb_and_land, sb_and_plan, sb_and_or, sb_and_not, sb_or_land, sb_or_plan, sb_or_and, sb_or_not, sb_not_land, sb_not_plan, sb_not_and, sb_not_or]
          exact ⟨trivial, trivial⟩
end
end Mini

/-! D7: kinds; conditions drawn. -/
namespace Mini
open PySem PySem.Spec L2
theorem kd_pf {q : Int × Int} (h : q ∈ K24) : 0 ≤ q.1 ∧ q.1 ≤ 5 ∧ 0 ≤ q.2 ∧ q.2 ≤ 3 := by
  obtain ⟨k, hk, rfl⟩ := List.mem_map.mp h
  have := List.mem_range.mp hk
  simp only
  omega
theorem K24_mem {l p : Int} (h : 0 ≤ l ∧ l ≤ 5 ∧ 0 ≤ p ∧ p ≤ 3) : (l, p) ∈ K24 := by
  refine List.mem_map.mpr ⟨(l * 4 + p).toNat, List.mem_range.mpr (by omega), ?_⟩
  refine Prod.ext ?_ ?_ <;> simp only <;> omega
theorem loopC_filter {g : D → Hd → Out (Option D)} {f : D → Bool} {h : Hd} {xs : List D} (k : ∀ x ∈ xs, g x h = .ok (bif f x then some x else none) h) : loopC g xs h = .ok (xs.filter f) h := by
  rw [loopC_map (f := fun x => bif f x then some x else none) k]
  congr 1
  induction xs with
  | nil => rfl
  | cons x r ih =>
    have ih := ih (fun y hy => k y (List.mem_cons_of_mem _ hy))
    rw [List.filterMap_cons, List.filter_cons]
    cases f x with
    | true => simp [ih]
    | false => simp [ih]
/-- of which kinds it holds -/
def dueD (d : D) : List (Int × Int) := K24.filter fun q => fitD q.1 q.2 d
def fitP (d : D) : D → Bool
  | .tup [.int l, .int p] => fitD l p d
  | _ => false
theorem dueD_map (d : D) : (K24.map kd).filter (fitP d) = (dueD d).map kd := by
  rw [List.filter_map]
  rfl
theorem due_len (d : D) : ((dueD d).map kd).length ≤ 1000000 := by
  rw [List.length_map]
  exact Nat.le_trans (List.length_filter_le _ _) (by decide)
section
variable {T : Nat → Option Df} (hT : Exts T)
include hT
theorem c_all_kinds (n : Nat) (h : Hd) : call T (n + 1) 19 [] h = .ok (.lst (K24.map kd)) h := by
  rw [callT hT (show T0 19 = some ir_all_kinds from rfl)]
  kernel_rfl
theorem c_law_kinds (n : Nat) (h : Hd) : call T (n + 1) 24 [] h = .ok (.lst (K24.map kd)) h := by
  rw [callT hT (show T0 24 = some ir_law_kinds from rfl)]
  kernel_rfl
theorem c_holds {n : Nat} {d : D} {h : Hd} {u l p : Int} (k : IsC d) (ku : IsU u l p) : call T (n + 11) 18 [d, .tup [.int u, .int l, .int p]] h = .ok (.bl (fitD l p d)) h := by
  rw [callT hT (show T0 18 = some ir_holds from rfl)]
  unfold ir_holds
  have e := c_fits hT l p 5 (n + 5) (h := h) k.fine (by have := k.p1; omega)
  (try simp -implicitDefEqProofs only [runD, evSs_nil, evS, evE, evB, evA, evAV, evO, evC, evI, vw, Mini.start, bind_ok, bind_exc, bind_bad, bind_ite, of_somE, of_noneE, sof_ok, sof_exc, sof_bad, sof_ite, seq_nx, seq_rt, seq_exc, seq_bad, seq_ite, out_nx, out_rt, out_exc, out_ite, nox_ok, truth_bl, dif_true, dif_false, Ck.d, List.map_cons, List.map_nil, List.length_cons, List.length_nil, List.replicate, List.cons_append, List.nil_append, List.append_nil, List.getElem?_cons_zero, List.getElem?_cons_succ, List.set_cons_zero, List.set_cons_succ, Option.map_some, decide_true, decide_false, set2, set_len, asg_nm, asg_tp, asgs_nil, asgs_cons, Option.bind_some, wipeE, b_add, b_sub, k_lt, k_le, k_gt, k_ge, k_eq, k_ne, k_isN, k_isnN, s_lst, s_tup, Bool.and_true, Bool.true_and, if_true, if_false, reduceCtorEq, Nat.reduceAdd, Nat.reduceSub, Nat.reduceLT, Nat.reduceLeDiff, Nat.reduceEqDiff, Bool.and_false, Bool.false_and, Bool.not_true, Bool.not_false, Bool.false_eq_true, okk_bind, okk_ok, okk_nox, okk_out, oks_seq, oks_of, oks_nx, oks_rt, ixc0, ixc1, ixc2, ixc3, nat_c, Int.reduceSub, Int.reduceAdd, Int.reduceEq, Int.reduceLT, Int.reduceLE, Int.reduceMul, Bool.or_false, Bool.false_or, Bool.true_or, Bool.or_true, Bool.or_self, Bool.and_self, List.isEmpty_nil, List.isEmpty_cons, bq1, bq2, bq3, bq4, cond_true, cond_false, eq_self])
  rw [evSs_cons]; simp -implicitDefEqProofs only [runD, evSs_nil, evS, evE, evB, evA, evAV, evO, evC, evI, vw, Mini.start, bind_ok, bind_exc, bind_bad, bind_ite, of_somE, of_noneE, sof_ok, sof_exc, sof_bad, sof_ite, seq_nx, seq_rt, seq_exc, seq_bad, seq_ite, out_nx, out_rt, out_exc, out_ite, nox_ok, truth_bl, dif_true, dif_false, Ck.d, List.map_cons, List.map_nil, List.length_cons, List.length_nil, List.replicate, List.cons_append, List.nil_append, List.append_nil, List.getElem?_cons_zero, List.getElem?_cons_succ, List.set_cons_zero, List.set_cons_succ, Option.map_some, decide_true, decide_false, set2, set_len, asg_nm, asg_tp, asgs_nil, asgs_cons, Option.bind_some, wipeE, b_add, b_sub, k_lt, k_le, k_gt, k_ge, k_eq, k_ne, k_isN, k_isnN, s_lst, s_tup, Bool.and_true, Bool.true_and, if_true, if_false, reduceCtorEq, Nat.reduceAdd, Nat.reduceSub, Nat.reduceLT, Nat.reduceLeDiff, Nat.reduceEqDiff, Bool.and_false, Bool.false_and, Bool.not_true, Bool.not_false, Bool.false_eq_true, okk_bind, okk_ok, okk_nox, okk_out, oks_seq, oks_of, oks_nx, oks_rt, ixc0, ixc1, ixc2, ixc3, nat_c, Int.reduceSub, Int.reduceAdd, Int.reduceEq, Int.reduceLT, Int.reduceLE, Int.reduceMul, Bool.or_false, Bool.false_or, Bool.true_or, Bool.or_true, Bool.or_self, Bool.and_self, List.isEmpty_nil, List.isEmpty_cons, bq1, bq2, bq3, bq4, cond_true, cond_false, eq_self, c_need_cond hT k]
  rw [evSs_cons]; simp -implicitDefEqProofs only [runD, evSs_nil, evS, evE, evB, evA, evAV, evO, evC, evI, vw, Mini.start, bind_ok, bind_exc, bind_bad, bind_ite, of_somE, of_noneE, sof_ok, sof_exc, sof_bad, sof_ite, seq_nx, seq_rt, seq_exc, seq_bad, seq_ite, out_nx, out_rt, out_exc, out_ite, nox_ok, truth_bl, dif_true, dif_false, Ck.d, List.map_cons, List.map_nil, List.length_cons, List.length_nil, List.replicate, List.cons_append, List.nil_append, List.append_nil, List.getElem?_cons_zero, List.getElem?_cons_succ, List.set_cons_zero, List.set_cons_succ, Option.map_some, decide_true, decide_false, set2, set_len, asg_nm, asg_tp, asgs_nil, asgs_cons, Option.bind_some, wipeE, b_add, b_sub, k_lt, k_le, k_gt, k_ge, k_eq, k_ne, k_isN, k_isnN, s_lst, s_tup, Bool.and_true, Bool.true_and, if_true, if_false, reduceCtorEq, Nat.reduceAdd, Nat.reduceSub, Nat.reduceLT, Nat.reduceLeDiff, Nat.reduceEqDiff, Bool.and_false, Bool.false_and, Bool.not_true, Bool.not_false, Bool.false_eq_true, okk_bind, okk_ok, okk_nox, okk_out, oks_seq, oks_of, oks_nx, oks_rt, ixc0, ixc1, ixc2, ixc3, nat_c, Int.reduceSub, Int.reduceAdd, Int.reduceEq, Int.reduceLT, Int.reduceLE, Int.reduceMul, Bool.or_false, Bool.false_or, Bool.true_or, Bool.or_true, Bool.or_self, Bool.and_self, List.isEmpty_nil, List.isEmpty_cons, bq1, bq2, bq3, bq4, cond_true, cond_false, eq_self, c_need_user hT ku]
  rw [evSs_cons]; simp -implicitDefEqProofs only [runD, evSs_nil, evS, evE, evB, evA, evAV, evO, evC, evI, vw, Mini.start, bind_ok, bind_exc, bind_bad, bind_ite, of_somE, of_noneE, sof_ok, sof_exc, sof_bad, sof_ite, seq_nx, seq_rt, seq_exc, seq_bad, seq_ite, out_nx, out_rt, out_exc, out_ite, nox_ok, truth_bl, dif_true, dif_false, Ck.d, List.map_cons, List.map_nil, List.length_cons, List.length_nil, List.replicate, List.cons_append, List.nil_append, List.append_nil, List.getElem?_cons_zero, List.getElem?_cons_succ, List.set_cons_zero, List.set_cons_succ, Option.map_some, decide_true, decide_false, set2, set_len, asg_nm, asg_tp, asgs_nil, asgs_cons, Option.bind_some, wipeE, b_add, b_sub, k_lt, k_le, k_gt, k_ge, k_eq, k_ne, k_isN, k_isnN, s_lst, s_tup, Bool.and_true, Bool.true_and, if_true, if_false, reduceCtorEq, Nat.reduceAdd, Nat.reduceSub, Nat.reduceLT, Nat.reduceLeDiff, Nat.reduceEqDiff, Bool.and_false, Bool.false_and, Bool.not_true, Bool.not_false, Bool.false_eq_true, okk_bind, okk_ok, okk_nox, okk_out, oks_seq, oks_of, oks_nx, oks_rt, ixc0, ixc1, ixc2, ixc3, nat_c, Int.reduceSub, Int.reduceAdd, Int.reduceEq, Int.reduceLT, Int.reduceLE, Int.reduceMul, Bool.or_false, Bool.false_or, Bool.true_or, Bool.or_true, Bool.or_self, Bool.and_self, List.isEmpty_nil, List.isEmpty_cons, bq1, bq2, bq3, bq4, cond_true, cond_false, eq_self, ixD, e]
theorem c_kinds {n : Nat} {d : D} {h : Hd} (k : IsC d) : call T (n + 11) 20 [d] h = .ok (.lst ((dueD d).map kd)) h := by
  rw [callT hT (show T0 20 = some ir_kinds from rfl)]
  unfold ir_kinds
  (try simp -implicitDefEqProofs only [runD, evSs_nil, evS, evE, evB, evA, evAV, evO, evC, evI, vw, Mini.start, bind_ok, bind_exc, bind_bad, bind_ite, of_somE, of_noneE, sof_ok, sof_exc, sof_bad, sof_ite, seq_nx, seq_rt, seq_exc, seq_bad, seq_ite, out_nx, out_rt, out_exc, out_ite, nox_ok, truth_bl, dif_true, dif_false, Ck.d, List.map_cons, List.map_nil, List.length_cons, List.length_nil, List.replicate, List.cons_append, List.nil_append, List.append_nil, List.getElem?_cons_zero, List.getElem?_cons_succ, List.set_cons_zero, List.set_cons_succ, Option.map_some, decide_true, decide_false, set2, set_len, asg_nm, asg_tp, asgs_nil, asgs_cons, Option.bind_some, wipeE, b_add, b_sub, k_lt, k_le, k_gt, k_ge, k_eq, k_ne, k_isN, k_isnN, s_lst, s_tup, Bool.and_true, Bool.true_and, if_true, if_false, reduceCtorEq, Nat.reduceAdd, Nat.reduceSub, Nat.reduceLT, Nat.reduceLeDiff, Nat.reduceEqDiff, Bool.and_false, Bool.false_and, Bool.not_true, Bool.not_false, Bool.false_eq_true, okk_bind, okk_ok, okk_nox, okk_out, oks_seq, oks_of, oks_nx, oks_rt, ixc0, ixc1, ixc2, ixc3, nat_c, Int.reduceSub, Int.reduceAdd, Int.reduceEq, Int.reduceLT, Int.reduceLE, Int.reduceMul, Bool.or_false, Bool.false_or, Bool.true_or, Bool.or_true, Bool.or_self, Bool.and_self, List.isEmpty_nil, List.isEmpty_cons, bq1, bq2, bq3, bq4, cond_true, cond_false, eq_self])
  rw [evSs_cons]; simp -implicitDefEqProofs only [runD, evSs_nil, evS, evE, evB, evA, evAV, evO, evC, evI, vw, Mini.start, bind_ok, bind_exc, bind_bad, bind_ite, of_somE, of_noneE, sof_ok, sof_exc, sof_bad, sof_ite, seq_nx, seq_rt, seq_exc, seq_bad, seq_ite, out_nx, out_rt, out_exc, out_ite, nox_ok, truth_bl, dif_true, dif_false, Ck.d, List.map_cons, List.map_nil, List.length_cons, List.length_nil, List.replicate, List.cons_append, List.nil_append, List.append_nil, List.getElem?_cons_zero, List.getElem?_cons_succ, List.set_cons_zero, List.set_cons_succ, Option.map_some, decide_true, decide_false, set2, set_len, asg_nm, asg_tp, asgs_nil, asgs_cons, Option.bind_some, wipeE, b_add, b_sub, k_lt, k_le, k_gt, k_ge, k_eq, k_ne, k_isN, k_isnN, s_lst, s_tup, Bool.and_true, Bool.true_and, if_true, if_false, reduceCtorEq, Nat.reduceAdd, Nat.reduceSub, Nat.reduceLT, Nat.reduceLeDiff, Nat.reduceEqDiff, Bool.and_false, Bool.false_and, Bool.not_true, Bool.not_false, Bool.false_eq_true, okk_bind, okk_ok, okk_nox, okk_out, oks_seq, oks_of, oks_nx, oks_rt, ixc0, ixc1, ixc2, ixc3, nat_c, Int.reduceSub, Int.reduceAdd, Int.reduceEq, Int.reduceLT, Int.reduceLE, Int.reduceMul, Bool.or_false, Bool.false_or, Bool.true_or, Bool.or_true, Bool.or_self, Bool.and_self, List.isEmpty_nil, List.isEmpty_cons, bq1, bq2, bq3, bq4, cond_true, cond_false, eq_self, c_need_cond hT k]
  rw [evSs_cons]; simp -implicitDefEqProofs only [runD, evSs_nil, evS, evE, evB, evA, evAV, evO, evC, evI, vw, Mini.start, bind_ok, bind_exc, bind_bad, bind_ite, of_somE, of_noneE, sof_ok, sof_exc, sof_bad, sof_ite, seq_nx, seq_rt, seq_exc, seq_bad, seq_ite, out_nx, out_rt, out_exc, out_ite, nox_ok, truth_bl, dif_true, dif_false, Ck.d, List.map_cons, List.map_nil, List.length_cons, List.length_nil, List.replicate, List.cons_append, List.nil_append, List.append_nil, List.getElem?_cons_zero, List.getElem?_cons_succ, List.set_cons_zero, List.set_cons_succ, Option.map_some, decide_true, decide_false, set2, set_len, asg_nm, asg_tp, asgs_nil, asgs_cons, Option.bind_some, wipeE, b_add, b_sub, k_lt, k_le, k_gt, k_ge, k_eq, k_ne, k_isN, k_isnN, s_lst, s_tup, Bool.and_true, Bool.true_and, if_true, if_false, reduceCtorEq, Nat.reduceAdd, Nat.reduceSub, Nat.reduceLT, Nat.reduceLeDiff, Nat.reduceEqDiff, Bool.and_false, Bool.false_and, Bool.not_true, Bool.not_false, Bool.false_eq_true, okk_bind, okk_ok, okk_nox, okk_out, oks_seq, oks_of, oks_nx, oks_rt, ixc0, ixc1, ixc2, ixc3, nat_c, Int.reduceSub, Int.reduceAdd, Int.reduceEq, Int.reduceLT, Int.reduceLE, Int.reduceMul, Bool.or_false, Bool.false_or, Bool.true_or, Bool.or_true, Bool.or_self, Bool.and_self, List.isEmpty_nil, List.isEmpty_cons, bq1, bq2, bq3, bq4, cond_true, cond_false, eq_self, c_all_kinds hT]
  rw [loopC_filter (f := fitP d) (fun y hy => by
    obtain ⟨⟨l, p⟩, hq, rfl⟩ := List.mem_map.mp hy
    have e := c_fits hT l p 5 (n + 5) (h := h) k.fine (by have := k.p1; omega)
    simp -implicitDefEqProofs only [runD, evSs_nil, evS, evE, evB, evA, evAV, evO, evC, evI, vw, Mini.start, bind_ok, bind_exc, bind_bad, bind_ite, of_somE, of_noneE, sof_ok, sof_exc, sof_bad, sof_ite, seq_nx, seq_rt, seq_exc, seq_bad, seq_ite, out_nx, out_rt, out_exc, out_ite, nox_ok, truth_bl, dif_true, dif_false, Ck.d, List.map_cons, List.map_nil, List.length_cons, List.length_nil, List.replicate, List.cons_append, List.nil_append, List.append_nil, List.getElem?_cons_zero, List.getElem?_cons_succ, List.set_cons_zero, List.set_cons_succ, Option.map_some, decide_true, decide_false, set2, set_len, asg_nm, asg_tp, asgs_nil, asgs_cons, Option.bind_some, wipeE, b_add, b_sub, k_lt, k_le, k_gt, k_ge, k_eq, k_ne, k_isN, k_isnN, s_lst, s_tup, Bool.and_true, Bool.true_and, if_true, if_false, reduceCtorEq, Nat.reduceAdd, Nat.reduceSub, Nat.reduceLT, Nat.reduceLeDiff, Nat.reduceEqDiff, Bool.and_false, Bool.false_and, Bool.not_true, Bool.not_false, Bool.false_eq_true, okk_bind, okk_ok, okk_nox, okk_out, oks_seq, oks_of, oks_nx, oks_rt, ixc0, ixc1, ixc2, ixc3, nat_c, Int.reduceSub, Int.reduceAdd, Int.reduceEq, Int.reduceLT, Int.reduceLE, Int.reduceMul, Bool.or_false, Bool.false_or, Bool.true_or, Bool.or_true, Bool.or_self, Bool.and_self, List.isEmpty_nil, List.isEmpty_cons, bq1, bq2, bq3, bq4, cond_true, cond_false, eq_self, kd, e, fitP, fitD]
    cases fitK 5 l p d <;> rfl), dueD_map]
  have := due_len d
  simp -implicitDefEqProofs only [runD, evSs_nil, evS, evE, evB, evA, evAV, evO, evC, evI, vw, Mini.start, bind_ok, bind_exc, bind_bad, bind_ite, of_somE, of_noneE, sof_ok, sof_exc, sof_bad, sof_ite, seq_nx, seq_rt, seq_exc, seq_bad, seq_ite, out_nx, out_rt, out_exc, out_ite, nox_ok, truth_bl, dif_true, dif_false, Ck.d, List.map_cons, List.map_nil, List.length_cons, List.length_nil, List.replicate, List.cons_append, List.nil_append, List.append_nil, List.getElem?_cons_zero, List.getElem?_cons_succ, List.set_cons_zero, List.set_cons_succ, Option.map_some, decide_true, decide_false, set2, set_len, asg_nm, asg_tp, asgs_nil, asgs_cons, Option.bind_some, wipeE, b_add, b_sub, k_lt, k_le, k_gt, k_ge, k_eq, k_ne, k_isN, k_isnN, s_lst, s_tup, Bool.and_true, Bool.true_and, if_true, if_false, reduceCtorEq, Nat.reduceAdd, Nat.reduceSub, Nat.reduceLT, Nat.reduceLeDiff, Nat.reduceEqDiff, Bool.and_false, Bool.false_and, Bool.not_true, Bool.not_false, Bool.false_eq_true, okk_bind, okk_ok, okk_nox, okk_out, oks_seq, oks_of, oks_nx, oks_rt, ixc0, ixc1, ixc2, ixc3, nat_c, Int.reduceSub, Int.reduceAdd, Int.reduceEq, Int.reduceLT, Int.reduceLE, Int.reduceMul, Bool.or_false, Bool.false_or, Bool.true_or, Bool.or_true, Bool.or_self, Bool.and_self, List.isEmpty_nil, List.isEmpty_cons, bq1, bq2, bq3, bq4, cond_true, cond_false, eq_self, this]
end
end Mini

/-! D8: conditions drawn. -/
namespace Mini
open PySem PySem.Spec L2
theorem rises_of : ∀ {ns : List Int}, ns.Pairwise (· < ·) → risesD (ns.map .int) = true
  | [], _ => rfl
  | [_], _ => rfl
  | x :: y :: r, h => by
    obtain ⟨h1, h2⟩ := List.pairwise_cons.mp h
    have ih := rises_of h2
    unfold risesD at ih ⊢
    simp only [List.map_cons, List.drop_succ_cons, List.drop_zero, List.zip_cons_cons, List.all_cons, ltD] at ih ⊢
    rw [ih, decide_eq_true (h1 y List.mem_cons_self)]
    rfl
theorem fines_ints (ns : List Int) : D.fines (ns.map D.int) = true := fines_all.mpr fun x hx => by
  obtain ⟨n, _, rfl⟩ := List.mem_map.mp hx
  rfl
theorem row_ok {m : Int} {ns : List Int} (h0 : ns ≠ []) (h1 : ns.Pairwise (· < ·)) (h2 : ∀ x ∈ ns, 0 ≤ x ∧ x < m) : rowD m (.tup (ns.map .int)) = true := by
  have e1 : (ns.map D.int).isEmpty = false := by cases ns with | nil => exact (h0 rfl).elim | cons _ _ => rfl
  have e2 : (ns.map D.int).all (isNumD 0 (m - 1)) = true := by
    rw [List.all_map, List.all_eq_true]
    intro x hx
    have := h2 x hx
    exact isNum_t this.1 (by omega)
  simp only [rowD, e1, e2, rises_of h1, Bool.not_false, Bool.and_self]
theorem fine_tup {xs : List D} (h : ∀ x ∈ xs, D.fine x = true) (l : xs.length ≤ 1000000) : (D.tup xs).fine = true := by
  show (D.fines xs && decide (xs.length ≤ 1000000)) = true
  rw [fines_all.mpr h, decide_eq_true l]
  rfl
section
variable {T : Nat → Option Df} (hT : Exts T) {n : Nat} {h : Hd}
include hT
theorem c_law_row {i : Nat} {a b m : Int} (r : Int) (hi : i < h.length) (hd : Dc (r + 8) a b) (hr : 0 ≤ r) (m0 : 0 < m) (m1 : m ≤ 6) :
    Okk (call T (n + 3) 21 [.ref i, .int m] (h.set i (dc a b))) (Dr h i r fun d => rowD m d = true ∧ d.fine = true) := by
  rw [callT hT (show T0 21 = some ir_law_row from rfl)]
  unfold ir_law_row
  have sm : small m = true := by simp [small]; omega
  (try simp -implicitDefEqProofs only [runD, evSs_nil, evS, evE, evB, evA, evAV, evO, evC, evI, vw, Mini.start, bind_ok, bind_exc, bind_bad, bind_ite, of_somE, of_noneE, sof_ok, sof_exc, sof_bad, sof_ite, seq_nx, seq_rt, seq_exc, seq_bad, seq_ite, out_nx, out_rt, out_exc, out_ite, nox_ok, truth_bl, dif_true, dif_false, Ck.d, List.map_cons, List.map_nil, List.length_cons, List.length_nil, List.replicate, List.cons_append, List.nil_append, List.append_nil, List.getElem?_cons_zero, List.getElem?_cons_succ, List.set_cons_zero, List.set_cons_succ, Option.map_some, decide_true, decide_false, set2, set_len, asg_nm, asg_tp, asgs_nil, asgs_cons, Option.bind_some, wipeE, b_add, b_sub, k_lt, k_le, k_gt, k_ge, k_eq, k_ne, k_isN, k_isnN, s_lst, s_tup, Bool.and_true, Bool.true_and, if_true, if_false, reduceCtorEq, Nat.reduceAdd, Nat.reduceSub, Nat.reduceLT, Nat.reduceLeDiff, Nat.reduceEqDiff, Bool.and_false, Bool.false_and, Bool.not_true, Bool.not_false, Bool.false_eq_true, okk_bind, okk_ok, okk_nox, okk_out, oks_seq, oks_of, oks_nx, oks_rt, ixc0, ixc1, ixc2, ixc3, nat_c, Int.reduceSub, Int.reduceAdd, Int.reduceEq, Int.reduceLT, Int.reduceLE, Int.reduceMul, Bool.or_false, Bool.false_or, Bool.true_or, Bool.or_true, Bool.or_self, Bool.and_self, List.isEmpty_nil, List.isEmpty_cons, bq1, bq2, bq3, bq4, cond_true, cond_false, eq_self])
  rw [evSs_cons]; simp -implicitDefEqProofs only [runD, evSs_nil, evS, evE, evB, evA, evAV, evO, evC, evI, vw, Mini.start, bind_ok, bind_exc, bind_bad, bind_ite, of_somE, of_noneE, sof_ok, sof_exc, sof_bad, sof_ite, seq_nx, seq_rt, seq_exc, seq_bad, seq_ite, out_nx, out_rt, out_exc, out_ite, nox_ok, truth_bl, dif_true, dif_false, Ck.d, List.map_cons, List.map_nil, List.length_cons, List.length_nil, List.replicate, List.cons_append, List.nil_append, List.append_nil, List.getElem?_cons_zero, List.getElem?_cons_succ, List.set_cons_zero, List.set_cons_succ, Option.map_some, decide_true, decide_false, set2, set_len, asg_nm, asg_tp, asgs_nil, asgs_cons, Option.bind_some, wipeE, b_add, b_sub, k_lt, k_le, k_gt, k_ge, k_eq, k_ne, k_isN, k_isnN, s_lst, s_tup, Bool.and_true, Bool.true_and, if_true, if_false, reduceCtorEq, Nat.reduceAdd, Nat.reduceSub, Nat.reduceLT, Nat.reduceLeDiff, Nat.reduceEqDiff, Bool.and_false, Bool.false_and, Bool.not_true, Bool.not_false, Bool.false_eq_true, okk_bind, okk_ok, okk_nox, okk_out, oks_seq, oks_of, oks_nx, oks_rt, ixc0, ixc1, ixc2, ixc3, nat_c, Int.reduceSub, Int.reduceAdd, Int.reduceEq, Int.reduceLT, Int.reduceLE, Int.reduceMul, Bool.or_false, Bool.false_or, Bool.true_or, Bool.or_true, Bool.or_self, Bool.and_self, List.isEmpty_nil, List.isEmpty_cons, bq1, bq2, bq3, bq4, cond_true, cond_false, eq_self, sm]
  refine (loopC_by (acc := []) (fun rest acc h' => ∃ a b, ∃ (j : Nat) (ns : List Int), h' = h.set i (dc a b) ∧ Dc (r + rest.length + 1) a b ∧ rest = (List.range' j rest.length).map (fun k => D.int ((0 : Int) + (k : Nat))) ∧ j + rest.length = m.toNat ∧ acc = ns.map .int ∧ ns.Pairwise (· < ·) ∧ (∀ x ∈ ns, 0 ≤ x ∧ x < j) ∧ ns.length ≤ j) (fun x rest acc h' p => ?_)
    ⟨a, b, 0, [], rfl, hd.less (by simp [rngD]; omega), by simp [rngD, List.range_eq_range'], by simp [rngD], rfl, .nil, by simp, by simp⟩).mono fun ys h' q => ?_
  · obtain ⟨a1, b1, j, ns, rfl, d1, p1, p2, p3, p4, p5, p6⟩ := p
    simp only [List.length_cons, List.range'_succ, List.map_cons, List.cons.injEq] at p1 p2 d1
    obtain ⟨rfl, p1⟩ := p1
    (try simp -implicitDefEqProofs only [runD, evSs_nil, evS, evE, evB, evA, evAV, evO, evC, evI, vw, Mini.start, bind_ok, bind_exc, bind_bad, bind_ite, of_somE, of_noneE, sof_ok, sof_exc, sof_bad, sof_ite, seq_nx, seq_rt, seq_exc, seq_bad, seq_ite, out_nx, out_rt, out_exc, out_ite, nox_ok, truth_bl, dif_true, dif_false, Ck.d, List.map_cons, List.map_nil, List.length_cons, List.length_nil, List.replicate, List.cons_append, List.nil_append, List.append_nil, List.getElem?_cons_zero, List.getElem?_cons_succ, List.set_cons_zero, List.set_cons_succ, Option.map_some, decide_true, decide_false, set2, set_len, asg_nm, asg_tp, asgs_nil, asgs_cons, Option.bind_some, wipeE, b_add, b_sub, k_lt, k_le, k_gt, k_ge, k_eq, k_ne, k_isN, k_isnN, s_lst, s_tup, Bool.and_true, Bool.true_and, if_true, if_false, reduceCtorEq, Nat.reduceAdd, Nat.reduceSub, Nat.reduceLT, Nat.reduceLeDiff, Nat.reduceEqDiff, Bool.and_false, Bool.false_and, Bool.not_true, Bool.not_false, Bool.false_eq_true, okk_bind, okk_ok, okk_nox, okk_out, oks_seq, oks_of, oks_nx, oks_rt, ixc0, ixc1, ixc2, ixc3, nat_c, Int.reduceSub, Int.reduceAdd, Int.reduceEq, Int.reduceLT, Int.reduceLE, Int.reduceMul, Bool.or_false, Bool.false_or, Bool.true_or, Bool.or_true, Bool.or_self, Bool.and_self, List.isEmpty_nil, List.isEmpty_cons, bq1, bq2, bq3, bq4, cond_true, cond_false, eq_self])
    refine (c_rollK hT (r + rest.length + 1) hi (d1.less (by omega)) (by omega) (by decide) (by decide)).mono fun d h' q => ?_
    obtain ⟨a2, b2, rfl, d2, v, rfl, v0, v1⟩ := q
    by_cases c : v = 0
    · subst c
      (try simp -implicitDefEqProofs only [runD, evSs_nil, evS, evE, evB, evA, evAV, evO, evC, evI, vw, Mini.start, bind_ok, bind_exc, bind_bad, bind_ite, of_somE, of_noneE, sof_ok, sof_exc, sof_bad, sof_ite, seq_nx, seq_rt, seq_exc, seq_bad, seq_ite, out_nx, out_rt, out_exc, out_ite, nox_ok, truth_bl, dif_true, dif_false, Ck.d, List.map_cons, List.map_nil, List.length_cons, List.length_nil, List.replicate, List.cons_append, List.nil_append, List.append_nil, List.getElem?_cons_zero, List.getElem?_cons_succ, List.set_cons_zero, List.set_cons_succ, Option.map_some, decide_true, decide_false, set2, set_len, asg_nm, asg_tp, asgs_nil, asgs_cons, Option.bind_some, wipeE, b_add, b_sub, k_lt, k_le, k_gt, k_ge, k_eq, k_ne, k_isN, k_isnN, s_lst, s_tup, Bool.and_true, Bool.true_and, if_true, if_false, reduceCtorEq, Nat.reduceAdd, Nat.reduceSub, Nat.reduceLT, Nat.reduceLeDiff, Nat.reduceEqDiff, Bool.and_false, Bool.false_and, Bool.not_true, Bool.not_false, Bool.false_eq_true, okk_bind, okk_ok, okk_nox, okk_out, oks_seq, oks_of, oks_nx, oks_rt, ixc0, ixc1, ixc2, ixc3, nat_c, Int.reduceSub, Int.reduceAdd, Int.reduceEq, Int.reduceLT, Int.reduceLE, Int.reduceMul, Bool.or_false, Bool.false_or, Bool.true_or, Bool.or_true, Bool.or_self, Bool.and_self, List.isEmpty_nil, List.isEmpty_cons, bq1, bq2, bq3, bq4, cond_true, cond_false, eq_self])
      refine ⟨a2, b2, j + 1, ns ++ [(j : Int)], rfl, d2, p1, by omega, by simp [p3], ?_, fun x hx => ?_, by simp; omega⟩
      · refine List.pairwise_append.mpr ⟨p4, by simp, fun x hx y hy => ?_⟩
        have := List.mem_singleton.mp hy
        have := p5 x hx
        omega
      · rcases List.mem_append.mp hx with hx | hx
        · have := p5 x hx
          omega
        · have := List.mem_singleton.mp hx
          omega
    · simp -implicitDefEqProofs only [runD, evSs_nil, evS, evE, evB, evA, evAV, evO, evC, evI, vw, Mini.start, bind_ok, bind_exc, bind_bad, bind_ite, of_somE, of_noneE, sof_ok, sof_exc, sof_bad, sof_ite, seq_nx, seq_rt, seq_exc, seq_bad, seq_ite, out_nx, out_rt, out_exc, out_ite, nox_ok, truth_bl, dif_true, dif_false, Ck.d, List.map_cons, List.map_nil, List.length_cons, List.length_nil, List.replicate, List.cons_append, List.nil_append, List.append_nil, List.getElem?_cons_zero, List.getElem?_cons_succ, List.set_cons_zero, List.set_cons_succ, Option.map_some, decide_true, decide_false, set2, set_len, asg_nm, asg_tp, asgs_nil, asgs_cons, Option.bind_some, wipeE, b_add, b_sub, k_lt, k_le, k_gt, k_ge, k_eq, k_ne, k_isN, k_isnN, s_lst, s_tup, Bool.and_true, Bool.true_and, if_true, if_false, reduceCtorEq, Nat.reduceAdd, Nat.reduceSub, Nat.reduceLT, Nat.reduceLeDiff, Nat.reduceEqDiff, Bool.and_false, Bool.false_and, Bool.not_true, Bool.not_false, Bool.false_eq_true, okk_bind, okk_ok, okk_nox, okk_out, oks_seq, oks_of, oks_nx, oks_rt, ixc0, ixc1, ixc2, ixc3, nat_c, Int.reduceSub, Int.reduceAdd, Int.reduceEq, Int.reduceLT, Int.reduceLE, Int.reduceMul, Bool.or_false, Bool.false_or, Bool.true_or, Bool.or_true, Bool.or_self, Bool.and_self, List.isEmpty_nil, List.isEmpty_cons, bq1, bq2, bq3, bq4, cond_true, cond_false, eq_self, c]
      refine ⟨a2, b2, j + 1, ns, rfl, d2, p1, by omega, by simp [p3], p4, fun x hx => ?_, by omega⟩
      have := p5 x hx
      omega
  · obtain ⟨a1, b1, j, ns, rfl, d1, p1, p2, p3, p4, p5, p6⟩ := q
    simp only [List.nil_append, List.length_nil] at p3 p2 d1
    subst p3
    have hl : (ns.map D.int).length ≤ 1000000 := by rw [List.length_map]; omega
    simp -implicitDefEqProofs only [runD, evSs_nil, evS, evE, evB, evA, evAV, evO, evC, evI, vw, Mini.start, bind_ok, bind_exc, bind_bad, bind_ite, of_somE, of_noneE, sof_ok, sof_exc, sof_bad, sof_ite, seq_nx, seq_rt, seq_exc, seq_bad, seq_ite, out_nx, out_rt, out_exc, out_ite, nox_ok, truth_bl, dif_true, dif_false, Ck.d, List.map_cons, List.map_nil, List.length_cons, List.length_nil, List.replicate, List.cons_append, List.nil_append, List.append_nil, List.getElem?_cons_zero, List.getElem?_cons_succ, List.set_cons_zero, List.set_cons_succ, Option.map_some, decide_true, decide_false, set2, set_len, asg_nm, asg_tp, asgs_nil, asgs_cons, Option.bind_some, wipeE, b_add, b_sub, k_lt, k_le, k_gt, k_ge, k_eq, k_ne, k_isN, k_isnN, s_lst, s_tup, Bool.and_true, Bool.true_and, if_true, if_false, reduceCtorEq, Nat.reduceAdd, Nat.reduceSub, Nat.reduceLT, Nat.reduceLeDiff, Nat.reduceEqDiff, Bool.and_false, Bool.false_and, Bool.not_true, Bool.not_false, Bool.false_eq_true, okk_bind, okk_ok, okk_nox, okk_out, oks_seq, oks_of, oks_nx, oks_rt, ixc0, ixc1, ixc2, ixc3, nat_c, Int.reduceSub, Int.reduceAdd, Int.reduceEq, Int.reduceLT, Int.reduceLE, Int.reduceMul, Bool.or_false, Bool.false_or, Bool.true_or, Bool.or_true, Bool.or_self, Bool.and_self, List.isEmpty_nil, List.isEmpty_cons, bq1, bq2, bq3, bq4, cond_true, cond_false, eq_self, hl]
    have e1 : cmpD .NotEq (.lst (ns.map D.int)) (.lst []) = some (!(ns.map D.int).isEmpty) := by
      rw [k_neD (okEq_nil (nrs_ints ns))]
      simp [D.eqv, eqvs_nil]
    cases ns with
    | nil =>
      rw [List.map_nil] at e1
      rw [evSs_cons]; simp -implicitDefEqProofs only [runD, evSs_nil, evS, evE, evB, evA, evAV, evO, evC, evI, vw, Mini.start, bind_ok, bind_exc, bind_bad, bind_ite, of_somE, of_noneE, sof_ok, sof_exc, sof_bad, sof_ite, seq_nx, seq_rt, seq_exc, seq_bad, seq_ite, out_nx, out_rt, out_exc, out_ite, nox_ok, truth_bl, dif_true, dif_false, Ck.d, List.map_cons, List.map_nil, List.length_cons, List.length_nil, List.replicate, List.cons_append, List.nil_append, List.append_nil, List.getElem?_cons_zero, List.getElem?_cons_succ, List.set_cons_zero, List.set_cons_succ, Option.map_some, decide_true, decide_false, set2, set_len, asg_nm, asg_tp, asgs_nil, asgs_cons, Option.bind_some, wipeE, b_add, b_sub, k_lt, k_le, k_gt, k_ge, k_eq, k_ne, k_isN, k_isnN, s_lst, s_tup, Bool.and_true, Bool.true_and, if_true, if_false, reduceCtorEq, Nat.reduceAdd, Nat.reduceSub, Nat.reduceLT, Nat.reduceLeDiff, Nat.reduceEqDiff, Bool.and_false, Bool.false_and, Bool.not_true, Bool.not_false, Bool.false_eq_true, okk_bind, okk_ok, okk_nox, okk_out, oks_seq, oks_of, oks_nx, oks_rt, ixc0, ixc1, ixc2, ixc3, nat_c, Int.reduceSub, Int.reduceAdd, Int.reduceEq, Int.reduceLT, Int.reduceLE, Int.reduceMul, Bool.or_false, Bool.false_or, Bool.true_or, Bool.or_true, Bool.or_self, Bool.and_self, List.isEmpty_nil, List.isEmpty_cons, bq1, bq2, bq3, bq4, cond_true, cond_false, eq_self, e1]
      refine (c_rollK hT r hi (d1.less (by omega)) (by omega) m0 (by omega)).mono fun d h' q => ?_
      obtain ⟨a2, b2, rfl, d2, v, rfl, v0, v1⟩ := q
      (try simp -implicitDefEqProofs only [runD, evSs_nil, evS, evE, evB, evA, evAV, evO, evC, evI, vw, Mini.start, bind_ok, bind_exc, bind_bad, bind_ite, of_somE, of_noneE, sof_ok, sof_exc, sof_bad, sof_ite, seq_nx, seq_rt, seq_exc, seq_bad, seq_ite, out_nx, out_rt, out_exc, out_ite, nox_ok, truth_bl, dif_true, dif_false, Ck.d, List.map_cons, List.map_nil, List.length_cons, List.length_nil, List.replicate, List.cons_append, List.nil_append, List.append_nil, List.getElem?_cons_zero, List.getElem?_cons_succ, List.set_cons_zero, List.set_cons_succ, Option.map_some, decide_true, decide_false, set2, set_len, asg_nm, asg_tp, asgs_nil, asgs_cons, Option.bind_some, wipeE, b_add, b_sub, k_lt, k_le, k_gt, k_ge, k_eq, k_ne, k_isN, k_isnN, s_lst, s_tup, Bool.and_true, Bool.true_and, if_true, if_false, reduceCtorEq, Nat.reduceAdd, Nat.reduceSub, Nat.reduceLT, Nat.reduceLeDiff, Nat.reduceEqDiff, Bool.and_false, Bool.false_and, Bool.not_true, Bool.not_false, Bool.false_eq_true, okk_bind, okk_ok, okk_nox, okk_out, oks_seq, oks_of, oks_nx, oks_rt, ixc0, ixc1, ixc2, ixc3, nat_c, Int.reduceSub, Int.reduceAdd, Int.reduceEq, Int.reduceLT, Int.reduceLE, Int.reduceMul, Bool.or_false, Bool.false_or, Bool.true_or, Bool.or_true, Bool.or_self, Bool.and_self, List.isEmpty_nil, List.isEmpty_cons, bq1, bq2, bq3, bq4, cond_true, cond_false, eq_self])
      refine ⟨a2, b2, rfl, d2, ?_, rfl⟩
      exact row_ok (ns := [v]) (by simp) (by simp) (by simpa using ⟨v0, v1⟩)
    | cons y ys =>
      rw [List.map_cons] at e1
      rw [evSs_cons]; simp -implicitDefEqProofs only [runD, evSs_nil, evS, evE, evB, evA, evAV, evO, evC, evI, vw, Mini.start, bind_ok, bind_exc, bind_bad, bind_ite, of_somE, of_noneE, sof_ok, sof_exc, sof_bad, sof_ite, seq_nx, seq_rt, seq_exc, seq_bad, seq_ite, out_nx, out_rt, out_exc, out_ite, nox_ok, truth_bl, dif_true, dif_false, Ck.d, List.map_cons, List.map_nil, List.length_cons, List.length_nil, List.replicate, List.cons_append, List.nil_append, List.append_nil, List.getElem?_cons_zero, List.getElem?_cons_succ, List.set_cons_zero, List.set_cons_succ, Option.map_some, decide_true, decide_false, set2, set_len, asg_nm, asg_tp, asgs_nil, asgs_cons, Option.bind_some, wipeE, b_add, b_sub, k_lt, k_le, k_gt, k_ge, k_eq, k_ne, k_isN, k_isnN, s_lst, s_tup, Bool.and_true, Bool.true_and, if_true, if_false, reduceCtorEq, Nat.reduceAdd, Nat.reduceSub, Nat.reduceLT, Nat.reduceLeDiff, Nat.reduceEqDiff, Bool.and_false, Bool.false_and, Bool.not_true, Bool.not_false, Bool.false_eq_true, okk_bind, okk_ok, okk_nox, okk_out, oks_seq, oks_of, oks_nx, oks_rt, ixc0, ixc1, ixc2, ixc3, nat_c, Int.reduceSub, Int.reduceAdd, Int.reduceEq, Int.reduceLT, Int.reduceLE, Int.reduceMul, Bool.or_false, Bool.false_or, Bool.true_or, Bool.or_true, Bool.or_self, Bool.and_self, List.isEmpty_nil, List.isEmpty_cons, bq1, bq2, bq3, bq4, cond_true, cond_false, eq_self, e1, show ∀ (h : Hd) xs, biD h .tuple [.lst xs] = some (.tup xs) from fun _ _ => rfl]
      refine ⟨a1, b1, rfl, d1.less (by omega), ?_, fine_tup (fines_all.mp (fines_ints (y :: ys))) hl⟩
      exact row_ok (ns := y :: ys) (by simp) p4 (fun x hx => by have := p5 x hx; omega)
end
def cap : Nat → Nat
  | 0 => 1
  | 1 => 4
  | 2 => 13
  | _ => 27
def cost (k : Nat) : Int := 10 * 4 ^ k
/-- what a drawn condition is -/
structure Cn (k : Nat) (d : D) : Prop where
  fine : d.fine = true
  p1 : 1 ≤ partsD k d
  p2 : partsD k d ≤ cap (k - 1)
theorem parts_s (k : Nat) (w : Str) (x : D) (xs : List D) : partsD (k + 1) (.tup (.str w :: x :: xs)) = if w == "land" then (if xs.isEmpty && rowD 6 x then 1 else 0) else if w == "plan" then (if xs.isEmpty && rowD 4 x then 1 else 0) else if goodW w (xs.length + 1) then sum0 ((x :: xs).map (partsD k)) else 0 := rfl
theorem cn_land {k : Nat} {x : D} (hx : rowD 6 x = true) (fx : x.fine = true) : Cn (k + 1) (.tup [.str "land", x]) := by
  have e : partsD (k + 1) (.tup [.str "land", x]) = 1 := by simp only [partsD, beq_self_eq_true, Bool.or_false, Bool.false_or, Bool.true_or, Bool.or_true, sb_land_plan, sb_land_and, sb_land_or, sb_land_not, sb_plan_land, sb_plan_and, sb_plan_or, sb_plan_not, sb_and_land, sb_and_plan, sb_and_or, sb_and_not, sb_or_land, sb_or_plan, sb_or_and, sb_or_not, sb_not_land, sb_not_plan, sb_not_and, sb_not_or, hx, List.isEmpty_nil, Bool.and_self, if_true]
  refine ⟨fine_tup (fun y hy => ?_) (show 2 ≤ 1000000 by decide), by rw [e]; decide, ?_⟩
  · simp at hy
    rcases hy with rfl | rfl
    · exact okS.1
    · exact fx
  · rw [e]
    match k with
    | 0 => decide
    | 1 => decide
    | 2 => decide
    | k + 3 => show 1 ≤ 27; decide
theorem cn_plan {k : Nat} {x : D} (hx : rowD 4 x = true) (fx : x.fine = true) : Cn (k + 1) (.tup [.str "plan", x]) := by
  have e : partsD (k + 1) (.tup [.str "plan", x]) = 1 := by simp only [partsD, beq_self_eq_true, Bool.or_false, Bool.false_or, Bool.true_or, Bool.or_true, sb_land_plan, sb_land_and, sb_land_or, sb_land_not, sb_plan_land, sb_plan_and, sb_plan_or, sb_plan_not, sb_and_land, sb_and_plan, sb_and_or, sb_and_not, sb_or_land, sb_or_plan, sb_or_and, sb_or_not, sb_not_land, sb_not_plan, sb_not_and, sb_not_or, hx, List.isEmpty_nil, Bool.and_self, if_true, Bool.false_eq_true, if_false]
  refine ⟨fine_tup (fun y hy => ?_) (show 2 ≤ 1000000 by decide), by rw [e]; decide, ?_⟩
  · simp at hy
    rcases hy with rfl | rfl
    · exact okS.2.1
    · exact fx
  · rw [e]
    match k with
    | 0 => decide
    | 1 => decide
    | 2 => decide
    | k + 3 => show 1 ≤ 27; decide
theorem sum0_1 {ps : List Nat} (h : ∀ p ∈ ps, 1 ≤ p) : sum0 ps = 1 + ps.sum := by
  unfold sum0
  rw [if_neg]
  intro z
  have := h 0 (List.contains_iff_mem.mp z)
  omega
theorem sum_le {ps : List Nat} {c : Nat} (h : ∀ p ∈ ps, p ≤ c) : ps.sum ≤ c * ps.length := by
  induction ps with
  | nil => simp
  | cons x r ih =>
    have a := h x List.mem_cons_self
    have b := ih fun p hp => h p (List.mem_cons_of_mem _ hp)
    simp only [List.sum_cons, List.length_cons, Nat.mul_succ]
    omega
theorem cn_many {j : Nat} {w : Str} {ys : List D} (hw : w = "and" ∨ w = "or") (h : ∀ y ∈ ys, Cn (j + 1) y) (l1 : 2 ≤ ys.length) (l2 : ys.length ≤ 3) (l3 : j + 1 = 3 → ys.length ≤ 2) (hj : j + 1 ≤ 3) : Cn (j + 1 + 1) (.tup (.str w :: ys)) := by
  match ys, l1, h with
  | y :: zs, l1, h =>
    have e : partsD (j + 1 + 1) (.tup (.str w :: y :: zs)) = sum0 ((y :: zs).map (partsD (j + 1))) := by
      have g : goodW w (zs.length + 1) = true := by
        have e1 : decide (2 ≤ zs.length + 1) = true := decide_eq_true l1
        have e2 : decide (zs.length + 1 ≤ 5) = true := decide_eq_true (Nat.le_trans l2 (by decide))
        rcases hw with rfl | rfl <;> simp only [goodW, e1, e2, beq_self_eq_true, Bool.or_false, Bool.false_or, Bool.true_or, Bool.or_true, sb_land_plan, sb_land_and, sb_land_or, sb_land_not, sb_plan_land, sb_plan_and, sb_plan_or, sb_plan_not, sb_and_land, sb_and_plan, sb_and_or, sb_and_not, sb_or_land, sb_or_plan, sb_or_and, sb_or_not, sb_not_land, sb_not_plan, sb_not_and, sb_not_or, Bool.and_self]
      rcases hw with rfl | rfl <;> (simp only [parts_s, beq_self_eq_true, Bool.or_false, Bool.false_or, Bool.true_or, Bool.or_true, sb_land_plan, sb_land_and, sb_land_or, sb_land_not, sb_plan_land, sb_plan_and, sb_plan_or, sb_plan_not, sb_and_land, sb_and_plan, sb_and_or, sb_and_not, sb_or_land, sb_or_plan, sb_or_and, sb_or_not, sb_not_land, sb_not_plan, sb_not_and, sb_not_or, Bool.false_eq_true, if_false, g, if_true])
    have e2 : partsD (j + 1 + 1) (.tup (.str w :: y :: zs)) = 1 + ((y :: zs).map (partsD (j + 1))).sum := by
      rw [e, sum0_1]
      intro p hp
      obtain ⟨z, hz, rfl⟩ := List.mem_map.mp hp
      exact (h z hz).p1
    refine ⟨fine_tup (fun z hz => ?_) ?_, by omega, ?_⟩
    · rcases List.mem_cons.mp hz with rfl | hz
      · rcases hw with rfl | rfl
        · exact okS.2.2.1
        · exact okS.2.2.2.1
      · exact (h z hz).fine
    · simp only [List.length_cons] at l2 ⊢; omega
    · rw [e2]
      have s := sum_le (ps := (y :: zs).map (partsD (j + 1))) (c := cap j) fun p hp => by
        obtain ⟨z, hz, rfl⟩ := List.mem_map.mp hp
        exact (h z hz).p2
      rw [List.length_map] at s
      have c2 : cap j * (y :: zs).length ≤ cap j * 3 := Nat.mul_le_mul_left _ l2
      match j, hj, l3 with
      | 0, _, _ => simp only [cap, Nat.add_sub_cancel] at *; omega
      | 1, _, _ => simp only [cap, Nat.add_sub_cancel] at *; omega
      | 2, _, l3 =>
        have c3 : cap 2 * (y :: zs).length ≤ cap 2 * 2 := Nat.mul_le_mul_left _ (l3 rfl)
        simp only [cap, Nat.add_sub_cancel] at *
        omega
theorem cn_not {j : Nat} {x : D} (h : Cn (j + 1) x) (hj : j + 1 ≤ 3) : Cn (j + 1 + 1) (.tup [.str "not", x]) := by
  have e : partsD (j + 1 + 1) (.tup [.str "not", x]) = 1 + partsD (j + 1) x := by
    have g : goodW "not" 1 = true := by decide +kernel
    have : sum0 ([x].map (partsD (j + 1))) = 1 + ([x].map (partsD (j + 1))).sum := sum0_1 fun p hp => by
      simp at hp
      rw [hp]
      exact h.p1
    simp only [parts_s, beq_self_eq_true, Bool.or_false, Bool.false_or, Bool.true_or, Bool.or_true, sb_land_plan, sb_land_and, sb_land_or, sb_land_not, sb_plan_land, sb_plan_and, sb_plan_or, sb_plan_not, sb_and_land, sb_and_plan, sb_and_or, sb_and_not, sb_or_land, sb_or_plan, sb_or_and, sb_or_not, sb_not_land, sb_not_plan, sb_not_and, sb_not_or, Bool.false_eq_true, if_false, g, if_true, List.length_nil, Nat.zero_add]
    rw [this]
    simp
  refine ⟨fine_tup (fun y hy => ?_) (show 2 ≤ 1000000 by decide), by rw [e]; omega, ?_⟩
  · simp at hy
    rcases hy with rfl | rfl
    · exact okS.2.2.2.2
    · exact h.fine
  · rw [e]
    have := h.p2
    match j, hj with
    | 0, _ => simp only [cap, Nat.add_sub_cancel] at *; omega
    | 1, _ => simp only [cap, Nat.add_sub_cancel] at *; omega
    | 2, _ => simp only [cap, Nat.add_sub_cancel] at *; omega
section
variable {T : Nat → Option Df} (hT : Exts T)
include hT
def CondSt (T : Nat → Option Df) (k : Nat) : Prop := ∀ (n : Nat) {h : Hd} {i : Nat} {a b : Int} (r : Int), i < h.length → Dc (r + cost (k + 1)) a b → 0 ≤ r →
    Okk (call T (n + k + 4) 22 [.ref i, .int (k + 1 : Nat)] (h.set i (dc a b))) (Dr h i r (Cn (k + 1)))
theorem cond_step {k : Nat} (hk : k ≤ 3) (IH : ∀ j, k = j + 1 → CondSt T j) : CondSt T k := by
  intro n h i a b r hi hd hr
  rw [callT hT (show T0 22 = some ir_law_condition from rfl)]
  unfold ir_law_condition
  obtain ⟨o1, o2, o3, o4, o5⟩ := okS
  have c40 : cost (k + 1) ≥ 10 + 3 * cost k := by
    unfold cost
    have : (4 : Int) ^ (k + 1) = 4 * 4 ^ k := by rw [Int.pow_succ, Int.mul_comm]
    have p : (1 : Int) ≤ 4 ^ k := by
      have := Int.pow_pos (n := 4) (m := k) (by decide)
      omega
    omega
  have ck : 10 ≤ cost k := by
    unfold cost
    have := Int.pow_pos (n := 4) (m := k) (by decide)
    omega
  (try simp -implicitDefEqProofs only [runD, evSs_nil, evS, evE, evB, evA, evAV, evO, evC, evI, vw, Mini.start, bind_ok, bind_exc, bind_bad, bind_ite, of_somE, of_noneE, sof_ok, sof_exc, sof_bad, sof_ite, seq_nx, seq_rt, seq_exc, seq_bad, seq_ite, out_nx, out_rt, out_exc, out_ite, nox_ok, truth_bl, dif_true, dif_false, Ck.d, List.map_cons, List.map_nil, List.length_cons, List.length_nil, List.replicate, List.cons_append, List.nil_append, List.append_nil, List.getElem?_cons_zero, List.getElem?_cons_succ, List.set_cons_zero, List.set_cons_succ, Option.map_some, decide_true, decide_false, set2, set_len, asg_nm, asg_tp, asgs_nil, asgs_cons, Option.bind_some, wipeE, b_add, b_sub, k_lt, k_le, k_gt, k_ge, k_eq, k_ne, k_isN, k_isnN, s_lst, s_tup, Bool.and_true, Bool.true_and, if_true, if_false, reduceCtorEq, Nat.reduceAdd, Nat.reduceSub, Nat.reduceLT, Nat.reduceLeDiff, Nat.reduceEqDiff, Bool.and_false, Bool.false_and, Bool.not_true, Bool.not_false, Bool.false_eq_true, okk_bind, okk_ok, okk_nox, okk_out, oks_seq, oks_of, oks_nx, oks_rt, ixc0, ixc1, ixc2, ixc3, nat_c, Int.reduceSub, Int.reduceAdd, Int.reduceEq, Int.reduceLT, Int.reduceLE, Int.reduceMul, Bool.or_false, Bool.false_or, Bool.true_or, Bool.or_true, Bool.or_self, Bool.and_self, List.isEmpty_nil, List.isEmpty_cons, bq1, bq2, bq3, bq4, cond_true, cond_false, eq_self])
  rw [evSs_cons]; (try simp -implicitDefEqProofs only [runD, evSs_nil, evS, evE, evB, evA, evAV, evO, evC, evI, vw, Mini.start, bind_ok, bind_exc, bind_bad, bind_ite, of_somE, of_noneE, sof_ok, sof_exc, sof_bad, sof_ite, seq_nx, seq_rt, seq_exc, seq_bad, seq_ite, out_nx, out_rt, out_exc, out_ite, nox_ok, truth_bl, dif_true, dif_false, Ck.d, List.map_cons, List.map_nil, List.length_cons, List.length_nil, List.replicate, List.cons_append, List.nil_append, List.append_nil, List.getElem?_cons_zero, List.getElem?_cons_succ, List.set_cons_zero, List.set_cons_succ, Option.map_some, decide_true, decide_false, set2, set_len, asg_nm, asg_tp, asgs_nil, asgs_cons, Option.bind_some, wipeE, b_add, b_sub, k_lt, k_le, k_gt, k_ge, k_eq, k_ne, k_isN, k_isnN, s_lst, s_tup, Bool.and_true, Bool.true_and, if_true, if_false, reduceCtorEq, Nat.reduceAdd, Nat.reduceSub, Nat.reduceLT, Nat.reduceLeDiff, Nat.reduceEqDiff, Bool.and_false, Bool.false_and, Bool.not_true, Bool.not_false, Bool.false_eq_true, okk_bind, okk_ok, okk_nox, okk_out, oks_seq, oks_of, oks_nx, oks_rt, ixc0, ixc1, ixc2, ixc3, nat_c, Int.reduceSub, Int.reduceAdd, Int.reduceEq, Int.reduceLT, Int.reduceLE, Int.reduceMul, Bool.or_false, Bool.false_or, Bool.true_or, Bool.or_true, Bool.or_self, Bool.and_self, List.isEmpty_nil, List.isEmpty_cons, bq1, bq2, bq3, bq4, cond_true, cond_false, eq_self])
  refine (c_rollK hT (n := n + k + 1) (r + cost (k + 1) - 1) hi (hd.less (by omega)) (by omega) (by decide) (by decide)).mono fun d h' q => ?_
  obtain ⟨a1, b1, rfl, d1, x, rfl, x0, x1⟩ := q
  (try simp -implicitDefEqProofs only [runD, evSs_nil, evS, evE, evB, evA, evAV, evO, evC, evI, vw, Mini.start, bind_ok, bind_exc, bind_bad, bind_ite, of_somE, of_noneE, sof_ok, sof_exc, sof_bad, sof_ite, seq_nx, seq_rt, seq_exc, seq_bad, seq_ite, out_nx, out_rt, out_exc, out_ite, nox_ok, truth_bl, dif_true, dif_false, Ck.d, List.map_cons, List.map_nil, List.length_cons, List.length_nil, List.replicate, List.cons_append, List.nil_append, List.append_nil, List.getElem?_cons_zero, List.getElem?_cons_succ, List.set_cons_zero, List.set_cons_succ, Option.map_some, decide_true, decide_false, set2, set_len, asg_nm, asg_tp, asgs_nil, asgs_cons, Option.bind_some, wipeE, b_add, b_sub, k_lt, k_le, k_gt, k_ge, k_eq, k_ne, k_isN, k_isnN, s_lst, s_tup, Bool.and_true, Bool.true_and, if_true, if_false, reduceCtorEq, Nat.reduceAdd, Nat.reduceSub, Nat.reduceLT, Nat.reduceLeDiff, Nat.reduceEqDiff, Bool.and_false, Bool.false_and, Bool.not_true, Bool.not_false, Bool.false_eq_true, okk_bind, okk_ok, okk_nox, okk_out, oks_seq, oks_of, oks_nx, oks_rt, ixc0, ixc1, ixc2, ixc3, nat_c, Int.reduceSub, Int.reduceAdd, Int.reduceEq, Int.reduceLT, Int.reduceLE, Int.reduceMul, Bool.or_false, Bool.false_or, Bool.true_or, Bool.or_true, Bool.or_self, Bool.and_self, List.isEmpty_nil, List.isEmpty_cons, bq1, bq2, bq3, bq4, cond_true, cond_false, eq_self])
  rw [evSs_cons];
  by_cases c : k = 0 ∨ x < 3
  · have g : ∀ (ρ : Ev) (h : Hd), ρ[1]? = some (some (.val (.int (k + 1 : Nat)))) → ρ[2]? = some (some (.val (.int x))) → evE (call T (n + k + 3)) (.boo .Or (.cons (.cmp .Lt (.var 1) (.k (.int 2))) (.cons (.cmp .Lt (.var 2) (.k (.int 3))) .nil))) ρ h = .ok (.bl true) h := by
      intro ρ h e1 e2
      simp only [evE, evB, e1, e2, vw, bind_ok, Ck.d, k_lt, of_somE, Option.map_some, truth_bl]
      by_cases c1 : ((k + 1 : Nat) : Int) < 2
      · simp only [c1, decide_true, if_true]
      · have c2 : x < 3 := by omega
        simp only [c1, c2, decide_true, decide_false, if_false, Bool.false_eq_true]
    simp -implicitDefEqProofs only [runD, evSs_nil, evS, evE, evB, evA, evAV, evO, evC, evI, vw, Mini.start, bind_ok, bind_exc, bind_bad, bind_ite, of_somE, of_noneE, sof_ok, sof_exc, sof_bad, sof_ite, seq_nx, seq_rt, seq_exc, seq_bad, seq_ite, out_nx, out_rt, out_exc, out_ite, nox_ok, truth_bl, dif_true, dif_false, Ck.d, List.map_cons, List.map_nil, List.length_cons, List.length_nil, List.replicate, List.cons_append, List.nil_append, List.append_nil, List.getElem?_cons_zero, List.getElem?_cons_succ, List.set_cons_zero, List.set_cons_succ, Option.map_some, decide_true, decide_false, set2, set_len, asg_nm, asg_tp, asgs_nil, asgs_cons, Option.bind_some, wipeE, b_add, b_sub, k_lt, k_le, k_gt, k_ge, k_eq, k_ne, k_isN, k_isnN, s_lst, s_tup, Bool.and_true, Bool.true_and, if_true, if_false, reduceCtorEq, Nat.reduceAdd, Nat.reduceSub, Nat.reduceLT, Nat.reduceLeDiff, Nat.reduceEqDiff, Bool.and_false, Bool.false_and, Bool.not_true, Bool.not_false, Bool.false_eq_true, okk_bind, okk_ok, okk_nox, okk_out, oks_seq, oks_of, oks_nx, oks_rt, ixc0, ixc1, ixc2, ixc3, nat_c, Int.reduceSub, Int.reduceAdd, Int.reduceEq, Int.reduceLT, Int.reduceLE, Int.reduceMul, Bool.or_false, Bool.false_or, Bool.true_or, Bool.or_true, Bool.or_self, Bool.and_self, List.isEmpty_nil, List.isEmpty_cons, bq1, bq2, bq3, bq4, cond_true, cond_false, eq_self, ↓g]
    rw [evSs_cons]; (try simp -implicitDefEqProofs only [runD, evSs_nil, evS, evE, evB, evA, evAV, evO, evC, evI, vw, Mini.start, bind_ok, bind_exc, bind_bad, bind_ite, of_somE, of_noneE, sof_ok, sof_exc, sof_bad, sof_ite, seq_nx, seq_rt, seq_exc, seq_bad, seq_ite, out_nx, out_rt, out_exc, out_ite, nox_ok, truth_bl, dif_true, dif_false, Ck.d, List.map_cons, List.map_nil, List.length_cons, List.length_nil, List.replicate, List.cons_append, List.nil_append, List.append_nil, List.getElem?_cons_zero, List.getElem?_cons_succ, List.set_cons_zero, List.set_cons_succ, Option.map_some, decide_true, decide_false, set2, set_len, asg_nm, asg_tp, asgs_nil, asgs_cons, Option.bind_some, wipeE, b_add, b_sub, k_lt, k_le, k_gt, k_ge, k_eq, k_ne, k_isN, k_isnN, s_lst, s_tup, Bool.and_true, Bool.true_and, if_true, if_false, reduceCtorEq, Nat.reduceAdd, Nat.reduceSub, Nat.reduceLT, Nat.reduceLeDiff, Nat.reduceEqDiff, Bool.and_false, Bool.false_and, Bool.not_true, Bool.not_false, Bool.false_eq_true, okk_bind, okk_ok, okk_nox, okk_out, oks_seq, oks_of, oks_nx, oks_rt, ixc0, ixc1, ixc2, ixc3, nat_c, Int.reduceSub, Int.reduceAdd, Int.reduceEq, Int.reduceLT, Int.reduceLE, Int.reduceMul, Bool.or_false, Bool.false_or, Bool.true_or, Bool.or_true, Bool.or_self, Bool.and_self, List.isEmpty_nil, List.isEmpty_cons, bq1, bq2, bq3, bq4, cond_true, cond_false, eq_self])
    refine (c_rollK hT (n := n + k + 1) (r + 8) hi (d1.less (by omega)) (by omega) (by decide) (by decide)).mono fun d h' q => ?_
    obtain ⟨a2, b2, rfl, d2, y, rfl, y0, y1⟩ := q
    have : y = 0 ∨ y = 1 := by omega
    rcases this with rfl | rfl
    · simp -implicitDefEqProofs only [runD, evSs_nil, evS, evE, evB, evA, evAV, evO, evC, evI, vw, Mini.start, bind_ok, bind_exc, bind_bad, bind_ite, of_somE, of_noneE, sof_ok, sof_exc, sof_bad, sof_ite, seq_nx, seq_rt, seq_exc, seq_bad, seq_ite, out_nx, out_rt, out_exc, out_ite, nox_ok, truth_bl, dif_true, dif_false, Ck.d, List.map_cons, List.map_nil, List.length_cons, List.length_nil, List.replicate, List.cons_append, List.nil_append, List.append_nil, List.getElem?_cons_zero, List.getElem?_cons_succ, List.set_cons_zero, List.set_cons_succ, Option.map_some, decide_true, decide_false, set2, set_len, asg_nm, asg_tp, asgs_nil, asgs_cons, Option.bind_some, wipeE, b_add, b_sub, k_lt, k_le, k_gt, k_ge, k_eq, k_ne, k_isN, k_isnN, s_lst, s_tup, Bool.and_true, Bool.true_and, if_true, if_false, reduceCtorEq, Nat.reduceAdd, Nat.reduceSub, Nat.reduceLT, Nat.reduceLeDiff, Nat.reduceEqDiff, Bool.and_false, Bool.false_and, Bool.not_true, Bool.not_false, Bool.false_eq_true, okk_bind, okk_ok, okk_nox, okk_out, oks_seq, oks_of, oks_nx, oks_rt, ixc0, ixc1, ixc2, ixc3, nat_c, Int.reduceSub, Int.reduceAdd, Int.reduceEq, Int.reduceLT, Int.reduceLE, Int.reduceMul, Bool.or_false, Bool.false_or, Bool.true_or, Bool.or_true, Bool.or_self, Bool.and_self, List.isEmpty_nil, List.isEmpty_cons, bq1, bq2, bq3, bq4, cond_true, cond_false, eq_self, ixD]
      rw [evSs_cons]; simp -implicitDefEqProofs only [runD, evSs_nil, evS, evE, evB, evA, evAV, evO, evC, evI, vw, Mini.start, bind_ok, bind_exc, bind_bad, bind_ite, of_somE, of_noneE, sof_ok, sof_exc, sof_bad, sof_ite, seq_nx, seq_rt, seq_exc, seq_bad, seq_ite, out_nx, out_rt, out_exc, out_ite, nox_ok, truth_bl, dif_true, dif_false, Ck.d, List.map_cons, List.map_nil, List.length_cons, List.length_nil, List.replicate, List.cons_append, List.nil_append, List.append_nil, List.getElem?_cons_zero, List.getElem?_cons_succ, List.set_cons_zero, List.set_cons_succ, Option.map_some, decide_true, decide_false, set2, set_len, asg_nm, asg_tp, asgs_nil, asgs_cons, Option.bind_some, wipeE, b_add, b_sub, k_lt, k_le, k_gt, k_ge, k_eq, k_ne, k_isN, k_isnN, s_lst, s_tup, Bool.and_true, Bool.true_and, if_true, if_false, reduceCtorEq, Nat.reduceAdd, Nat.reduceSub, Nat.reduceLT, Nat.reduceLeDiff, Nat.reduceEqDiff, Bool.and_false, Bool.false_and, Bool.not_true, Bool.not_false, Bool.false_eq_true, okk_bind, okk_ok, okk_nox, okk_out, oks_seq, oks_of, oks_nx, oks_rt, ixc0, ixc1, ixc2, ixc3, nat_c, Int.reduceSub, Int.reduceAdd, Int.reduceEq, Int.reduceLT, Int.reduceLE, Int.reduceMul, Bool.or_false, Bool.false_or, Bool.true_or, Bool.or_true, Bool.or_self, Bool.and_self, List.isEmpty_nil, List.isEmpty_cons, bq1, bq2, bq3, bq4, cond_true, cond_false, eq_self, eqS o1 o1, beq_self_eq_true, Bool.or_false, Bool.false_or, Bool.true_or, Bool.or_true, sb_land_plan, sb_land_and, sb_land_or, sb_land_not, sb_plan_land, sb_plan_and, sb_plan_or, sb_plan_not, sb_and_land, sb_and_plan, sb_and_or, sb_and_not, sb_or_land, sb_or_plan, sb_or_and, sb_or_not, sb_not_land, sb_not_plan, sb_not_and, sb_not_or]
      refine (c_law_row hT (n := n + k) r hi (d2.less (by omega)) hr (by decide) (by decide)).mono fun d h' q => ?_
      obtain ⟨a3, b3, rfl, d3, q1, q2⟩ := q
      (try simp -implicitDefEqProofs only [runD, evSs_nil, evS, evE, evB, evA, evAV, evO, evC, evI, vw, Mini.start, bind_ok, bind_exc, bind_bad, bind_ite, of_somE, of_noneE, sof_ok, sof_exc, sof_bad, sof_ite, seq_nx, seq_rt, seq_exc, seq_bad, seq_ite, out_nx, out_rt, out_exc, out_ite, nox_ok, truth_bl, dif_true, dif_false, Ck.d, List.map_cons, List.map_nil, List.length_cons, List.length_nil, List.replicate, List.cons_append, List.nil_append, List.append_nil, List.getElem?_cons_zero, List.getElem?_cons_succ, List.set_cons_zero, List.set_cons_succ, Option.map_some, decide_true, decide_false, set2, set_len, asg_nm, asg_tp, asgs_nil, asgs_cons, Option.bind_some, wipeE, b_add, b_sub, k_lt, k_le, k_gt, k_ge, k_eq, k_ne, k_isN, k_isnN, s_lst, s_tup, Bool.and_true, Bool.true_and, if_true, if_false, reduceCtorEq, Nat.reduceAdd, Nat.reduceSub, Nat.reduceLT, Nat.reduceLeDiff, Nat.reduceEqDiff, Bool.and_false, Bool.false_and, Bool.not_true, Bool.not_false, Bool.false_eq_true, okk_bind, okk_ok, okk_nox, okk_out, oks_seq, oks_of, oks_nx, oks_rt, ixc0, ixc1, ixc2, ixc3, nat_c, Int.reduceSub, Int.reduceAdd, Int.reduceEq, Int.reduceLT, Int.reduceLE, Int.reduceMul, Bool.or_false, Bool.false_or, Bool.true_or, Bool.or_true, Bool.or_self, Bool.and_self, List.isEmpty_nil, List.isEmpty_cons, bq1, bq2, bq3, bq4, cond_true, cond_false, eq_self])
      exact ⟨a3, b3, rfl, d3, cn_land q1 q2⟩
    · simp -implicitDefEqProofs only [runD, evSs_nil, evS, evE, evB, evA, evAV, evO, evC, evI, vw, Mini.start, bind_ok, bind_exc, bind_bad, bind_ite, of_somE, of_noneE, sof_ok, sof_exc, sof_bad, sof_ite, seq_nx, seq_rt, seq_exc, seq_bad, seq_ite, out_nx, out_rt, out_exc, out_ite, nox_ok, truth_bl, dif_true, dif_false, Ck.d, List.map_cons, List.map_nil, List.length_cons, List.length_nil, List.replicate, List.cons_append, List.nil_append, List.append_nil, List.getElem?_cons_zero, List.getElem?_cons_succ, List.set_cons_zero, List.set_cons_succ, Option.map_some, decide_true, decide_false, set2, set_len, asg_nm, asg_tp, asgs_nil, asgs_cons, Option.bind_some, wipeE, b_add, b_sub, k_lt, k_le, k_gt, k_ge, k_eq, k_ne, k_isN, k_isnN, s_lst, s_tup, Bool.and_true, Bool.true_and, if_true, if_false, reduceCtorEq, Nat.reduceAdd, Nat.reduceSub, Nat.reduceLT, Nat.reduceLeDiff, Nat.reduceEqDiff, Bool.and_false, Bool.false_and, Bool.not_true, Bool.not_false, Bool.false_eq_true, okk_bind, okk_ok, okk_nox, okk_out, oks_seq, oks_of, oks_nx, oks_rt, ixc0, ixc1, ixc2, ixc3, nat_c, Int.reduceSub, Int.reduceAdd, Int.reduceEq, Int.reduceLT, Int.reduceLE, Int.reduceMul, Bool.or_false, Bool.false_or, Bool.true_or, Bool.or_true, Bool.or_self, Bool.and_self, List.isEmpty_nil, List.isEmpty_cons, bq1, bq2, bq3, bq4, cond_true, cond_false, eq_self, ixD]
      rw [evSs_cons]; simp -implicitDefEqProofs only [runD, evSs_nil, evS, evE, evB, evA, evAV, evO, evC, evI, vw, Mini.start, bind_ok, bind_exc, bind_bad, bind_ite, of_somE, of_noneE, sof_ok, sof_exc, sof_bad, sof_ite, seq_nx, seq_rt, seq_exc, seq_bad, seq_ite, out_nx, out_rt, out_exc, out_ite, nox_ok, truth_bl, dif_true, dif_false, Ck.d, List.map_cons, List.map_nil, List.length_cons, List.length_nil, List.replicate, List.cons_append, List.nil_append, List.append_nil, List.getElem?_cons_zero, List.getElem?_cons_succ, List.set_cons_zero, List.set_cons_succ, Option.map_some, decide_true, decide_false, set2, set_len, asg_nm, asg_tp, asgs_nil, asgs_cons, Option.bind_some, wipeE, b_add, b_sub, k_lt, k_le, k_gt, k_ge, k_eq, k_ne, k_isN, k_isnN, s_lst, s_tup, Bool.and_true, Bool.true_and, if_true, if_false, reduceCtorEq, Nat.reduceAdd, Nat.reduceSub, Nat.reduceLT, Nat.reduceLeDiff, Nat.reduceEqDiff, Bool.and_false, Bool.false_and, Bool.not_true, Bool.not_false, Bool.false_eq_true, okk_bind, okk_ok, okk_nox, okk_out, oks_seq, oks_of, oks_nx, oks_rt, ixc0, ixc1, ixc2, ixc3, nat_c, Int.reduceSub, Int.reduceAdd, Int.reduceEq, Int.reduceLT, Int.reduceLE, Int.reduceMul, Bool.or_false, Bool.false_or, Bool.true_or, Bool.or_true, Bool.or_self, Bool.and_self, List.isEmpty_nil, List.isEmpty_cons, bq1, bq2, bq3, bq4, cond_true, cond_false, eq_self, eqS o2 o1, beq_self_eq_true, Bool.or_false, Bool.false_or, Bool.true_or, Bool.or_true, sb_land_plan, sb_land_and, sb_land_or, sb_land_not, sb_plan_land, sb_plan_and, sb_plan_or, sb_plan_not, sb_and_land, sb_and_plan, sb_and_or, sb_and_not, sb_or_land, sb_or_plan, sb_or_and, sb_or_not, sb_not_land, sb_not_plan, sb_not_and, sb_not_or]
      refine (c_law_row hT (n := n + k) r hi (d2.less (by omega)) hr (by decide) (by decide)).mono fun d h' q => ?_
      obtain ⟨a3, b3, rfl, d3, q1, q2⟩ := q
      (try simp -implicitDefEqProofs only [runD, evSs_nil, evS, evE, evB, evA, evAV, evO, evC, evI, vw, Mini.start, bind_ok, bind_exc, bind_bad, bind_ite, of_somE, of_noneE, sof_ok, sof_exc, sof_bad, sof_ite, seq_nx, seq_rt, seq_exc, seq_bad, seq_ite, out_nx, out_rt, out_exc, out_ite, nox_ok, truth_bl, dif_true, dif_false, Ck.d, List.map_cons, List.map_nil, List.length_cons, List.length_nil, List.replicate, List.cons_append, List.nil_append, List.append_nil, List.getElem?_cons_zero, List.getElem?_cons_succ, List.set_cons_zero, List.set_cons_succ, Option.map_some, decide_true, decide_false, set2, set_len, asg_nm, asg_tp, asgs_nil, asgs_cons, Option.bind_some, wipeE, b_add, b_sub, k_lt, k_le, k_gt, k_ge, k_eq, k_ne, k_isN, k_isnN, s_lst, s_tup, Bool.and_true, Bool.true_and, if_true, if_false, reduceCtorEq, Nat.reduceAdd, Nat.reduceSub, Nat.reduceLT, Nat.reduceLeDiff, Nat.reduceEqDiff, Bool.and_false, Bool.false_and, Bool.not_true, Bool.not_false, Bool.false_eq_true, okk_bind, okk_ok, okk_nox, okk_out, oks_seq, oks_of, oks_nx, oks_rt, ixc0, ixc1, ixc2, ixc3, nat_c, Int.reduceSub, Int.reduceAdd, Int.reduceEq, Int.reduceLT, Int.reduceLE, Int.reduceMul, Bool.or_false, Bool.false_or, Bool.true_or, Bool.or_true, Bool.or_self, Bool.and_self, List.isEmpty_nil, List.isEmpty_cons, bq1, bq2, bq3, bq4, cond_true, cond_false, eq_self])
      exact ⟨a3, b3, rfl, d3, cn_plan q1 q2⟩
  · obtain ⟨j, rfl⟩ : ∃ j, k = j + 1 := ⟨k - 1, by omega⟩
    have ih := IH j rfl
    have c1 : ¬ ((j + 1 + 1 : Nat) : Int) < 2 := by omega
    have c2 : ¬ x < 3 := by omega
    have cm : ((j + 1 + 1 : Nat) : Int) - 1 = (j + 1 : Nat) := by omega
    simp -implicitDefEqProofs only [runD, evSs_nil, evS, evE, evB, evA, evAV, evO, evC, evI, vw, Mini.start, bind_ok, bind_exc, bind_bad, bind_ite, of_somE, of_noneE, sof_ok, sof_exc, sof_bad, sof_ite, seq_nx, seq_rt, seq_exc, seq_bad, seq_ite, out_nx, out_rt, out_exc, out_ite, nox_ok, truth_bl, dif_true, dif_false, Ck.d, List.map_cons, List.map_nil, List.length_cons, List.length_nil, List.replicate, List.cons_append, List.nil_append, List.append_nil, List.getElem?_cons_zero, List.getElem?_cons_succ, List.set_cons_zero, List.set_cons_succ, Option.map_some, decide_true, decide_false, set2, set_len, asg_nm, asg_tp, asgs_nil, asgs_cons, Option.bind_some, wipeE, b_add, b_sub, k_lt, k_le, k_gt, k_ge, k_eq, k_ne, k_isN, k_isnN, s_lst, s_tup, Bool.and_true, Bool.true_and, if_true, if_false, reduceCtorEq, Nat.reduceAdd, Nat.reduceSub, Nat.reduceLT, Nat.reduceLeDiff, Nat.reduceEqDiff, Bool.and_false, Bool.false_and, Bool.not_true, Bool.not_false, Bool.false_eq_true, okk_bind, okk_ok, okk_nox, okk_out, oks_seq, oks_of, oks_nx, oks_rt, ixc0, ixc1, ixc2, ixc3, nat_c, Int.reduceSub, Int.reduceAdd, Int.reduceEq, Int.reduceLT, Int.reduceLE, Int.reduceMul, Bool.or_false, Bool.false_or, Bool.true_or, Bool.or_true, Bool.or_self, Bool.and_self, List.isEmpty_nil, List.isEmpty_cons, bq1, bq2, bq3, bq4, cond_true, cond_false, eq_self, c1, c2]
    rw [evSs_cons];
    by_cases c3 : x = 3
    · simp -implicitDefEqProofs only [runD, evSs_nil, evS, evE, evB, evA, evAV, evO, evC, evI, vw, Mini.start, bind_ok, bind_exc, bind_bad, bind_ite, of_somE, of_noneE, sof_ok, sof_exc, sof_bad, sof_ite, seq_nx, seq_rt, seq_exc, seq_bad, seq_ite, out_nx, out_rt, out_exc, out_ite, nox_ok, truth_bl, dif_true, dif_false, Ck.d, List.map_cons, List.map_nil, List.length_cons, List.length_nil, List.replicate, List.cons_append, List.nil_append, List.append_nil, List.getElem?_cons_zero, List.getElem?_cons_succ, List.set_cons_zero, List.set_cons_succ, Option.map_some, decide_true, decide_false, set2, set_len, asg_nm, asg_tp, asgs_nil, asgs_cons, Option.bind_some, wipeE, b_add, b_sub, k_lt, k_le, k_gt, k_ge, k_eq, k_ne, k_isN, k_isnN, s_lst, s_tup, Bool.and_true, Bool.true_and, if_true, if_false, reduceCtorEq, Nat.reduceAdd, Nat.reduceSub, Nat.reduceLT, Nat.reduceLeDiff, Nat.reduceEqDiff, Bool.and_false, Bool.false_and, Bool.not_true, Bool.not_false, Bool.false_eq_true, okk_bind, okk_ok, okk_nox, okk_out, oks_seq, oks_of, oks_nx, oks_rt, ixc0, ixc1, ixc2, ixc3, nat_c, Int.reduceSub, Int.reduceAdd, Int.reduceEq, Int.reduceLT, Int.reduceLE, Int.reduceMul, Bool.or_false, Bool.false_or, Bool.true_or, Bool.or_true, Bool.or_self, Bool.and_self, List.isEmpty_nil, List.isEmpty_cons, bq1, bq2, bq3, bq4, cond_true, cond_false, eq_self, c3]
      rw [evSs_cons]; simp -implicitDefEqProofs only [runD, evSs_nil, evS, evE, evB, evA, evAV, evO, evC, evI, vw, Mini.start, bind_ok, bind_exc, bind_bad, bind_ite, of_somE, of_noneE, sof_ok, sof_exc, sof_bad, sof_ite, seq_nx, seq_rt, seq_exc, seq_bad, seq_ite, out_nx, out_rt, out_exc, out_ite, nox_ok, truth_bl, dif_true, dif_false, Ck.d, List.map_cons, List.map_nil, List.length_cons, List.length_nil, List.replicate, List.cons_append, List.nil_append, List.append_nil, List.getElem?_cons_zero, List.getElem?_cons_succ, List.set_cons_zero, List.set_cons_succ, Option.map_some, decide_true, decide_false, set2, set_len, asg_nm, asg_tp, asgs_nil, asgs_cons, Option.bind_some, wipeE, b_add, b_sub, k_lt, k_le, k_gt, k_ge, k_eq, k_ne, k_isN, k_isnN, s_lst, s_tup, Bool.and_true, Bool.true_and, if_true, if_false, reduceCtorEq, Nat.reduceAdd, Nat.reduceSub, Nat.reduceLT, Nat.reduceLeDiff, Nat.reduceEqDiff, Bool.and_false, Bool.false_and, Bool.not_true, Bool.not_false, Bool.false_eq_true, okk_bind, okk_ok, okk_nox, okk_out, oks_seq, oks_of, oks_nx, oks_rt, ixc0, ixc1, ixc2, ixc3, nat_c, Int.reduceSub, Int.reduceAdd, Int.reduceEq, Int.reduceLT, Int.reduceLE, Int.reduceMul, Bool.or_false, Bool.false_or, Bool.true_or, Bool.or_true, Bool.or_self, Bool.and_self, List.isEmpty_nil, List.isEmpty_cons, bq1, bq2, bq3, bq4, cond_true, cond_false, eq_self, cm]
      refine (ih n r hi (d1.less (by omega)) hr).mono fun d h' q => ?_
      obtain ⟨a2, b2, rfl, d2, q⟩ := q
      (try simp -implicitDefEqProofs only [runD, evSs_nil, evS, evE, evB, evA, evAV, evO, evC, evI, vw, Mini.start, bind_ok, bind_exc, bind_bad, bind_ite, of_somE, of_noneE, sof_ok, sof_exc, sof_bad, sof_ite, seq_nx, seq_rt, seq_exc, seq_bad, seq_ite, out_nx, out_rt, out_exc, out_ite, nox_ok, truth_bl, dif_true, dif_false, Ck.d, List.map_cons, List.map_nil, List.length_cons, List.length_nil, List.replicate, List.cons_append, List.nil_append, List.append_nil, List.getElem?_cons_zero, List.getElem?_cons_succ, List.set_cons_zero, List.set_cons_succ, Option.map_some, decide_true, decide_false, set2, set_len, asg_nm, asg_tp, asgs_nil, asgs_cons, Option.bind_some, wipeE, b_add, b_sub, k_lt, k_le, k_gt, k_ge, k_eq, k_ne, k_isN, k_isnN, s_lst, s_tup, Bool.and_true, Bool.true_and, if_true, if_false, reduceCtorEq, Nat.reduceAdd, Nat.reduceSub, Nat.reduceLT, Nat.reduceLeDiff, Nat.reduceEqDiff, Bool.and_false, Bool.false_and, Bool.not_true, Bool.not_false, Bool.false_eq_true, okk_bind, okk_ok, okk_nox, okk_out, oks_seq, oks_of, oks_nx, oks_rt, ixc0, ixc1, ixc2, ixc3, nat_c, Int.reduceSub, Int.reduceAdd, Int.reduceEq, Int.reduceLT, Int.reduceLE, Int.reduceMul, Bool.or_false, Bool.false_or, Bool.true_or, Bool.or_true, Bool.or_self, Bool.and_self, List.isEmpty_nil, List.isEmpty_cons, bq1, bq2, bq3, bq4, cond_true, cond_false, eq_self])
      exact ⟨a2, b2, rfl, d2, cn_not q (by omega)⟩
    · simp -implicitDefEqProofs only [runD, evSs_nil, evS, evE, evB, evA, evAV, evO, evC, evI, vw, Mini.start, bind_ok, bind_exc, bind_bad, bind_ite, of_somE, of_noneE, sof_ok, sof_exc, sof_bad, sof_ite, seq_nx, seq_rt, seq_exc, seq_bad, seq_ite, out_nx, out_rt, out_exc, out_ite, nox_ok, truth_bl, dif_true, dif_false, Ck.d, List.map_cons, List.map_nil, List.length_cons, List.length_nil, List.replicate, List.cons_append, List.nil_append, List.append_nil, List.getElem?_cons_zero, List.getElem?_cons_succ, List.set_cons_zero, List.set_cons_succ, Option.map_some, decide_true, decide_false, set2, set_len, asg_nm, asg_tp, asgs_nil, asgs_cons, Option.bind_some, wipeE, b_add, b_sub, k_lt, k_le, k_gt, k_ge, k_eq, k_ne, k_isN, k_isnN, s_lst, s_tup, Bool.and_true, Bool.true_and, if_true, if_false, reduceCtorEq, Nat.reduceAdd, Nat.reduceSub, Nat.reduceLT, Nat.reduceLeDiff, Nat.reduceEqDiff, Bool.and_false, Bool.false_and, Bool.not_true, Bool.not_false, Bool.false_eq_true, okk_bind, okk_ok, okk_nox, okk_out, oks_seq, oks_of, oks_nx, oks_rt, ixc0, ixc1, ixc2, ixc3, nat_c, Int.reduceSub, Int.reduceAdd, Int.reduceEq, Int.reduceLT, Int.reduceLE, Int.reduceMul, Bool.or_false, Bool.false_or, Bool.true_or, Bool.or_true, Bool.or_self, Bool.and_self, List.isEmpty_nil, List.isEmpty_cons, bq1, bq2, bq3, bq4, cond_true, cond_false, eq_self, c3]
      rw [evSs_cons]; (try simp -implicitDefEqProofs only [runD, evSs_nil, evS, evE, evB, evA, evAV, evO, evC, evI, vw, Mini.start, bind_ok, bind_exc, bind_bad, bind_ite, of_somE, of_noneE, sof_ok, sof_exc, sof_bad, sof_ite, seq_nx, seq_rt, seq_exc, seq_bad, seq_ite, out_nx, out_rt, out_exc, out_ite, nox_ok, truth_bl, dif_true, dif_false, Ck.d, List.map_cons, List.map_nil, List.length_cons, List.length_nil, List.replicate, List.cons_append, List.nil_append, List.append_nil, List.getElem?_cons_zero, List.getElem?_cons_succ, List.set_cons_zero, List.set_cons_succ, Option.map_some, decide_true, decide_false, set2, set_len, asg_nm, asg_tp, asgs_nil, asgs_cons, Option.bind_some, wipeE, b_add, b_sub, k_lt, k_le, k_gt, k_ge, k_eq, k_ne, k_isN, k_isnN, s_lst, s_tup, Bool.and_true, Bool.true_and, if_true, if_false, reduceCtorEq, Nat.reduceAdd, Nat.reduceSub, Nat.reduceLT, Nat.reduceLeDiff, Nat.reduceEqDiff, Bool.and_false, Bool.false_and, Bool.not_true, Bool.not_false, Bool.false_eq_true, okk_bind, okk_ok, okk_nox, okk_out, oks_seq, oks_of, oks_nx, oks_rt, ixc0, ixc1, ixc2, ixc3, nat_c, Int.reduceSub, Int.reduceAdd, Int.reduceEq, Int.reduceLT, Int.reduceLE, Int.reduceMul, Bool.or_false, Bool.false_or, Bool.true_or, Bool.or_true, Bool.or_self, Bool.and_self, List.isEmpty_nil, List.isEmpty_cons, bq1, bq2, bq3, bq4, cond_true, cond_false, eq_self])
      refine (c_rollK hT (n := n + j + 2) (r + 3 * cost (j + 1)) hi (d1.less (by omega)) (by omega) (by decide) (by decide)).mono fun d h' q => ?_
      obtain ⟨a2, b2, rfl, d2, y, rfl, y0, y1⟩ := q
      have y2 : y / 2 = 0 ∨ y / 2 = 1 := by omega
      have yl : ∀ z : Int, z = 0 ∨ z = 1 → z.natAbs.log2 < 64 := fun z hz => lg (by decide) (by omega)
      obtain ⟨m, em, hm, hm2⟩ : ∃ m : Nat, (2 : Int) + y / 2 * (if decide (((j + 1 + 1 : Nat) : Int) < 4) = true then 1 else 0) = (m : Nat) ∧ (m = 2 ∨ m = 3) ∧ (j + 1 = 3 → m ≤ 2) := by
        by_cases c4 : ((j + 1 + 1 : Nat) : Int) < 4
        · rw [if_pos (decide_eq_true c4)]
          exact ⟨(2 + y / 2).toNat, by omega, by omega, by omega⟩
        · rw [if_neg (by rw [decide_eq_false c4]; decide)]
          exact ⟨2, by omega, by omega, by omega⟩
      have bm := b_mul (i := y / 2) (j := if decide (((j + 1 + 1 : Nat) : Int) < 4) = true then 1 else 0) (by
        have := yl _ y2
        have := yl (if decide (((j + 1 + 1 : Nat) : Int) < 4) = true then 1 else 0) (by split <;> simp)
        omega)
      simp -implicitDefEqProofs only [runD, evSs_nil, evS, evE, evB, evA, evAV, evO, evC, evI, vw, Mini.start, bind_ok, bind_exc, bind_bad, bind_ite, of_somE, of_noneE, sof_ok, sof_exc, sof_bad, sof_ite, seq_nx, seq_rt, seq_exc, seq_bad, seq_ite, out_nx, out_rt, out_exc, out_ite, nox_ok, truth_bl, dif_true, dif_false, Ck.d, List.map_cons, List.map_nil, List.length_cons, List.length_nil, List.replicate, List.cons_append, List.nil_append, List.append_nil, List.getElem?_cons_zero, List.getElem?_cons_succ, List.set_cons_zero, List.set_cons_succ, Option.map_some, decide_true, decide_false, set2, set_len, asg_nm, asg_tp, asgs_nil, asgs_cons, Option.bind_some, wipeE, b_add, b_sub, k_lt, k_le, k_gt, k_ge, k_eq, k_ne, k_isN, k_isnN, s_lst, s_tup, Bool.and_true, Bool.true_and, if_true, if_false, reduceCtorEq, Nat.reduceAdd, Nat.reduceSub, Nat.reduceLT, Nat.reduceLeDiff, Nat.reduceEqDiff, Bool.and_false, Bool.false_and, Bool.not_true, Bool.not_false, Bool.false_eq_true, okk_bind, okk_ok, okk_nox, okk_out, oks_seq, oks_of, oks_nx, oks_rt, ixc0, ixc1, ixc2, ixc3, nat_c, Int.reduceSub, Int.reduceAdd, Int.reduceEq, Int.reduceLT, Int.reduceLE, Int.reduceMul, Bool.or_false, Bool.false_or, Bool.true_or, Bool.or_true, Bool.or_self, Bool.and_self, List.isEmpty_nil, List.isEmpty_cons, bq1, bq2, bq3, bq4, cond_true, cond_false, eq_self, b_fdiv (i := y) (j := 2) (by decide) (by decide +kernel), int_bl, bm, em]
      have sm : small (m : Int) = true := by simp [small]; omega
      obtain ⟨w, ew, hw⟩ : ∃ w : Str, (∀ h : Hd, ixD h (.lst [.str "and", .str "or"]) (.int (x % 2)) = some (.str w)) ∧ (w = "and" ∨ w = "or") := by
        have : x % 2 = 0 ∨ x % 2 = 1 := by omega
        rcases this with e | e <;> rw [e]
        · exact ⟨_, fun _ => rfl, .inl rfl⟩
        · exact ⟨_, fun _ => rfl, .inr rfl⟩
      rw [evSs_cons]; simp -implicitDefEqProofs only [runD, evSs_nil, evS, evE, evB, evA, evAV, evO, evC, evI, vw, Mini.start, bind_ok, bind_exc, bind_bad, bind_ite, of_somE, of_noneE, sof_ok, sof_exc, sof_bad, sof_ite, seq_nx, seq_rt, seq_exc, seq_bad, seq_ite, out_nx, out_rt, out_exc, out_ite, nox_ok, truth_bl, dif_true, dif_false, Ck.d, List.map_cons, List.map_nil, List.length_cons, List.length_nil, List.replicate, List.cons_append, List.nil_append, List.append_nil, List.getElem?_cons_zero, List.getElem?_cons_succ, List.set_cons_zero, List.set_cons_succ, Option.map_some, decide_true, decide_false, set2, set_len, asg_nm, asg_tp, asgs_nil, asgs_cons, Option.bind_some, wipeE, b_add, b_sub, k_lt, k_le, k_gt, k_ge, k_eq, k_ne, k_isN, k_isnN, s_lst, s_tup, Bool.and_true, Bool.true_and, if_true, if_false, reduceCtorEq, Nat.reduceAdd, Nat.reduceSub, Nat.reduceLT, Nat.reduceLeDiff, Nat.reduceEqDiff, Bool.and_false, Bool.false_and, Bool.not_true, Bool.not_false, Bool.false_eq_true, okk_bind, okk_ok, okk_nox, okk_out, oks_seq, oks_of, oks_nx, oks_rt, ixc0, ixc1, ixc2, ixc3, nat_c, Int.reduceSub, Int.reduceAdd, Int.reduceEq, Int.reduceLT, Int.reduceLE, Int.reduceMul, Bool.or_false, Bool.false_or, Bool.true_or, Bool.or_true, Bool.or_self, Bool.and_self, List.isEmpty_nil, List.isEmpty_cons, bq1, bq2, bq3, bq4, cond_true, cond_false, eq_self, b_mod (i := x) (j := 2) (by decide), ew, sm, cm]
      refine (loopC_by (acc := []) (fun rest acc h' => ∃ a b, h' = h.set i (dc a b) ∧ Dc (r + cost (j + 1) * rest.length) a b ∧ acc.length + rest.length = m ∧ ∀ d ∈ acc, Cn (j + 1) d) (fun x rest acc h' p => ?_)
        ⟨a2, b2, rfl, d2.less ?_, by simp [rngD], by simp⟩).mono fun ys h' q => ?_
      · obtain ⟨a3, b3, rfl, d3, p1, p2⟩ := p
        (try simp -implicitDefEqProofs only [runD, evSs_nil, evS, evE, evB, evA, evAV, evO, evC, evI, vw, Mini.start, bind_ok, bind_exc, bind_bad, bind_ite, of_somE, of_noneE, sof_ok, sof_exc, sof_bad, sof_ite, seq_nx, seq_rt, seq_exc, seq_bad, seq_ite, out_nx, out_rt, out_exc, out_ite, nox_ok, truth_bl, dif_true, dif_false, Ck.d, List.map_cons, List.map_nil, List.length_cons, List.length_nil, List.replicate, List.cons_append, List.nil_append, List.append_nil, List.getElem?_cons_zero, List.getElem?_cons_succ, List.set_cons_zero, List.set_cons_succ, Option.map_some, decide_true, decide_false, set2, set_len, asg_nm, asg_tp, asgs_nil, asgs_cons, Option.bind_some, wipeE, b_add, b_sub, k_lt, k_le, k_gt, k_ge, k_eq, k_ne, k_isN, k_isnN, s_lst, s_tup, Bool.and_true, Bool.true_and, if_true, if_false, reduceCtorEq, Nat.reduceAdd, Nat.reduceSub, Nat.reduceLT, Nat.reduceLeDiff, Nat.reduceEqDiff, Bool.and_false, Bool.false_and, Bool.not_true, Bool.not_false, Bool.false_eq_true, okk_bind, okk_ok, okk_nox, okk_out, oks_seq, oks_of, oks_nx, oks_rt, ixc0, ixc1, ixc2, ixc3, nat_c, Int.reduceSub, Int.reduceAdd, Int.reduceEq, Int.reduceLT, Int.reduceLE, Int.reduceMul, Bool.or_false, Bool.false_or, Bool.true_or, Bool.or_true, Bool.or_self, Bool.and_self, List.isEmpty_nil, List.isEmpty_cons, bq1, bq2, bq3, bq4, cond_true, cond_false, eq_self])
        have e : cost (j + 1) * ((x :: rest).length : Nat) = cost (j + 1) * (rest.length : Nat) + cost (j + 1) := by
          rw [List.length_cons, Int.natCast_add, Int.mul_add]
          omega
        have pz : 0 ≤ cost (j + 1) * (rest.length : Nat) := Int.mul_nonneg (by omega) (by omega)
        refine (ih n (r + cost (j + 1) * rest.length) hi (d3.less (by omega)) (by omega)).mono fun d h' q => ?_
        obtain ⟨a4, b4, rfl, d4, q⟩ := q
        (try simp -implicitDefEqProofs only [runD, evSs_nil, evS, evE, evB, evA, evAV, evO, evC, evI, vw, Mini.start, bind_ok, bind_exc, bind_bad, bind_ite, of_somE, of_noneE, sof_ok, sof_exc, sof_bad, sof_ite, seq_nx, seq_rt, seq_exc, seq_bad, seq_ite, out_nx, out_rt, out_exc, out_ite, nox_ok, truth_bl, dif_true, dif_false, Ck.d, List.map_cons, List.map_nil, List.length_cons, List.length_nil, List.replicate, List.cons_append, List.nil_append, List.append_nil, List.getElem?_cons_zero, List.getElem?_cons_succ, List.set_cons_zero, List.set_cons_succ, Option.map_some, decide_true, decide_false, set2, set_len, asg_nm, asg_tp, asgs_nil, asgs_cons, Option.bind_some, wipeE, b_add, b_sub, k_lt, k_le, k_gt, k_ge, k_eq, k_ne, k_isN, k_isnN, s_lst, s_tup, Bool.and_true, Bool.true_and, if_true, if_false, reduceCtorEq, Nat.reduceAdd, Nat.reduceSub, Nat.reduceLT, Nat.reduceLeDiff, Nat.reduceEqDiff, Bool.and_false, Bool.false_and, Bool.not_true, Bool.not_false, Bool.false_eq_true, okk_bind, okk_ok, okk_nox, okk_out, oks_seq, oks_of, oks_nx, oks_rt, ixc0, ixc1, ixc2, ixc3, nat_c, Int.reduceSub, Int.reduceAdd, Int.reduceEq, Int.reduceLT, Int.reduceLE, Int.reduceMul, Bool.or_false, Bool.false_or, Bool.true_or, Bool.or_true, Bool.or_self, Bool.and_self, List.isEmpty_nil, List.isEmpty_cons, bq1, bq2, bq3, bq4, cond_true, cond_false, eq_self])
        refine ⟨a4, b4, rfl, d4, by simp at p1 ⊢; omega, fun z hz => ?_⟩
        rcases List.mem_append.mp hz with hz | hz
        · exact p2 z hz
        · have : z = d := by simpa using hz
          rw [this]; exact q
      · simp only [rngD, List.length_map, List.length_range, Int.toNat_natCast]
        have : cost (j + 1) * (m : Int) ≤ cost (j + 1) * 3 := Int.mul_le_mul_of_nonneg_left (by omega) (by omega)
        omega
      · obtain ⟨a3, b3, rfl, d3, p1, p2⟩ := q
        simp only [List.nil_append, List.length_nil, Nat.add_zero] at p1 p2
        have hl : ys.length ≤ 1000000 := by omega
        have hl2 : [D.str w].length + ys.length ≤ 1000000 := by simp; omega
        simp -implicitDefEqProofs only [runD, evSs_nil, evS, evE, evB, evA, evAV, evO, evC, evI, vw, Mini.start, bind_ok, bind_exc, bind_bad, bind_ite, of_somE, of_noneE, sof_ok, sof_exc, sof_bad, sof_ite, seq_nx, seq_rt, seq_exc, seq_bad, seq_ite, out_nx, out_rt, out_exc, out_ite, nox_ok, truth_bl, dif_true, dif_false, Ck.d, List.map_cons, List.map_nil, List.length_cons, List.length_nil, List.replicate, List.cons_append, List.nil_append, List.append_nil, List.getElem?_cons_zero, List.getElem?_cons_succ, List.set_cons_zero, List.set_cons_succ, Option.map_some, decide_true, decide_false, set2, set_len, asg_nm, asg_tp, asgs_nil, asgs_cons, Option.bind_some, wipeE, b_add, b_sub, k_lt, k_le, k_gt, k_ge, k_eq, k_ne, k_isN, k_isnN, s_lst, s_tup, Bool.and_true, Bool.true_and, if_true, if_false, reduceCtorEq, Nat.reduceAdd, Nat.reduceSub, Nat.reduceLT, Nat.reduceLeDiff, Nat.reduceEqDiff, Bool.and_false, Bool.false_and, Bool.not_true, Bool.not_false, Bool.false_eq_true, okk_bind, okk_ok, okk_nox, okk_out, oks_seq, oks_of, oks_nx, oks_rt, ixc0, ixc1, ixc2, ixc3, nat_c, Int.reduceSub, Int.reduceAdd, Int.reduceEq, Int.reduceLT, Int.reduceLE, Int.reduceMul, Bool.or_false, Bool.false_or, Bool.true_or, Bool.or_true, Bool.or_self, Bool.and_self, List.isEmpty_nil, List.isEmpty_cons, bq1, bq2, bq3, bq4, cond_true, cond_false, eq_self, hl, show ∀ (h : Hd) xs, biD h .tuple [.lst xs] = some (.tup xs) from fun _ _ => rfl, b_tup hl2]
        exact ⟨a3, b3, rfl, d3.less (by simp), cn_many hw p2 (by omega) (by omega) (by omega) (by omega)⟩
theorem c_law_cond (k : Nat) (hk : k ≤ 3) : CondSt T k := by
  induction k with
  | zero =>
    refine cond_step hT hk fun j e => ?_
    omega
  | succ k ih =>
    refine cond_step hT hk fun j e => ?_
    have : k = j := by omega
    subst this
    exact ih (by omega)
end
end Mini

/-! D9: laws about conditions. -/
namespace Mini
open PySem PySem.Spec L2
mutual
theorem D.eqv_refl : ∀ {d : D}, D.nr d = true → D.eqv d d = true
  | .non, _ => rfl
  | .bl b, _ => by simp [D.eqv]
  | .int _, _ => by simp [D.eqv]
  | .str _, _ => by simp [D.eqv]
  | .tup _, h => D.eqvs_refl (xs := _) h
  | .lst _, h => D.eqvs_refl (xs := _) h
  | .ref _, h => nomatch h
theorem D.eqvs_refl : ∀ {xs : List D}, D.nrs xs = true → D.eqvs xs xs = true
  | [], _ => rfl
  | x :: r, h => by
    show (D.eqv x x && D.eqvs r r) = true
    rw [D.eqv_refl (pair_and h).1, D.eqvs_refl (pair_and h).2]
    rfl
end
theorem ne_self {d : D} (h : D.nr d = true) (h2 : D.dp d ≤ 60) : cmpD .NotEq d d = some false := by
  rw [k_neD (by simp [D.okEq, h, h2]), D.eqv_refl h]
  rfl
theorem nrs_kd (L : List (Int × Int)) : D.nrs (L.map kd) = true := nrs_all.mpr fun x hx => by
  obtain ⟨q, _, rfl⟩ := List.mem_map.mp hx
  rfl
theorem dps_kd (L : List (Int × Int)) : D.dps (L.map kd) ≤ 1 := dps_all.mpr fun x hx => by
  obtain ⟨q, _, rfl⟩ := List.mem_map.mp hx
  exact Nat.le_refl _
theorem in_kd (l p : Int) (L : List (Int × Int)) : cmpD .In (.tup [.int l, .int p]) (.lst (L.map kd)) = some (L.contains (l, p)) := by
  have h1 : D.nr (.tup [.int l, .int p]) = true := rfl
  have h2 : min (D.dps (L.map kd)) (D.dp (.tup [.int l, .int p])) ≤ 60 := by
    have := dps_kd L
    omega
  simp only [cmpD, h1, nrs_kd, h2, decide_true, Bool.and_self, if_true]
  congr 1
  unfold inD
  induction L with
  | nil => rfl
  | cons q r ih =>
    rw [List.map_cons, List.any_cons, List.contains_cons, ih (by have := dps_kd r; omega)]
    congr 1
    obtain ⟨a, b⟩ := q
    show (a == l && (b == p && true)) = _
    rw [Bool.and_true]
    refine Bool.eq_iff_iff.mpr ?_
    simp only [Bool.and_eq_true, beq_iff_eq, Prod.mk.injEq]
    exact ⟨fun z => ⟨z.1.symm, z.2.symm⟩, fun z => ⟨z.1.symm, z.2.symm⟩⟩
theorem due_contains {d : D} {l p : Int} (h : 0 ≤ l ∧ l ≤ 5 ∧ 0 ≤ p ∧ p ≤ 3) : (dueD d).contains (l, p) = fitD l p d := by
  refine Bool.eq_iff_iff.mpr ?_
  rw [List.contains_iff_mem]
  unfold dueD
  rw [List.mem_filter]
  exact ⟨fun z => z.2, fun z => ⟨K24_mem h, z⟩⟩
theorem parts_more : ∀ (k : Nat) {d : D}, partsD k d ≠ 0 → partsD (k + 1) d = partsD k d ∧ ∀ l p, fitK (k + 1) l p d = fitK k l p d
  | 0, _, h => (h rfl).elim
  | k + 1, d, h => by
    have many : ∀ {x : D}, partsD k x ≠ 0 → partsD (k + 1) x = partsD k x ∧ ∀ l p, fitK (k + 1) l p x = fitK k l p x := fun hx => parts_more k hx
    have mapp : ∀ {ys : List D}, (∀ y ∈ ys, partsD k y ≠ 0) → ys.map (partsD (k + 1)) = ys.map (partsD k) := fun hy => List.map_congr_left fun y h => (many (hy y h)).1
    rcases parts_case h with ⟨ns, rfl⟩ | ⟨ns, rfl⟩ | ⟨x, rfl, q1⟩ | ⟨x, xs, rfl, q0, q1⟩ | ⟨x, xs, rfl, q0, q1⟩
    · exact ⟨rfl, fun _ _ => rfl⟩
    · exact ⟨rfl, fun _ _ => rfl⟩
    · refine ⟨?_, fun l p => ?_⟩
      · rw [parts_s, parts_s, mapp (by simpa using q1)]
      · have f : ∀ j, fitK (j + 1) l p (.tup [.str "not", x]) = !fitK j l p x := fun j => by simp only [fitK, beq_self_eq_true, Bool.or_false, Bool.false_or, Bool.true_or, Bool.or_true, sb_land_plan, sb_land_and, sb_land_or, sb_land_not, sb_plan_land, sb_plan_and, sb_plan_or, sb_plan_not, sb_and_land, sb_and_plan, sb_and_or, sb_and_not, sb_or_land, sb_or_plan, sb_or_and, sb_or_not, sb_not_land, sb_not_plan, sb_not_and, sb_not_or, Bool.false_eq_true, if_false, if_true]
        rw [f, f, (many q1).2]
    · refine ⟨?_, fun l p => ?_⟩
      · rw [parts_s, parts_s, mapp q1]
      · have e : (x :: xs).all (fitK (k + 1) l p) = (x :: xs).all (fitK k l p) := by
          have e : ((x :: xs).map (fitK (k + 1) l p)).all id = ((x :: xs).map (fitK k l p)).all id := by rw [List.map_congr_left fun y h => (many (q1 y h)).2 l p]
          rw [List.all_map, List.all_map] at e
          exact e
        have f : ∀ j, fitK (j + 1) l p (.tup (.str "and" :: x :: xs)) = (x :: xs).all (fitK j l p) := fun j => by simp only [fitK, beq_self_eq_true, Bool.or_false, Bool.false_or, Bool.true_or, Bool.or_true, sb_land_plan, sb_land_and, sb_land_or, sb_land_not, sb_plan_land, sb_plan_and, sb_plan_or, sb_plan_not, sb_and_land, sb_and_plan, sb_and_or, sb_and_not, sb_or_land, sb_or_plan, sb_or_and, sb_or_not, sb_not_land, sb_not_plan, sb_not_and, sb_not_or, Bool.false_eq_true, if_false, if_true]
        rw [f, f, e]
    · refine ⟨?_, fun l p => ?_⟩
      · rw [parts_s, parts_s, mapp q1]
      · have e : (x :: xs).any (fitK (k + 1) l p) = (x :: xs).any (fitK k l p) := by
          have e : ((x :: xs).map (fitK (k + 1) l p)).any id = ((x :: xs).map (fitK k l p)).any id := by rw [List.map_congr_left fun y h => (many (q1 y h)).2 l p]
          rw [List.any_map, List.any_map] at e
          exact e
        have f : ∀ j, fitK (j + 1) l p (.tup (.str "or" :: x :: xs)) = (x :: xs).any (fitK j l p) := fun j => by simp only [fitK, beq_self_eq_true, Bool.or_false, Bool.false_or, Bool.true_or, Bool.or_true, sb_land_plan, sb_land_and, sb_land_or, sb_land_not, sb_plan_land, sb_plan_and, sb_plan_or, sb_plan_not, sb_and_land, sb_and_plan, sb_and_or, sb_and_not, sb_or_land, sb_or_plan, sb_or_and, sb_or_not, sb_not_land, sb_not_plan, sb_not_and, sb_not_or, Bool.false_eq_true, if_false, if_true]
        rw [f, f, e]
theorem cn_isC {k : Nat} (hk : k ≤ 5) {d : D} (h : Cn k d) : IsC d := by
  have step : ∀ j, k + j ≤ 5 → partsD (k + j) d = partsD k d := by
    intro j hj
    induction j with
    | zero => rfl
    | succ j ih =>
      have e := ih (by omega)
      have := h.p1
      rw [show k + (j + 1) = (k + j) + 1 by omega, (parts_more (k + j) (by omega)).1, e]
  have e := step (5 - k) (by omega)
  rw [show k + (5 - k) = 5 by omega] at e
  have c : cap (k - 1) ≤ 27 := by
    match k - 1 with
    | 0 => decide
    | 1 => decide
    | 2 => decide
    | _ + 3 => exact Nat.le_refl _
  exact ⟨h.fine, by rw [e]; exact h.p1, by rw [e]; have := h.p2; omega⟩
end Mini

/-! N1: the places of a hundred numbers. -/
namespace Mini
open PySem PySem.Spec L2
theorem inv100 : ∀ s : Fin 100, s.val % 2 ≠ 0 → s.val % 5 ≠ 0 → ∃ z : Fin 100, (s.val * z.val) % 100 = 1 := by decide +kernel
theorem step_inv {s t : Int} (k : IsDl s t) : ∃ z q : Int, z * s = 100 * q + 1 := by
  obtain ⟨s0, s1, _, _, s2, s5⟩ := k
  obtain ⟨z, hz⟩ := inv100 ⟨s.toNat, by omega⟩ (by simp only; omega) (by simp only; omega)
  simp only at hz
  have e : s = (s.toNat : Int) := by omega
  refine ⟨z.val, ((s.toNat * z.val / 100 : Nat) : Int), ?_⟩
  have h := Nat.div_add_mod (s.toNat * z.val) 100
  rw [hz] at h
  have h2 : ((100 * (s.toNat * z.val / 100) + 1 : Nat) : Int) = (s.toNat * z.val : Nat) := by rw [h]
  rw [e, Int.mul_comm, Int.toNat_natCast, ← Int.natCast_mul, ← h2]
  simp
theorem plc_inj {s t b x y : Int} (k : IsDl s t) (hx : 0 ≤ x ∧ x < 100) (hy : 0 ≤ y ∧ y < 100) (e : plc (b + x) s t = plc (b + y) s t) : x = y := by
  unfold plc at e
  obtain ⟨z, q, hz⟩ := step_inv k
  have d : ((b + x) * s + t) - ((b + y) * s + t) = (x - y) * s := by
    rw [Int.add_mul, Int.add_mul, Int.sub_mul]
    omega
  have m : ∃ w, (x - y) * s = 100 * w := by
    refine ⟨((b + x) * s + t) / 100 - ((b + y) * s + t) / 100, ?_⟩
    omega
  obtain ⟨w, hw⟩ := m
  have e2 : (x - y) * (z * s) = 100 * (z * w) := by
    rw [Int.mul_left_comm, hw, Int.mul_left_comm]
  rw [hz, Int.mul_add, Int.mul_one, Int.mul_left_comm] at e2
  omega
theorem plc_bd (u s t : Int) : 0 ≤ plc u s t ∧ plc u s t < 100 := by
  unfold plc
  omega
def places (b s t : Int) : List Int := (List.range 100).map fun k => plc (b + (k : Nat)) s t
theorem rise_eq : ∀ (n : Nat) (lo : Int) {xs : List Int}, xs.Pairwise (· < ·) → xs.length = n → (∀ x ∈ xs, lo ≤ x ∧ x < lo + n) → xs = (List.range' 0 n).map fun k => lo + (k : Nat)
  | 0, lo, xs, _, hl, _ => by
    have := List.eq_nil_of_length_eq_zero hl
    subst this
    rfl
  | n + 1, lo, [], _, hl, _ => by cases hl
  | n + 1, lo, x :: r, hp, hl, hb => by
    obtain ⟨h1, h2⟩ := List.pairwise_cons.mp hp
    have lr : r.length = n := by simpa using hl
    have low : ∀ (xs : List Int) (a : Int), xs.Pairwise (· < ·) → (∀ y ∈ xs, a < y) → ∀ y ∈ xs.getLast?, a + xs.length ≤ y := by
      intro xs
      induction xs with
      | nil => intro a _ _ y hy; cases hy
      | cons z zs ih =>
        intro a hp ha y hy
        obtain ⟨p1, p2⟩ := List.pairwise_cons.mp hp
        have az := ha z List.mem_cons_self
        cases zs with
        | nil =>
          simp at hy
          subst hy
          simp
          omega
        | cons w ws =>
          rw [List.getLast?_cons_cons] at hy
          have := ih z p2 p1 y hy
          simp only [List.length_cons] at this ⊢
          omega
    have bx := hb x List.mem_cons_self
    have ex : x = lo := by
      cases r with
      | nil =>
        simp at lr
        subst lr
        omega
      | cons w ws =>
        obtain ⟨y, hy⟩ : ∃ y, (w :: ws).getLast? = some y := ⟨_, List.getLast?_eq_some_getLast (by simp)⟩
        have b2 := hb y (List.mem_cons_of_mem _ (List.mem_of_getLast? hy))
        have := low (w :: ws) x h2 h1 y (by rw [hy]; rfl)
        rw [lr] at this
        omega
    subst ex
    have ih := rise_eq n (x + 1) h2 lr fun y hy => ⟨by have := h1 y hy; omega, by have := hb y (List.mem_cons_of_mem _ hy); omega⟩
    rw [List.range'_succ, List.map_cons]
    congr 1
    · simp
    · rw [ih, List.range'_eq_map_range, List.range'_eq_map_range, List.map_map, List.map_map]
      refine List.map_congr_left fun k _ => ?_
      simp only [Function.comp]
      omega
theorem nodup_places {s t : Int} (b : Int) (k : IsDl s t) : (places b s t).Nodup := by
  unfold places
  refine List.pairwise_map.mpr ?_
  refine (List.nodup_range (n := 100)).imp_of_mem fun {x y} hx hy hne e => hne ?_
  have hx := List.mem_range.mp hx
  have hy := List.mem_range.mp hy
  have := plc_inj k ⟨by omega, by omega⟩ ⟨by omega, by omega⟩ e
  omega
theorem sort_places {s t : Int} (b : Int) (k : IsDl s t) : sortI (places b s t) = (List.range 100).map fun k : Nat => (k : Int) := by
  have hp := sortI_perm (places b s t)
  have hn : (sortI (places b s t)).Nodup := hp.nodup_iff.mpr (nodup_places b k)
  have hr : (sortI (places b s t)).Pairwise (· < ·) := by
    have := (sortI_rise (places b s t)).and hn
    exact this.imp fun {x y} z => by have := z.1; have := z.2; omega
  have hl : (sortI (places b s t)).length = 100 := by rw [hp.length_eq]; simp [places]
  have := rise_eq 100 0 hr hl fun x hx => by
    have hx := hp.mem_iff.mp hx
    obtain ⟨j, _, rfl⟩ := List.mem_map.mp hx
    have := plc_bd (b + (j : Nat)) s t
    omega
  rw [this, List.range_eq_range']
  refine List.map_congr_left fun k _ => ?_
  omega
/-- of a hundred one behind the other just so many are below -/
theorem count_places {s t : Int} (b : Int) (k : IsDl s t) {S : Int} (h0 : 0 ≤ S) (h1 : S ≤ 100) : ((List.range 100).filter fun j => decide (plc (b + (j : Nat)) s t < S)).length = S.toNat := by
  have e1 : ((List.range 100).filter fun j => decide (plc (b + (j : Nat)) s t < S)).length = ((places b s t).filter fun x => decide (x < S)).length := by
    unfold places
    rw [List.filter_map, List.length_map]
    rfl
  have e2 := ((sortI_perm (places b s t)).filter fun x => decide (x < S)).length_eq
  rw [e1, ← e2, sort_places b k]
  obtain ⟨m, rfl⟩ : ∃ m : Nat, S = m := ⟨S.toNat, by omega⟩
  have hm : m ≤ 100 := by omega
  have : ∀ m : Fin 101, (((List.range 100).map fun k : Nat => (k : Int)).filter fun x => decide (x < (m.val : Int))).length = m.val := by decide +kernel
  have := this ⟨m, by omega⟩
  simp only at this
  rw [this]
  simp
end Mini

/-! D10: rules. -/
namespace Mini
open PySem PySem.Spec L2
def ruD (q : D × Int) : D := .tup [q.1, .int q.2]
/-- rules -/
structure IsR (L : List (D × Int)) : Prop where
  len : L.length ≤ 6
  c : ∀ q ∈ L, IsC q.1
  s0 : ∀ q ∈ L, 0 ≤ q.2
  s1 : ∀ q ∈ L, q.2 ≤ 100
abbrev rulesD (L : List (D × Int)) : D := .tup (L.map ruD)
def shareL (l p : Int) : List (D × Int) → Int
  | [] => 0
  | q :: r => bif fitD l p q.1 then q.2 else shareL l p r
theorem shareL_bd {L : List (D × Int)} (h : IsR L) (l p : Int) : 0 ≤ shareL l p L ∧ shareL l p L ≤ 100 := by
  have : ∀ {L : List (D × Int)}, (∀ q ∈ L, 0 ≤ q.2) → (∀ q ∈ L, q.2 ≤ 100) → 0 ≤ shareL l p L ∧ shareL l p L ≤ 100 := by
    intro L
    induction L with
    | nil => intro _ _; exact ⟨Int.le_refl 0, show (0 : Int) ≤ 100 by decide⟩
    | cons q r ih =>
      intro h0 h1
      unfold shareL
      cases fitD l p q.1
      rotate_left
      · exact ⟨h0 q List.mem_cons_self, h1 q List.mem_cons_self⟩
      · exact ih (fun z hz => h0 z (List.mem_cons_of_mem _ hz)) (fun z hz => h1 z (List.mem_cons_of_mem _ hz))
  exact this h.s0 h.s1
def shF (l p : Int) : D → Option D
  | .tup [c, s] => bif fitD l p c then some s else none
  | _ => none
theorem shF_find (l p : Int) (L : List (D × Int)) : ((L.map ruD).findSome? (shF l p)).getD (.int 0) = .int (shareL l p L) := by
  induction L with
  | nil => rfl
  | cons q r ih =>
    rw [List.map_cons, List.findSome?_cons]
    have e1 : shF l p (ruD q) = bif fitD l p q.1 then some (.int q.2) else none := rfl
    have e2 : shareL l p (q :: r) = bif fitD l p q.1 then q.2 else shareL l p r := rfl
    rw [e1, e2]
    cases fitD l p q.1 with
    | true => rfl
    | false => exact ih
section
variable {T : Nat → Option Df} (hT : Exts T) {n : Nat} {h : Hd}
include hT
theorem c_is_rule {q : D × Int} (hc : IsC q.1) (h0 : 0 ≤ q.2) (h1 : q.2 ≤ 100) : call T (n + 10) 25 [ruD q] h = .ok (.bl true) h := by
  rw [callT hT (show T0 25 = some ir_is_rule from rfl)]
  unfold ir_is_rule
  obtain ⟨c, s⟩ := q
  simp -implicitDefEqProofs only [runD, evSs, evS, evE, evB, evA, evAV, evO, evC, evI, vw, Mini.start, bind_ok, bind_exc, bind_bad, bind_ite, of_somE, of_noneE, sof_ok, sof_exc, sof_bad, sof_ite, seq_nx, seq_rt, seq_exc, seq_bad, seq_ite, out_nx, out_rt, out_exc, out_ite, nox_ok, truth_bl, dif_true, dif_false, Ck.d, List.map_cons, List.map_nil, List.length_cons, List.length_nil, List.replicate, List.cons_append, List.nil_append, List.append_nil, List.getElem?_cons_zero, List.getElem?_cons_succ, List.set_cons_zero, List.set_cons_succ, Option.map_some, decide_true, decide_false, set2, set_len, asg_nm, asg_tp, asgs_nil, asgs_cons, Option.bind_some, wipeE, b_add, b_sub, k_lt, k_le, k_gt, k_ge, k_eq, k_ne, k_isN, k_isnN, s_lst, s_tup, Bool.and_true, Bool.true_and, if_true, if_false, reduceCtorEq, Nat.reduceAdd, Nat.reduceSub, Nat.reduceLT, Nat.reduceLeDiff, Nat.reduceEqDiff, Bool.and_false, Bool.false_and, Bool.not_true, Bool.not_false, Bool.false_eq_true, okk_bind, okk_ok, okk_nox, okk_out, oks_seq, oks_of, oks_nx, oks_rt, ixc0, ixc1, ixc2, ixc3, nat_c, Int.reduceSub, Int.reduceAdd, Int.reduceEq, Int.reduceLT, Int.reduceLE, Int.reduceMul, Bool.or_false, Bool.false_or, Bool.true_or, Bool.or_true, Bool.or_self, Bool.and_self, List.isEmpty_nil, List.isEmpty_cons, bq1, bq2, bq3, bq4, cond_true, cond_false, eq_self, ruD, isi_tuple (d := .tup [c, .int s]) rfl, len_tup, ixD, c_is_cond hT hc.fine, hc.p1, hc.p2, c_isnum hT (d := .int s) rfl, isNum_t h0 h1]
theorem c_are_rules {L : List (D × Int)} (hL : IsR L) : call T (n + 11) 26 [rulesD L] h = .ok (.bl true) h := by
  rw [callT hT (show T0 26 = some ir_are_rules from rfl)]
  unfold ir_are_rules
  have hl : ((L.map ruD).length : Int) ≤ 6 := by have := hL.len; simp only [List.length_map]; omega
  simp -implicitDefEqProofs only [runD, evSs, evS, evE, evB, evA, evAV, evO, evC, evI, vw, Mini.start, bind_ok, bind_exc, bind_bad, bind_ite, of_somE, of_noneE, sof_ok, sof_exc, sof_bad, sof_ite, seq_nx, seq_rt, seq_exc, seq_bad, seq_ite, out_nx, out_rt, out_exc, out_ite, nox_ok, truth_bl, dif_true, dif_false, Ck.d, List.map_cons, List.map_nil, List.length_cons, List.length_nil, List.replicate, List.cons_append, List.nil_append, List.append_nil, List.getElem?_cons_zero, List.getElem?_cons_succ, List.set_cons_zero, List.set_cons_succ, Option.map_some, decide_true, decide_false, set2, set_len, asg_nm, asg_tp, asgs_nil, asgs_cons, Option.bind_some, wipeE, b_add, b_sub, k_lt, k_le, k_gt, k_ge, k_eq, k_ne, k_isN, k_isnN, s_lst, s_tup, Bool.and_true, Bool.true_and, if_true, if_false, reduceCtorEq, Nat.reduceAdd, Nat.reduceSub, Nat.reduceLT, Nat.reduceLeDiff, Nat.reduceEqDiff, Bool.and_false, Bool.false_and, Bool.not_true, Bool.not_false, Bool.false_eq_true, okk_bind, okk_ok, okk_nox, okk_out, oks_seq, oks_of, oks_nx, oks_rt, ixc0, ixc1, ixc2, ixc3, nat_c, Int.reduceSub, Int.reduceAdd, Int.reduceEq, Int.reduceLT, Int.reduceLE, Int.reduceMul, Bool.or_false, Bool.false_or, Bool.true_or, Bool.or_true, Bool.or_self, Bool.and_self, List.isEmpty_nil, List.isEmpty_cons, bq1, bq2, bq3, bq4, cond_true, cond_false, eq_self, isi_tuple (d := rulesD L) rfl, len_tup, hl]
  rw [loopC_map (f := fun _ => some (.bl true)) (fun y hy => by
    obtain ⟨q, hq, rfl⟩ := List.mem_map.mp hy
    simp -implicitDefEqProofs only [runD, evSs, evS, evE, evB, evA, evAV, evO, evC, evI, vw, Mini.start, bind_ok, bind_exc, bind_bad, bind_ite, of_somE, of_noneE, sof_ok, sof_exc, sof_bad, sof_ite, seq_nx, seq_rt, seq_exc, seq_bad, seq_ite, out_nx, out_rt, out_exc, out_ite, nox_ok, truth_bl, dif_true, dif_false, Ck.d, List.map_cons, List.map_nil, List.length_cons, List.length_nil, List.replicate, List.cons_append, List.nil_append, List.append_nil, List.getElem?_cons_zero, List.getElem?_cons_succ, List.set_cons_zero, List.set_cons_succ, Option.map_some, decide_true, decide_false, set2, set_len, asg_nm, asg_tp, asgs_nil, asgs_cons, Option.bind_some, wipeE, b_add, b_sub, k_lt, k_le, k_gt, k_ge, k_eq, k_ne, k_isN, k_isnN, s_lst, s_tup, Bool.and_true, Bool.true_and, if_true, if_false, reduceCtorEq, Nat.reduceAdd, Nat.reduceSub, Nat.reduceLT, Nat.reduceLeDiff, Nat.reduceEqDiff, Bool.and_false, Bool.false_and, Bool.not_true, Bool.not_false, Bool.false_eq_true, okk_bind, okk_ok, okk_nox, okk_out, oks_seq, oks_of, oks_nx, oks_rt, ixc0, ixc1, ixc2, ixc3, nat_c, Int.reduceSub, Int.reduceAdd, Int.reduceEq, Int.reduceLT, Int.reduceLE, Int.reduceMul, Bool.or_false, Bool.false_or, Bool.true_or, Bool.or_true, Bool.or_self, Bool.and_self, List.isEmpty_nil, List.isEmpty_cons, bq1, bq2, bq3, bq4, cond_true, cond_false, eq_self, c_is_rule hT (hL.c q hq) (hL.s0 q hq) (hL.s1 q hq)]), filterMap_some]
  have e : (L.map ruD).map (fun _ => D.bl true) = (L.map fun _ => true).map .bl := by rw [List.map_map, List.map_map]; rfl
  rw [e]
  have hl2 : ((L.map fun _ => true).map D.bl).length ≤ 1000000 := by simp only [List.length_map]; have := hL.len; omega
  have ea : (L.map fun _ => true).all id = true := by simp
  simp -implicitDefEqProofs only [runD, evSs, evS, evE, evB, evA, evAV, evO, evC, evI, vw, Mini.start, bind_ok, bind_exc, bind_bad, bind_ite, of_somE, of_noneE, sof_ok, sof_exc, sof_bad, sof_ite, seq_nx, seq_rt, seq_exc, seq_bad, seq_ite, out_nx, out_rt, out_exc, out_ite, nox_ok, truth_bl, dif_true, dif_false, Ck.d, List.map_cons, List.map_nil, List.length_cons, List.length_nil, List.replicate, List.cons_append, List.nil_append, List.append_nil, List.getElem?_cons_zero, List.getElem?_cons_succ, List.set_cons_zero, List.set_cons_succ, Option.map_some, decide_true, decide_false, set2, set_len, asg_nm, asg_tp, asgs_nil, asgs_cons, Option.bind_some, wipeE, b_add, b_sub, k_lt, k_le, k_gt, k_ge, k_eq, k_ne, k_isN, k_isnN, s_lst, s_tup, Bool.and_true, Bool.true_and, if_true, if_false, reduceCtorEq, Nat.reduceAdd, Nat.reduceSub, Nat.reduceLT, Nat.reduceLeDiff, Nat.reduceEqDiff, Bool.and_false, Bool.false_and, Bool.not_true, Bool.not_false, Bool.false_eq_true, okk_bind, okk_ok, okk_nox, okk_out, oks_seq, oks_of, oks_nx, oks_rt, ixc0, ixc1, ixc2, ixc3, nat_c, Int.reduceSub, Int.reduceAdd, Int.reduceEq, Int.reduceLT, Int.reduceLE, Int.reduceMul, Bool.or_false, Bool.false_or, Bool.true_or, Bool.or_true, Bool.or_self, Bool.and_self, List.isEmpty_nil, List.isEmpty_cons, bq1, bq2, bq3, bq4, cond_true, cond_false, eq_self, hl2, all_lst (bls_map _), ea]
theorem c_need_rules {L : List (D × Int)} (hL : IsR L) : call T (n + 12) 27 [rulesD L] h = .ok .non h := by
  rw [callT hT (show T0 27 = some ir_need_rules from rfl)]
  unfold ir_need_rules
  simp -implicitDefEqProofs only [runD, evSs, evS, evE, evB, evA, evAV, evO, evC, evI, vw, Mini.start, bind_ok, bind_exc, bind_bad, bind_ite, of_somE, of_noneE, sof_ok, sof_exc, sof_bad, sof_ite, seq_nx, seq_rt, seq_exc, seq_bad, seq_ite, out_nx, out_rt, out_exc, out_ite, nox_ok, truth_bl, dif_true, dif_false, Ck.d, List.map_cons, List.map_nil, List.length_cons, List.length_nil, List.replicate, List.cons_append, List.nil_append, List.append_nil, List.getElem?_cons_zero, List.getElem?_cons_succ, List.set_cons_zero, List.set_cons_succ, Option.map_some, decide_true, decide_false, set2, set_len, asg_nm, asg_tp, asgs_nil, asgs_cons, Option.bind_some, wipeE, b_add, b_sub, k_lt, k_le, k_gt, k_ge, k_eq, k_ne, k_isN, k_isnN, s_lst, s_tup, Bool.and_true, Bool.true_and, if_true, if_false, reduceCtorEq, Nat.reduceAdd, Nat.reduceSub, Nat.reduceLT, Nat.reduceLeDiff, Nat.reduceEqDiff, Bool.and_false, Bool.false_and, Bool.not_true, Bool.not_false, Bool.false_eq_true, okk_bind, okk_ok, okk_nox, okk_out, oks_seq, oks_of, oks_nx, oks_rt, ixc0, ixc1, ixc2, ixc3, nat_c, Int.reduceSub, Int.reduceAdd, Int.reduceEq, Int.reduceLT, Int.reduceLE, Int.reduceMul, Bool.or_false, Bool.false_or, Bool.true_or, Bool.or_true, Bool.or_self, Bool.and_self, List.isEmpty_nil, List.isEmpty_cons, bq1, bq2, bq3, bq4, cond_true, cond_false, eq_self, c_are_rules hT hL]
theorem c_share_of {L : List (D × Int)} (hL : ∀ q ∈ L, IsC q.1) (l p : Int) : call T (n + 6) 28 [rulesD L, .int l, .int p] h = .ok (.int (shareL l p L)) h := by
  rw [callT hT (show T0 28 = some ir_share_of from rfl)]
  unfold ir_share_of
  refine Okk.eq ?_
  rw [← shF_find]
  (try simp -implicitDefEqProofs only [runD, evSs_nil, evS, evE, evB, evA, evAV, evO, evC, evI, vw, Mini.start, bind_ok, bind_exc, bind_bad, bind_ite, of_somE, of_noneE, sof_ok, sof_exc, sof_bad, sof_ite, seq_nx, seq_rt, seq_exc, seq_bad, seq_ite, out_nx, out_rt, out_exc, out_ite, nox_ok, truth_bl, dif_true, dif_false, Ck.d, List.map_cons, List.map_nil, List.length_cons, List.length_nil, List.replicate, List.cons_append, List.nil_append, List.append_nil, List.getElem?_cons_zero, List.getElem?_cons_succ, List.set_cons_zero, List.set_cons_succ, Option.map_some, decide_true, decide_false, set2, set_len, asg_nm, asg_tp, asgs_nil, asgs_cons, Option.bind_some, wipeE, b_add, b_sub, k_lt, k_le, k_gt, k_ge, k_eq, k_ne, k_isN, k_isnN, s_lst, s_tup, Bool.and_true, Bool.true_and, if_true, if_false, reduceCtorEq, Nat.reduceAdd, Nat.reduceSub, Nat.reduceLT, Nat.reduceLeDiff, Nat.reduceEqDiff, Bool.and_false, Bool.false_and, Bool.not_true, Bool.not_false, Bool.false_eq_true, okk_bind, okk_ok, okk_nox, okk_out, oks_seq, oks_of, oks_nx, oks_rt, ixc0, ixc1, ixc2, ixc3, nat_c, Int.reduceSub, Int.reduceAdd, Int.reduceEq, Int.reduceLT, Int.reduceLE, Int.reduceMul, Bool.or_false, Bool.false_or, Bool.true_or, Bool.or_true, Bool.or_self, Bool.and_self, List.isEmpty_nil, List.isEmpty_cons, bq1, bq2, bq3, bq4, cond_true, cond_false, eq_self])
  rw [evSs_cons]; (try simp -implicitDefEqProofs only [runD, evSs_nil, evS, evE, evB, evA, evAV, evO, evC, evI, vw, Mini.start, bind_ok, bind_exc, bind_bad, bind_ite, of_somE, of_noneE, sof_ok, sof_exc, sof_bad, sof_ite, seq_nx, seq_rt, seq_exc, seq_bad, seq_ite, out_nx, out_rt, out_exc, out_ite, nox_ok, truth_bl, dif_true, dif_false, Ck.d, List.map_cons, List.map_nil, List.length_cons, List.length_nil, List.replicate, List.cons_append, List.nil_append, List.append_nil, List.getElem?_cons_zero, List.getElem?_cons_succ, List.set_cons_zero, List.set_cons_succ, Option.map_some, decide_true, decide_false, set2, set_len, asg_nm, asg_tp, asgs_nil, asgs_cons, Option.bind_some, wipeE, b_add, b_sub, k_lt, k_le, k_gt, k_ge, k_eq, k_ne, k_isN, k_isnN, s_lst, s_tup, Bool.and_true, Bool.true_and, if_true, if_false, reduceCtorEq, Nat.reduceAdd, Nat.reduceSub, Nat.reduceLT, Nat.reduceLeDiff, Nat.reduceEqDiff, Bool.and_false, Bool.false_and, Bool.not_true, Bool.not_false, Bool.false_eq_true, okk_bind, okk_ok, okk_nox, okk_out, oks_seq, oks_of, oks_nx, oks_rt, ixc0, ixc1, ixc2, ixc3, nat_c, Int.reduceSub, Int.reduceAdd, Int.reduceEq, Int.reduceLT, Int.reduceLE, Int.reduceMul, Bool.or_false, Bool.false_or, Bool.true_or, Bool.or_true, Bool.or_self, Bool.and_self, List.isEmpty_nil, List.isEmpty_cons, bq1, bq2, bq3, bq4, cond_true, cond_false, eq_self])
  refine oks_find (shF l p) (fun ρ => ∃ z w, ρ = [some (.val (rulesD L)), some (.val (.int l)), some (.val (.int p)), z, w]) (fun y hy ρ hρ => ?_) ⟨_, _, rfl⟩ ?_ ?_
  · obtain ⟨z, w, rfl⟩ := hρ
    obtain ⟨⟨c, s⟩, hq, rfl⟩ := List.mem_map.mp hy
    have hc := hL _ hq
    have e := c_fits hT l p 5 n (h := h) hc.fine (by have := hc.p1; omega)
    simp -implicitDefEqProofs only [runD, evSs_nil, evS, evE, evB, evA, evAV, evO, evC, evI, vw, Mini.start, bind_ok, bind_exc, bind_bad, bind_ite, of_somE, of_noneE, sof_ok, sof_exc, sof_bad, sof_ite, seq_nx, seq_rt, seq_exc, seq_bad, seq_ite, out_nx, out_rt, out_exc, out_ite, nox_ok, truth_bl, dif_true, dif_false, Ck.d, List.map_cons, List.map_nil, List.length_cons, List.length_nil, List.replicate, List.cons_append, List.nil_append, List.append_nil, List.getElem?_cons_zero, List.getElem?_cons_succ, List.set_cons_zero, List.set_cons_succ, Option.map_some, decide_true, decide_false, set2, set_len, asg_nm, asg_tp, asgs_nil, asgs_cons, Option.bind_some, wipeE, b_add, b_sub, k_lt, k_le, k_gt, k_ge, k_eq, k_ne, k_isN, k_isnN, s_lst, s_tup, Bool.and_true, Bool.true_and, if_true, if_false, reduceCtorEq, Nat.reduceAdd, Nat.reduceSub, Nat.reduceLT, Nat.reduceLeDiff, Nat.reduceEqDiff, Bool.and_false, Bool.false_and, Bool.not_true, Bool.not_false, Bool.false_eq_true, okk_bind, okk_ok, okk_nox, okk_out, oks_seq, oks_of, oks_nx, oks_rt, ixc0, ixc1, ixc2, ixc3, nat_c, Int.reduceSub, Int.reduceAdd, Int.reduceEq, Int.reduceLT, Int.reduceLE, Int.reduceMul, Bool.or_false, Bool.false_or, Bool.true_or, Bool.or_true, Bool.or_self, Bool.and_self, List.isEmpty_nil, List.isEmpty_cons, bq1, bq2, bq3, bq4, cond_true, cond_false, eq_self, ruD]
    rw [evSs_cons]; simp -implicitDefEqProofs only [runD, evSs_nil, evS, evE, evB, evA, evAV, evO, evC, evI, vw, Mini.start, bind_ok, bind_exc, bind_bad, bind_ite, of_somE, of_noneE, sof_ok, sof_exc, sof_bad, sof_ite, seq_nx, seq_rt, seq_exc, seq_bad, seq_ite, out_nx, out_rt, out_exc, out_ite, nox_ok, truth_bl, dif_true, dif_false, Ck.d, List.map_cons, List.map_nil, List.length_cons, List.length_nil, List.replicate, List.cons_append, List.nil_append, List.append_nil, List.getElem?_cons_zero, List.getElem?_cons_succ, List.set_cons_zero, List.set_cons_succ, Option.map_some, decide_true, decide_false, set2, set_len, asg_nm, asg_tp, asgs_nil, asgs_cons, Option.bind_some, wipeE, b_add, b_sub, k_lt, k_le, k_gt, k_ge, k_eq, k_ne, k_isN, k_isnN, s_lst, s_tup, Bool.and_true, Bool.true_and, if_true, if_false, reduceCtorEq, Nat.reduceAdd, Nat.reduceSub, Nat.reduceLT, Nat.reduceLeDiff, Nat.reduceEqDiff, Bool.and_false, Bool.false_and, Bool.not_true, Bool.not_false, Bool.false_eq_true, okk_bind, okk_ok, okk_nox, okk_out, oks_seq, oks_of, oks_nx, oks_rt, ixc0, ixc1, ixc2, ixc3, nat_c, Int.reduceSub, Int.reduceAdd, Int.reduceEq, Int.reduceLT, Int.reduceLE, Int.reduceMul, Bool.or_false, Bool.false_or, Bool.true_or, Bool.or_true, Bool.or_self, Bool.and_self, List.isEmpty_nil, List.isEmpty_cons, bq1, bq2, bq3, bq4, cond_true, cond_false, eq_self, e, shF, fitD]
    cases fitK 5 l p c with
    | true =>
      (try simp -implicitDefEqProofs only [runD, evSs_nil, evS, evE, evB, evA, evAV, evO, evC, evI, vw, Mini.start, bind_ok, bind_exc, bind_bad, bind_ite, of_somE, of_noneE, sof_ok, sof_exc, sof_bad, sof_ite, seq_nx, seq_rt, seq_exc, seq_bad, seq_ite, out_nx, out_rt, out_exc, out_ite, nox_ok, truth_bl, dif_true, dif_false, Ck.d, List.map_cons, List.map_nil, List.length_cons, List.length_nil, List.replicate, List.cons_append, List.nil_append, List.append_nil, List.getElem?_cons_zero, List.getElem?_cons_succ, List.set_cons_zero, List.set_cons_succ, Option.map_some, decide_true, decide_false, set2, set_len, asg_nm, asg_tp, asgs_nil, asgs_cons, Option.bind_some, wipeE, b_add, b_sub, k_lt, k_le, k_gt, k_ge, k_eq, k_ne, k_isN, k_isnN, s_lst, s_tup, Bool.and_true, Bool.true_and, if_true, if_false, reduceCtorEq, Nat.reduceAdd, Nat.reduceSub, Nat.reduceLT, Nat.reduceLeDiff, Nat.reduceEqDiff, Bool.and_false, Bool.false_and, Bool.not_true, Bool.not_false, Bool.false_eq_true, okk_bind, okk_ok, okk_nox, okk_out, oks_seq, oks_of, oks_nx, oks_rt, ixc0, ixc1, ixc2, ixc3, nat_c, Int.reduceSub, Int.reduceAdd, Int.reduceEq, Int.reduceLT, Int.reduceLE, Int.reduceMul, Bool.or_false, Bool.false_or, Bool.true_or, Bool.or_true, Bool.or_self, Bool.and_self, List.isEmpty_nil, List.isEmpty_cons, bq1, bq2, bq3, bq4, cond_true, cond_false, eq_self])
      rw [evSs_cons]; (try simp -implicitDefEqProofs only [runD, evSs_nil, evS, evE, evB, evA, evAV, evO, evC, evI, vw, Mini.start, bind_ok, bind_exc, bind_bad, bind_ite, of_somE, of_noneE, sof_ok, sof_exc, sof_bad, sof_ite, seq_nx, seq_rt, seq_exc, seq_bad, seq_ite, out_nx, out_rt, out_exc, out_ite, nox_ok, truth_bl, dif_true, dif_false, Ck.d, List.map_cons, List.map_nil, List.length_cons, List.length_nil, List.replicate, List.cons_append, List.nil_append, List.append_nil, List.getElem?_cons_zero, List.getElem?_cons_succ, List.set_cons_zero, List.set_cons_succ, Option.map_some, decide_true, decide_false, set2, set_len, asg_nm, asg_tp, asgs_nil, asgs_cons, Option.bind_some, wipeE, b_add, b_sub, k_lt, k_le, k_gt, k_ge, k_eq, k_ne, k_isN, k_isnN, s_lst, s_tup, Bool.and_true, Bool.true_and, if_true, if_false, reduceCtorEq, Nat.reduceAdd, Nat.reduceSub, Nat.reduceLT, Nat.reduceLeDiff, Nat.reduceEqDiff, Bool.and_false, Bool.false_and, Bool.not_true, Bool.not_false, Bool.false_eq_true, okk_bind, okk_ok, okk_nox, okk_out, oks_seq, oks_of, oks_nx, oks_rt, ixc0, ixc1, ixc2, ixc3, nat_c, Int.reduceSub, Int.reduceAdd, Int.reduceEq, Int.reduceLT, Int.reduceLE, Int.reduceMul, Bool.or_false, Bool.false_or, Bool.true_or, Bool.or_true, Bool.or_self, Bool.and_self, List.isEmpty_nil, List.isEmpty_cons, bq1, bq2, bq3, bq4, cond_true, cond_false, eq_self])
      exact ⟨trivial, trivial⟩
    | false =>
      (try simp -implicitDefEqProofs only [runD, evSs_nil, evS, evE, evB, evA, evAV, evO, evC, evI, vw, Mini.start, bind_ok, bind_exc, bind_bad, bind_ite, of_somE, of_noneE, sof_ok, sof_exc, sof_bad, sof_ite, seq_nx, seq_rt, seq_exc, seq_bad, seq_ite, out_nx, out_rt, out_exc, out_ite, nox_ok, truth_bl, dif_true, dif_false, Ck.d, List.map_cons, List.map_nil, List.length_cons, List.length_nil, List.replicate, List.cons_append, List.nil_append, List.append_nil, List.getElem?_cons_zero, List.getElem?_cons_succ, List.set_cons_zero, List.set_cons_succ, Option.map_some, decide_true, decide_false, set2, set_len, asg_nm, asg_tp, asgs_nil, asgs_cons, Option.bind_some, wipeE, b_add, b_sub, k_lt, k_le, k_gt, k_ge, k_eq, k_ne, k_isN, k_isnN, s_lst, s_tup, Bool.and_true, Bool.true_and, if_true, if_false, reduceCtorEq, Nat.reduceAdd, Nat.reduceSub, Nat.reduceLT, Nat.reduceLeDiff, Nat.reduceEqDiff, Bool.and_false, Bool.false_and, Bool.not_true, Bool.not_false, Bool.false_eq_true, okk_bind, okk_ok, okk_nox, okk_out, oks_seq, oks_of, oks_nx, oks_rt, ixc0, ixc1, ixc2, ixc3, nat_c, Int.reduceSub, Int.reduceAdd, Int.reduceEq, Int.reduceLT, Int.reduceLE, Int.reduceMul, Bool.or_false, Bool.false_or, Bool.true_or, Bool.or_true, Bool.or_self, Bool.and_self, List.isEmpty_nil, List.isEmpty_cons, bq1, bq2, bq3, bq4, cond_true, cond_false, eq_self])
      exact ⟨trivial, trivial, _, _, rfl⟩
  · intro d hd
    rw [hd]
    exact ⟨rfl, rfl⟩
  · intro hd ρ hρ
    obtain ⟨z, w, rfl⟩ := hρ
    rw [hd]
    rw [evSs_cons]; (try simp -implicitDefEqProofs only [runD, evSs_nil, evS, evE, evB, evA, evAV, evO, evC, evI, vw, Mini.start, bind_ok, bind_exc, bind_bad, bind_ite, of_somE, of_noneE, sof_ok, sof_exc, sof_bad, sof_ite, seq_nx, seq_rt, seq_exc, seq_bad, seq_ite, out_nx, out_rt, out_exc, out_ite, nox_ok, truth_bl, dif_true, dif_false, Ck.d, List.map_cons, List.map_nil, List.length_cons, List.length_nil, List.replicate, List.cons_append, List.nil_append, List.append_nil, List.getElem?_cons_zero, List.getElem?_cons_succ, List.set_cons_zero, List.set_cons_succ, Option.map_some, decide_true, decide_false, set2, set_len, asg_nm, asg_tp, asgs_nil, asgs_cons, Option.bind_some, wipeE, b_add, b_sub, k_lt, k_le, k_gt, k_ge, k_eq, k_ne, k_isN, k_isnN, s_lst, s_tup, Bool.and_true, Bool.true_and, if_true, if_false, reduceCtorEq, Nat.reduceAdd, Nat.reduceSub, Nat.reduceLT, Nat.reduceLeDiff, Nat.reduceEqDiff, Bool.and_false, Bool.false_and, Bool.not_true, Bool.not_false, Bool.false_eq_true, okk_bind, okk_ok, okk_nox, okk_out, oks_seq, oks_of, oks_nx, oks_rt, ixc0, ixc1, ixc2, ixc3, nat_c, Int.reduceSub, Int.reduceAdd, Int.reduceEq, Int.reduceLT, Int.reduceLE, Int.reduceMul, Bool.or_false, Bool.false_or, Bool.true_or, Bool.or_true, Bool.or_self, Bool.and_self, List.isEmpty_nil, List.isEmpty_cons, bq1, bq2, bq3, bq4, cond_true, cond_false, eq_self])
    exact ⟨rfl, trivial⟩
theorem c_share {L : List (D × Int)} (hL : IsR L) {u l p : Int} (hu : IsU u l p) : call T (n + 13) 29 [rulesD L, .tup [.int u, .int l, .int p]] h = .ok (.int (shareL l p L)) h := by
  rw [callT hT (show T0 29 = some ir_share from rfl)]
  unfold ir_share
  (try simp -implicitDefEqProofs only [runD, evSs_nil, evS, evE, evB, evA, evAV, evO, evC, evI, vw, Mini.start, bind_ok, bind_exc, bind_bad, bind_ite, of_somE, of_noneE, sof_ok, sof_exc, sof_bad, sof_ite, seq_nx, seq_rt, seq_exc, seq_bad, seq_ite, out_nx, out_rt, out_exc, out_ite, nox_ok, truth_bl, dif_true, dif_false, Ck.d, List.map_cons, List.map_nil, List.length_cons, List.length_nil, List.replicate, List.cons_append, List.nil_append, List.append_nil, List.getElem?_cons_zero, List.getElem?_cons_succ, List.set_cons_zero, List.set_cons_succ, Option.map_some, decide_true, decide_false, set2, set_len, asg_nm, asg_tp, asgs_nil, asgs_cons, Option.bind_some, wipeE, b_add, b_sub, k_lt, k_le, k_gt, k_ge, k_eq, k_ne, k_isN, k_isnN, s_lst, s_tup, Bool.and_true, Bool.true_and, if_true, if_false, reduceCtorEq, Nat.reduceAdd, Nat.reduceSub, Nat.reduceLT, Nat.reduceLeDiff, Nat.reduceEqDiff, Bool.and_false, Bool.false_and, Bool.not_true, Bool.not_false, Bool.false_eq_true, okk_bind, okk_ok, okk_nox, okk_out, oks_seq, oks_of, oks_nx, oks_rt, ixc0, ixc1, ixc2, ixc3, nat_c, Int.reduceSub, Int.reduceAdd, Int.reduceEq, Int.reduceLT, Int.reduceLE, Int.reduceMul, Bool.or_false, Bool.false_or, Bool.true_or, Bool.or_true, Bool.or_self, Bool.and_self, List.isEmpty_nil, List.isEmpty_cons, bq1, bq2, bq3, bq4, cond_true, cond_false, eq_self])
  rw [evSs_cons]; simp -implicitDefEqProofs only [runD, evSs_nil, evS, evE, evB, evA, evAV, evO, evC, evI, vw, Mini.start, bind_ok, bind_exc, bind_bad, bind_ite, of_somE, of_noneE, sof_ok, sof_exc, sof_bad, sof_ite, seq_nx, seq_rt, seq_exc, seq_bad, seq_ite, out_nx, out_rt, out_exc, out_ite, nox_ok, truth_bl, dif_true, dif_false, Ck.d, List.map_cons, List.map_nil, List.length_cons, List.length_nil, List.replicate, List.cons_append, List.nil_append, List.append_nil, List.getElem?_cons_zero, List.getElem?_cons_succ, List.set_cons_zero, List.set_cons_succ, Option.map_some, decide_true, decide_false, set2, set_len, asg_nm, asg_tp, asgs_nil, asgs_cons, Option.bind_some, wipeE, b_add, b_sub, k_lt, k_le, k_gt, k_ge, k_eq, k_ne, k_isN, k_isnN, s_lst, s_tup, Bool.and_true, Bool.true_and, if_true, if_false, reduceCtorEq, Nat.reduceAdd, Nat.reduceSub, Nat.reduceLT, Nat.reduceLeDiff, Nat.reduceEqDiff, Bool.and_false, Bool.false_and, Bool.not_true, Bool.not_false, Bool.false_eq_true, okk_bind, okk_ok, okk_nox, okk_out, oks_seq, oks_of, oks_nx, oks_rt, ixc0, ixc1, ixc2, ixc3, nat_c, Int.reduceSub, Int.reduceAdd, Int.reduceEq, Int.reduceLT, Int.reduceLE, Int.reduceMul, Bool.or_false, Bool.false_or, Bool.true_or, Bool.or_true, Bool.or_self, Bool.and_self, List.isEmpty_nil, List.isEmpty_cons, bq1, bq2, bq3, bq4, cond_true, cond_false, eq_self, c_need_rules hT hL]
  rw [evSs_cons]; simp -implicitDefEqProofs only [runD, evSs_nil, evS, evE, evB, evA, evAV, evO, evC, evI, vw, Mini.start, bind_ok, bind_exc, bind_bad, bind_ite, of_somE, of_noneE, sof_ok, sof_exc, sof_bad, sof_ite, seq_nx, seq_rt, seq_exc, seq_bad, seq_ite, out_nx, out_rt, out_exc, out_ite, nox_ok, truth_bl, dif_true, dif_false, Ck.d, List.map_cons, List.map_nil, List.length_cons, List.length_nil, List.replicate, List.cons_append, List.nil_append, List.append_nil, List.getElem?_cons_zero, List.getElem?_cons_succ, List.set_cons_zero, List.set_cons_succ, Option.map_some, decide_true, decide_false, set2, set_len, asg_nm, asg_tp, asgs_nil, asgs_cons, Option.bind_some, wipeE, b_add, b_sub, k_lt, k_le, k_gt, k_ge, k_eq, k_ne, k_isN, k_isnN, s_lst, s_tup, Bool.and_true, Bool.true_and, if_true, if_false, reduceCtorEq, Nat.reduceAdd, Nat.reduceSub, Nat.reduceLT, Nat.reduceLeDiff, Nat.reduceEqDiff, Bool.and_false, Bool.false_and, Bool.not_true, Bool.not_false, Bool.false_eq_true, okk_bind, okk_ok, okk_nox, okk_out, oks_seq, oks_of, oks_nx, oks_rt, ixc0, ixc1, ixc2, ixc3, nat_c, Int.reduceSub, Int.reduceAdd, Int.reduceEq, Int.reduceLT, Int.reduceLE, Int.reduceMul, Bool.or_false, Bool.false_or, Bool.true_or, Bool.or_true, Bool.or_self, Bool.and_self, List.isEmpty_nil, List.isEmpty_cons, bq1, bq2, bq3, bq4, cond_true, cond_false, eq_self, c_need_user hT hu]
  rw [evSs_cons]; simp -implicitDefEqProofs only [runD, evSs_nil, evS, evE, evB, evA, evAV, evO, evC, evI, vw, Mini.start, bind_ok, bind_exc, bind_bad, bind_ite, of_somE, of_noneE, sof_ok, sof_exc, sof_bad, sof_ite, seq_nx, seq_rt, seq_exc, seq_bad, seq_ite, out_nx, out_rt, out_exc, out_ite, nox_ok, truth_bl, dif_true, dif_false, Ck.d, List.map_cons, List.map_nil, List.length_cons, List.length_nil, List.replicate, List.cons_append, List.nil_append, List.append_nil, List.getElem?_cons_zero, List.getElem?_cons_succ, List.set_cons_zero, List.set_cons_succ, Option.map_some, decide_true, decide_false, set2, set_len, asg_nm, asg_tp, asgs_nil, asgs_cons, Option.bind_some, wipeE, b_add, b_sub, k_lt, k_le, k_gt, k_ge, k_eq, k_ne, k_isN, k_isnN, s_lst, s_tup, Bool.and_true, Bool.true_and, if_true, if_false, reduceCtorEq, Nat.reduceAdd, Nat.reduceSub, Nat.reduceLT, Nat.reduceLeDiff, Nat.reduceEqDiff, Bool.and_false, Bool.false_and, Bool.not_true, Bool.not_false, Bool.false_eq_true, okk_bind, okk_ok, okk_nox, okk_out, oks_seq, oks_of, oks_nx, oks_rt, ixc0, ixc1, ixc2, ixc3, nat_c, Int.reduceSub, Int.reduceAdd, Int.reduceEq, Int.reduceLT, Int.reduceLE, Int.reduceMul, Bool.or_false, Bool.false_or, Bool.true_or, Bool.or_true, Bool.or_self, Bool.and_self, List.isEmpty_nil, List.isEmpty_cons, bq1, bq2, bq3, bq4, cond_true, cond_false, eq_self, ixD, c_share_of hT hL.c]
def letB (L : List (D × Int)) (s t u l p : Int) : Bool := decide (plc u s t < shareL l p L)
theorem c_lets {L : List (D × Int)} (hL : ∀ q ∈ L, IsC q.1) {s t u : Int} (hd : IsDl s t) (u0 : 0 ≤ u) (u1 : u ≤ 1000000000000) (l p : Int) : call T (n + 7) 30 [rulesD L, .tup [.int s, .int t], .tup [.int u, .int l, .int p]] h = .ok (.bl (letB L s t u l p)) h := by
  rw [callT hT (show T0 30 = some ir_lets from rfl)]
  unfold ir_lets
  (try simp -implicitDefEqProofs only [runD, evSs_nil, evS, evE, evB, evA, evAV, evO, evC, evI, vw, Mini.start, bind_ok, bind_exc, bind_bad, bind_ite, of_somE, of_noneE, sof_ok, sof_exc, sof_bad, sof_ite, seq_nx, seq_rt, seq_exc, seq_bad, seq_ite, out_nx, out_rt, out_exc, out_ite, nox_ok, truth_bl, dif_true, dif_false, Ck.d, List.map_cons, List.map_nil, List.length_cons, List.length_nil, List.replicate, List.cons_append, List.nil_append, List.append_nil, List.getElem?_cons_zero, List.getElem?_cons_succ, List.set_cons_zero, List.set_cons_succ, Option.map_some, decide_true, decide_false, set2, set_len, asg_nm, asg_tp, asgs_nil, asgs_cons, Option.bind_some, wipeE, b_add, b_sub, k_lt, k_le, k_gt, k_ge, k_eq, k_ne, k_isN, k_isnN, s_lst, s_tup, Bool.and_true, Bool.true_and, if_true, if_false, reduceCtorEq, Nat.reduceAdd, Nat.reduceSub, Nat.reduceLT, Nat.reduceLeDiff, Nat.reduceEqDiff, Bool.and_false, Bool.false_and, Bool.not_true, Bool.not_false, Bool.false_eq_true, okk_bind, okk_ok, okk_nox, okk_out, oks_seq, oks_of, oks_nx, oks_rt, ixc0, ixc1, ixc2, ixc3, nat_c, Int.reduceSub, Int.reduceAdd, Int.reduceEq, Int.reduceLT, Int.reduceLE, Int.reduceMul, Bool.or_false, Bool.false_or, Bool.true_or, Bool.or_true, Bool.or_self, Bool.and_self, List.isEmpty_nil, List.isEmpty_cons, bq1, bq2, bq3, bq4, cond_true, cond_false, eq_self])
  rw [evSs_cons]; simp -implicitDefEqProofs only [runD, evSs_nil, evS, evE, evB, evA, evAV, evO, evC, evI, vw, Mini.start, bind_ok, bind_exc, bind_bad, bind_ite, of_somE, of_noneE, sof_ok, sof_exc, sof_bad, sof_ite, seq_nx, seq_rt, seq_exc, seq_bad, seq_ite, out_nx, out_rt, out_exc, out_ite, nox_ok, truth_bl, dif_true, dif_false, Ck.d, List.map_cons, List.map_nil, List.length_cons, List.length_nil, List.replicate, List.cons_append, List.nil_append, List.append_nil, List.getElem?_cons_zero, List.getElem?_cons_succ, List.set_cons_zero, List.set_cons_succ, Option.map_some, decide_true, decide_false, set2, set_len, asg_nm, asg_tp, asgs_nil, asgs_cons, Option.bind_some, wipeE, b_add, b_sub, k_lt, k_le, k_gt, k_ge, k_eq, k_ne, k_isN, k_isnN, s_lst, s_tup, Bool.and_true, Bool.true_and, if_true, if_false, reduceCtorEq, Nat.reduceAdd, Nat.reduceSub, Nat.reduceLT, Nat.reduceLeDiff, Nat.reduceEqDiff, Bool.and_false, Bool.false_and, Bool.not_true, Bool.not_false, Bool.false_eq_true, okk_bind, okk_ok, okk_nox, okk_out, oks_seq, oks_of, oks_nx, oks_rt, ixc0, ixc1, ixc2, ixc3, nat_c, Int.reduceSub, Int.reduceAdd, Int.reduceEq, Int.reduceLT, Int.reduceLE, Int.reduceMul, Bool.or_false, Bool.false_or, Bool.true_or, Bool.or_true, Bool.or_self, Bool.and_self, List.isEmpty_nil, List.isEmpty_cons, bq1, bq2, bq3, bq4, cond_true, cond_false, eq_self, ixD, c_place_of hT hd u0 u1, c_share_of hT hL, letB]
theorem c_is_let {L : List (D × Int)} (hL : IsR L) {s t u l p : Int} (hd : IsDl s t) (hu : IsU u l p) : call T (n + 13) 31 [rulesD L, .tup [.int s, .int t], .tup [.int u, .int l, .int p]] h = .ok (.bl (letB L s t u l p)) h := by
  rw [callT hT (show T0 31 = some ir_is_let from rfl)]
  unfold ir_is_let
  (try simp -implicitDefEqProofs only [runD, evSs_nil, evS, evE, evB, evA, evAV, evO, evC, evI, vw, Mini.start, bind_ok, bind_exc, bind_bad, bind_ite, of_somE, of_noneE, sof_ok, sof_exc, sof_bad, sof_ite, seq_nx, seq_rt, seq_exc, seq_bad, seq_ite, out_nx, out_rt, out_exc, out_ite, nox_ok, truth_bl, dif_true, dif_false, Ck.d, List.map_cons, List.map_nil, List.length_cons, List.length_nil, List.replicate, List.cons_append, List.nil_append, List.append_nil, List.getElem?_cons_zero, List.getElem?_cons_succ, List.set_cons_zero, List.set_cons_succ, Option.map_some, decide_true, decide_false, set2, set_len, asg_nm, asg_tp, asgs_nil, asgs_cons, Option.bind_some, wipeE, b_add, b_sub, k_lt, k_le, k_gt, k_ge, k_eq, k_ne, k_isN, k_isnN, s_lst, s_tup, Bool.and_true, Bool.true_and, if_true, if_false, reduceCtorEq, Nat.reduceAdd, Nat.reduceSub, Nat.reduceLT, Nat.reduceLeDiff, Nat.reduceEqDiff, Bool.and_false, Bool.false_and, Bool.not_true, Bool.not_false, Bool.false_eq_true, okk_bind, okk_ok, okk_nox, okk_out, oks_seq, oks_of, oks_nx, oks_rt, ixc0, ixc1, ixc2, ixc3, nat_c, Int.reduceSub, Int.reduceAdd, Int.reduceEq, Int.reduceLT, Int.reduceLE, Int.reduceMul, Bool.or_false, Bool.false_or, Bool.true_or, Bool.or_true, Bool.or_self, Bool.and_self, List.isEmpty_nil, List.isEmpty_cons, bq1, bq2, bq3, bq4, cond_true, cond_false, eq_self])
  rw [evSs_cons]; simp -implicitDefEqProofs only [runD, evSs_nil, evS, evE, evB, evA, evAV, evO, evC, evI, vw, Mini.start, bind_ok, bind_exc, bind_bad, bind_ite, of_somE, of_noneE, sof_ok, sof_exc, sof_bad, sof_ite, seq_nx, seq_rt, seq_exc, seq_bad, seq_ite, out_nx, out_rt, out_exc, out_ite, nox_ok, truth_bl, dif_true, dif_false, Ck.d, List.map_cons, List.map_nil, List.length_cons, List.length_nil, List.replicate, List.cons_append, List.nil_append, List.append_nil, List.getElem?_cons_zero, List.getElem?_cons_succ, List.set_cons_zero, List.set_cons_succ, Option.map_some, decide_true, decide_false, set2, set_len, asg_nm, asg_tp, asgs_nil, asgs_cons, Option.bind_some, wipeE, b_add, b_sub, k_lt, k_le, k_gt, k_ge, k_eq, k_ne, k_isN, k_isnN, s_lst, s_tup, Bool.and_true, Bool.true_and, if_true, if_false, reduceCtorEq, Nat.reduceAdd, Nat.reduceSub, Nat.reduceLT, Nat.reduceLeDiff, Nat.reduceEqDiff, Bool.and_false, Bool.false_and, Bool.not_true, Bool.not_false, Bool.false_eq_true, okk_bind, okk_ok, okk_nox, okk_out, oks_seq, oks_of, oks_nx, oks_rt, ixc0, ixc1, ixc2, ixc3, nat_c, Int.reduceSub, Int.reduceAdd, Int.reduceEq, Int.reduceLT, Int.reduceLE, Int.reduceMul, Bool.or_false, Bool.false_or, Bool.true_or, Bool.or_true, Bool.or_self, Bool.and_self, List.isEmpty_nil, List.isEmpty_cons, bq1, bq2, bq3, bq4, cond_true, cond_false, eq_self, c_need_rules hT hL]
  rw [evSs_cons]; simp -implicitDefEqProofs only [runD, evSs_nil, evS, evE, evB, evA, evAV, evO, evC, evI, vw, Mini.start, bind_ok, bind_exc, bind_bad, bind_ite, of_somE, of_noneE, sof_ok, sof_exc, sof_bad, sof_ite, seq_nx, seq_rt, seq_exc, seq_bad, seq_ite, out_nx, out_rt, out_exc, out_ite, nox_ok, truth_bl, dif_true, dif_false, Ck.d, List.map_cons, List.map_nil, List.length_cons, List.length_nil, List.replicate, List.cons_append, List.nil_append, List.append_nil, List.getElem?_cons_zero, List.getElem?_cons_succ, List.set_cons_zero, List.set_cons_succ, Option.map_some, decide_true, decide_false, set2, set_len, asg_nm, asg_tp, asgs_nil, asgs_cons, Option.bind_some, wipeE, b_add, b_sub, k_lt, k_le, k_gt, k_ge, k_eq, k_ne, k_isN, k_isnN, s_lst, s_tup, Bool.and_true, Bool.true_and, if_true, if_false, reduceCtorEq, Nat.reduceAdd, Nat.reduceSub, Nat.reduceLT, Nat.reduceLeDiff, Nat.reduceEqDiff, Bool.and_false, Bool.false_and, Bool.not_true, Bool.not_false, Bool.false_eq_true, okk_bind, okk_ok, okk_nox, okk_out, oks_seq, oks_of, oks_nx, oks_rt, ixc0, ixc1, ixc2, ixc3, nat_c, Int.reduceSub, Int.reduceAdd, Int.reduceEq, Int.reduceLT, Int.reduceLE, Int.reduceMul, Bool.or_false, Bool.false_or, Bool.true_or, Bool.or_true, Bool.or_self, Bool.and_self, List.isEmpty_nil, List.isEmpty_cons, bq1, bq2, bq3, bq4, cond_true, cond_false, eq_self, c_need_deal hT hd]
  rw [evSs_cons]; simp -implicitDefEqProofs only [runD, evSs_nil, evS, evE, evB, evA, evAV, evO, evC, evI, vw, Mini.start, bind_ok, bind_exc, bind_bad, bind_ite, of_somE, of_noneE, sof_ok, sof_exc, sof_bad, sof_ite, seq_nx, seq_rt, seq_exc, seq_bad, seq_ite, out_nx, out_rt, out_exc, out_ite, nox_ok, truth_bl, dif_true, dif_false, Ck.d, List.map_cons, List.map_nil, List.length_cons, List.length_nil, List.replicate, List.cons_append, List.nil_append, List.append_nil, List.getElem?_cons_zero, List.getElem?_cons_succ, List.set_cons_zero, List.set_cons_succ, Option.map_some, decide_true, decide_false, set2, set_len, asg_nm, asg_tp, asgs_nil, asgs_cons, Option.bind_some, wipeE, b_add, b_sub, k_lt, k_le, k_gt, k_ge, k_eq, k_ne, k_isN, k_isnN, s_lst, s_tup, Bool.and_true, Bool.true_and, if_true, if_false, reduceCtorEq, Nat.reduceAdd, Nat.reduceSub, Nat.reduceLT, Nat.reduceLeDiff, Nat.reduceEqDiff, Bool.and_false, Bool.false_and, Bool.not_true, Bool.not_false, Bool.false_eq_true, okk_bind, okk_ok, okk_nox, okk_out, oks_seq, oks_of, oks_nx, oks_rt, ixc0, ixc1, ixc2, ixc3, nat_c, Int.reduceSub, Int.reduceAdd, Int.reduceEq, Int.reduceLT, Int.reduceLE, Int.reduceMul, Bool.or_false, Bool.false_or, Bool.true_or, Bool.or_true, Bool.or_self, Bool.and_self, List.isEmpty_nil, List.isEmpty_cons, bq1, bq2, bq3, bq4, cond_true, cond_false, eq_self, c_need_user hT hu]
  rw [evSs_cons]; simp -implicitDefEqProofs only [runD, evSs_nil, evS, evE, evB, evA, evAV, evO, evC, evI, vw, Mini.start, bind_ok, bind_exc, bind_bad, bind_ite, of_somE, of_noneE, sof_ok, sof_exc, sof_bad, sof_ite, seq_nx, seq_rt, seq_exc, seq_bad, seq_ite, out_nx, out_rt, out_exc, out_ite, nox_ok, truth_bl, dif_true, dif_false, Ck.d, List.map_cons, List.map_nil, List.length_cons, List.length_nil, List.replicate, List.cons_append, List.nil_append, List.append_nil, List.getElem?_cons_zero, List.getElem?_cons_succ, List.set_cons_zero, List.set_cons_succ, Option.map_some, decide_true, decide_false, set2, set_len, asg_nm, asg_tp, asgs_nil, asgs_cons, Option.bind_some, wipeE, b_add, b_sub, k_lt, k_le, k_gt, k_ge, k_eq, k_ne, k_isN, k_isnN, s_lst, s_tup, Bool.and_true, Bool.true_and, if_true, if_false, reduceCtorEq, Nat.reduceAdd, Nat.reduceSub, Nat.reduceLT, Nat.reduceLeDiff, Nat.reduceEqDiff, Bool.and_false, Bool.false_and, Bool.not_true, Bool.not_false, Bool.false_eq_true, okk_bind, okk_ok, okk_nox, okk_out, oks_seq, oks_of, oks_nx, oks_rt, ixc0, ixc1, ixc2, ixc3, nat_c, Int.reduceSub, Int.reduceAdd, Int.reduceEq, Int.reduceLT, Int.reduceLE, Int.reduceMul, Bool.or_false, Bool.false_or, Bool.true_or, Bool.or_true, Bool.or_self, Bool.and_self, List.isEmpty_nil, List.isEmpty_cons, bq1, bq2, bq3, bq4, cond_true, cond_false, eq_self, c_lets hT hL.c hd hu.u0 hu.u1]
theorem c_law_share {L : List (D × Int)} (hL : ∀ q ∈ L, IsC q.1) (l p : Int) : call T (n + 6) 33 [rulesD L, .int l, .int p] h = .ok (.int (shareL l p L)) h := by
  rw [callT hT (show T0 33 = some ir_law_share from rfl)]
  unfold ir_law_share
  refine Okk.eq ?_
  rw [← shF_find]
  (try simp -implicitDefEqProofs only [runD, evSs_nil, evS, evE, evB, evA, evAV, evO, evC, evI, vw, Mini.start, bind_ok, bind_exc, bind_bad, bind_ite, of_somE, of_noneE, sof_ok, sof_exc, sof_bad, sof_ite, seq_nx, seq_rt, seq_exc, seq_bad, seq_ite, out_nx, out_rt, out_exc, out_ite, nox_ok, truth_bl, dif_true, dif_false, Ck.d, List.map_cons, List.map_nil, List.length_cons, List.length_nil, List.replicate, List.cons_append, List.nil_append, List.append_nil, List.getElem?_cons_zero, List.getElem?_cons_succ, List.set_cons_zero, List.set_cons_succ, Option.map_some, decide_true, decide_false, set2, set_len, asg_nm, asg_tp, asgs_nil, asgs_cons, Option.bind_some, wipeE, b_add, b_sub, k_lt, k_le, k_gt, k_ge, k_eq, k_ne, k_isN, k_isnN, s_lst, s_tup, Bool.and_true, Bool.true_and, if_true, if_false, reduceCtorEq, Nat.reduceAdd, Nat.reduceSub, Nat.reduceLT, Nat.reduceLeDiff, Nat.reduceEqDiff, Bool.and_false, Bool.false_and, Bool.not_true, Bool.not_false, Bool.false_eq_true, okk_bind, okk_ok, okk_nox, okk_out, oks_seq, oks_of, oks_nx, oks_rt, ixc0, ixc1, ixc2, ixc3, nat_c, Int.reduceSub, Int.reduceAdd, Int.reduceEq, Int.reduceLT, Int.reduceLE, Int.reduceMul, Bool.or_false, Bool.false_or, Bool.true_or, Bool.or_true, Bool.or_self, Bool.and_self, List.isEmpty_nil, List.isEmpty_cons, bq1, bq2, bq3, bq4, cond_true, cond_false, eq_self])
  rw [evSs_cons]; (try simp -implicitDefEqProofs only [runD, evSs_nil, evS, evE, evB, evA, evAV, evO, evC, evI, vw, Mini.start, bind_ok, bind_exc, bind_bad, bind_ite, of_somE, of_noneE, sof_ok, sof_exc, sof_bad, sof_ite, seq_nx, seq_rt, seq_exc, seq_bad, seq_ite, out_nx, out_rt, out_exc, out_ite, nox_ok, truth_bl, dif_true, dif_false, Ck.d, List.map_cons, List.map_nil, List.length_cons, List.length_nil, List.replicate, List.cons_append, List.nil_append, List.append_nil, List.getElem?_cons_zero, List.getElem?_cons_succ, List.set_cons_zero, List.set_cons_succ, Option.map_some, decide_true, decide_false, set2, set_len, asg_nm, asg_tp, asgs_nil, asgs_cons, Option.bind_some, wipeE, b_add, b_sub, k_lt, k_le, k_gt, k_ge, k_eq, k_ne, k_isN, k_isnN, s_lst, s_tup, Bool.and_true, Bool.true_and, if_true, if_false, reduceCtorEq, Nat.reduceAdd, Nat.reduceSub, Nat.reduceLT, Nat.reduceLeDiff, Nat.reduceEqDiff, Bool.and_false, Bool.false_and, Bool.not_true, Bool.not_false, Bool.false_eq_true, okk_bind, okk_ok, okk_nox, okk_out, oks_seq, oks_of, oks_nx, oks_rt, ixc0, ixc1, ixc2, ixc3, nat_c, Int.reduceSub, Int.reduceAdd, Int.reduceEq, Int.reduceLT, Int.reduceLE, Int.reduceMul, Bool.or_false, Bool.false_or, Bool.true_or, Bool.or_true, Bool.or_self, Bool.and_self, List.isEmpty_nil, List.isEmpty_cons, bq1, bq2, bq3, bq4, cond_true, cond_false, eq_self])
  refine oks_find (shF l p) (fun ρ => ∃ z w, ρ = [some (.val (rulesD L)), some (.val (.int l)), some (.val (.int p)), z, w]) (fun y hy ρ hρ => ?_) ⟨_, _, rfl⟩ ?_ ?_
  · obtain ⟨z, w, rfl⟩ := hρ
    obtain ⟨⟨c, s⟩, hq, rfl⟩ := List.mem_map.mp hy
    have hc := hL _ hq
    have e := c_law_holds hT l p 5 n (h := h) hc.fine (by have := hc.p1; omega)
    simp -implicitDefEqProofs only [runD, evSs_nil, evS, evE, evB, evA, evAV, evO, evC, evI, vw, Mini.start, bind_ok, bind_exc, bind_bad, bind_ite, of_somE, of_noneE, sof_ok, sof_exc, sof_bad, sof_ite, seq_nx, seq_rt, seq_exc, seq_bad, seq_ite, out_nx, out_rt, out_exc, out_ite, nox_ok, truth_bl, dif_true, dif_false, Ck.d, List.map_cons, List.map_nil, List.length_cons, List.length_nil, List.replicate, List.cons_append, List.nil_append, List.append_nil, List.getElem?_cons_zero, List.getElem?_cons_succ, List.set_cons_zero, List.set_cons_succ, Option.map_some, decide_true, decide_false, set2, set_len, asg_nm, asg_tp, asgs_nil, asgs_cons, Option.bind_some, wipeE, b_add, b_sub, k_lt, k_le, k_gt, k_ge, k_eq, k_ne, k_isN, k_isnN, s_lst, s_tup, Bool.and_true, Bool.true_and, if_true, if_false, reduceCtorEq, Nat.reduceAdd, Nat.reduceSub, Nat.reduceLT, Nat.reduceLeDiff, Nat.reduceEqDiff, Bool.and_false, Bool.false_and, Bool.not_true, Bool.not_false, Bool.false_eq_true, okk_bind, okk_ok, okk_nox, okk_out, oks_seq, oks_of, oks_nx, oks_rt, ixc0, ixc1, ixc2, ixc3, nat_c, Int.reduceSub, Int.reduceAdd, Int.reduceEq, Int.reduceLT, Int.reduceLE, Int.reduceMul, Bool.or_false, Bool.false_or, Bool.true_or, Bool.or_true, Bool.or_self, Bool.and_self, List.isEmpty_nil, List.isEmpty_cons, bq1, bq2, bq3, bq4, cond_true, cond_false, eq_self, ruD]
    rw [evSs_cons]; simp -implicitDefEqProofs only [runD, evSs_nil, evS, evE, evB, evA, evAV, evO, evC, evI, vw, Mini.start, bind_ok, bind_exc, bind_bad, bind_ite, of_somE, of_noneE, sof_ok, sof_exc, sof_bad, sof_ite, seq_nx, seq_rt, seq_exc, seq_bad, seq_ite, out_nx, out_rt, out_exc, out_ite, nox_ok, truth_bl, dif_true, dif_false, Ck.d, List.map_cons, List.map_nil, List.length_cons, List.length_nil, List.replicate, List.cons_append, List.nil_append, List.append_nil, List.getElem?_cons_zero, List.getElem?_cons_succ, List.set_cons_zero, List.set_cons_succ, Option.map_some, decide_true, decide_false, set2, set_len, asg_nm, asg_tp, asgs_nil, asgs_cons, Option.bind_some, wipeE, b_add, b_sub, k_lt, k_le, k_gt, k_ge, k_eq, k_ne, k_isN, k_isnN, s_lst, s_tup, Bool.and_true, Bool.true_and, if_true, if_false, reduceCtorEq, Nat.reduceAdd, Nat.reduceSub, Nat.reduceLT, Nat.reduceLeDiff, Nat.reduceEqDiff, Bool.and_false, Bool.false_and, Bool.not_true, Bool.not_false, Bool.false_eq_true, okk_bind, okk_ok, okk_nox, okk_out, oks_seq, oks_of, oks_nx, oks_rt, ixc0, ixc1, ixc2, ixc3, nat_c, Int.reduceSub, Int.reduceAdd, Int.reduceEq, Int.reduceLT, Int.reduceLE, Int.reduceMul, Bool.or_false, Bool.false_or, Bool.true_or, Bool.or_true, Bool.or_self, Bool.and_self, List.isEmpty_nil, List.isEmpty_cons, bq1, bq2, bq3, bq4, cond_true, cond_false, eq_self, e, shF, fitD]
    cases fitK 5 l p c with
    | true =>
      (try simp -implicitDefEqProofs only [runD, evSs_nil, evS, evE, evB, evA, evAV, evO, evC, evI, vw, Mini.start, bind_ok, bind_exc, bind_bad, bind_ite, of_somE, of_noneE, sof_ok, sof_exc, sof_bad, sof_ite, seq_nx, seq_rt, seq_exc, seq_bad, seq_ite, out_nx, out_rt, out_exc, out_ite, nox_ok, truth_bl, dif_true, dif_false, Ck.d, List.map_cons, List.map_nil, List.length_cons, List.length_nil, List.replicate, List.cons_append, List.nil_append, List.append_nil, List.getElem?_cons_zero, List.getElem?_cons_succ, List.set_cons_zero, List.set_cons_succ, Option.map_some, decide_true, decide_false, set2, set_len, asg_nm, asg_tp, asgs_nil, asgs_cons, Option.bind_some, wipeE, b_add, b_sub, k_lt, k_le, k_gt, k_ge, k_eq, k_ne, k_isN, k_isnN, s_lst, s_tup, Bool.and_true, Bool.true_and, if_true, if_false, reduceCtorEq, Nat.reduceAdd, Nat.reduceSub, Nat.reduceLT, Nat.reduceLeDiff, Nat.reduceEqDiff, Bool.and_false, Bool.false_and, Bool.not_true, Bool.not_false, Bool.false_eq_true, okk_bind, okk_ok, okk_nox, okk_out, oks_seq, oks_of, oks_nx, oks_rt, ixc0, ixc1, ixc2, ixc3, nat_c, Int.reduceSub, Int.reduceAdd, Int.reduceEq, Int.reduceLT, Int.reduceLE, Int.reduceMul, Bool.or_false, Bool.false_or, Bool.true_or, Bool.or_true, Bool.or_self, Bool.and_self, List.isEmpty_nil, List.isEmpty_cons, bq1, bq2, bq3, bq4, cond_true, cond_false, eq_self])
      rw [evSs_cons]; (try simp -implicitDefEqProofs only [runD, evSs_nil, evS, evE, evB, evA, evAV, evO, evC, evI, vw, Mini.start, bind_ok, bind_exc, bind_bad, bind_ite, of_somE, of_noneE, sof_ok, sof_exc, sof_bad, sof_ite, seq_nx, seq_rt, seq_exc, seq_bad, seq_ite, out_nx, out_rt, out_exc, out_ite, nox_ok, truth_bl, dif_true, dif_false, Ck.d, List.map_cons, List.map_nil, List.length_cons, List.length_nil, List.replicate, List.cons_append, List.nil_append, List.append_nil, List.getElem?_cons_zero, List.getElem?_cons_succ, List.set_cons_zero, List.set_cons_succ, Option.map_some, decide_true, decide_false, set2, set_len, asg_nm, asg_tp, asgs_nil, asgs_cons, Option.bind_some, wipeE, b_add, b_sub, k_lt, k_le, k_gt, k_ge, k_eq, k_ne, k_isN, k_isnN, s_lst, s_tup, Bool.and_true, Bool.true_and, if_true, if_false, reduceCtorEq, Nat.reduceAdd, Nat.reduceSub, Nat.reduceLT, Nat.reduceLeDiff, Nat.reduceEqDiff, Bool.and_false, Bool.false_and, Bool.not_true, Bool.not_false, Bool.false_eq_true, okk_bind, okk_ok, okk_nox, okk_out, oks_seq, oks_of, oks_nx, oks_rt, ixc0, ixc1, ixc2, ixc3, nat_c, Int.reduceSub, Int.reduceAdd, Int.reduceEq, Int.reduceLT, Int.reduceLE, Int.reduceMul, Bool.or_false, Bool.false_or, Bool.true_or, Bool.or_true, Bool.or_self, Bool.and_self, List.isEmpty_nil, List.isEmpty_cons, bq1, bq2, bq3, bq4, cond_true, cond_false, eq_self])
      exact ⟨trivial, trivial⟩
    | false =>
      (try simp -implicitDefEqProofs only [runD, evSs_nil, evS, evE, evB, evA, evAV, evO, evC, evI, vw, Mini.start, bind_ok, bind_exc, bind_bad, bind_ite, of_somE, of_noneE, sof_ok, sof_exc, sof_bad, sof_ite, seq_nx, seq_rt, seq_exc, seq_bad, seq_ite, out_nx, out_rt, out_exc, out_ite, nox_ok, truth_bl, dif_true, dif_false, Ck.d, List.map_cons, List.map_nil, List.length_cons, List.length_nil, List.replicate, List.cons_append, List.nil_append, List.append_nil, List.getElem?_cons_zero, List.getElem?_cons_succ, List.set_cons_zero, List.set_cons_succ, Option.map_some, decide_true, decide_false, set2, set_len, asg_nm, asg_tp, asgs_nil, asgs_cons, Option.bind_some, wipeE, b_add, b_sub, k_lt, k_le, k_gt, k_ge, k_eq, k_ne, k_isN, k_isnN, s_lst, s_tup, Bool.and_true, Bool.true_and, if_true, if_false, reduceCtorEq, Nat.reduceAdd, Nat.reduceSub, Nat.reduceLT, Nat.reduceLeDiff, Nat.reduceEqDiff, Bool.and_false, Bool.false_and, Bool.not_true, Bool.not_false, Bool.false_eq_true, okk_bind, okk_ok, okk_nox, okk_out, oks_seq, oks_of, oks_nx, oks_rt, ixc0, ixc1, ixc2, ixc3, nat_c, Int.reduceSub, Int.reduceAdd, Int.reduceEq, Int.reduceLT, Int.reduceLE, Int.reduceMul, Bool.or_false, Bool.false_or, Bool.true_or, Bool.or_true, Bool.or_self, Bool.and_self, List.isEmpty_nil, List.isEmpty_cons, bq1, bq2, bq3, bq4, cond_true, cond_false, eq_self])
      exact ⟨trivial, trivial, _, _, rfl⟩
  · intro d hd
    rw [hd]
    exact ⟨rfl, rfl⟩
  · intro hd ρ hρ
    obtain ⟨z, w, rfl⟩ := hρ
    rw [hd]
    rw [evSs_cons]; (try simp -implicitDefEqProofs only [runD, evSs_nil, evS, evE, evB, evA, evAV, evO, evC, evI, vw, Mini.start, bind_ok, bind_exc, bind_bad, bind_ite, of_somE, of_noneE, sof_ok, sof_exc, sof_bad, sof_ite, seq_nx, seq_rt, seq_exc, seq_bad, seq_ite, out_nx, out_rt, out_exc, out_ite, nox_ok, truth_bl, dif_true, dif_false, Ck.d, List.map_cons, List.map_nil, List.length_cons, List.length_nil, List.replicate, List.cons_append, List.nil_append, List.append_nil, List.getElem?_cons_zero, List.getElem?_cons_succ, List.set_cons_zero, List.set_cons_succ, Option.map_some, decide_true, decide_false, set2, set_len, asg_nm, asg_tp, asgs_nil, asgs_cons, Option.bind_some, wipeE, b_add, b_sub, k_lt, k_le, k_gt, k_ge, k_eq, k_ne, k_isN, k_isnN, s_lst, s_tup, Bool.and_true, Bool.true_and, if_true, if_false, reduceCtorEq, Nat.reduceAdd, Nat.reduceSub, Nat.reduceLT, Nat.reduceLeDiff, Nat.reduceEqDiff, Bool.and_false, Bool.false_and, Bool.not_true, Bool.not_false, Bool.false_eq_true, okk_bind, okk_ok, okk_nox, okk_out, oks_seq, oks_of, oks_nx, oks_rt, ixc0, ixc1, ixc2, ixc3, nat_c, Int.reduceSub, Int.reduceAdd, Int.reduceEq, Int.reduceLT, Int.reduceLE, Int.reduceMul, Bool.or_false, Bool.false_or, Bool.true_or, Bool.or_true, Bool.or_self, Bool.and_self, List.isEmpty_nil, List.isEmpty_cons, bq1, bq2, bq3, bq4, cond_true, cond_false, eq_self])
    exact ⟨rfl, trivial⟩
theorem c_law_let {L : List (D × Int)} (hL : ∀ q ∈ L, IsC q.1) {s t u : Int} (hd : IsDl s t) (u0 : 0 ≤ u) (u1 : u ≤ 1000000000000) (l p : Int) : call T (n + 7) 34 [rulesD L, .tup [.int s, .int t], .tup [.int u, .int l, .int p]] h = .ok (.bl (letB L s t u l p)) h := by
  rw [callT hT (show T0 34 = some ir_law_let from rfl)]
  unfold ir_law_let
  obtain ⟨s0, s1, t0, t1, _, _⟩ := hd
  have lu : u.natAbs.log2 < 64 := lg (by decide) (by omega)
  have ls : s.natAbs.log2 < 64 := lg (by decide) (by omega)
  (try simp -implicitDefEqProofs only [runD, evSs_nil, evS, evE, evB, evA, evAV, evO, evC, evI, vw, Mini.start, bind_ok, bind_exc, bind_bad, bind_ite, of_somE, of_noneE, sof_ok, sof_exc, sof_bad, sof_ite, seq_nx, seq_rt, seq_exc, seq_bad, seq_ite, out_nx, out_rt, out_exc, out_ite, nox_ok, truth_bl, dif_true, dif_false, Ck.d, List.map_cons, List.map_nil, List.length_cons, List.length_nil, List.replicate, List.cons_append, List.nil_append, List.append_nil, List.getElem?_cons_zero, List.getElem?_cons_succ, List.set_cons_zero, List.set_cons_succ, Option.map_some, decide_true, decide_false, set2, set_len, asg_nm, asg_tp, asgs_nil, asgs_cons, Option.bind_some, wipeE, b_add, b_sub, k_lt, k_le, k_gt, k_ge, k_eq, k_ne, k_isN, k_isnN, s_lst, s_tup, Bool.and_true, Bool.true_and, if_true, if_false, reduceCtorEq, Nat.reduceAdd, Nat.reduceSub, Nat.reduceLT, Nat.reduceLeDiff, Nat.reduceEqDiff, Bool.and_false, Bool.false_and, Bool.not_true, Bool.not_false, Bool.false_eq_true, okk_bind, okk_ok, okk_nox, okk_out, oks_seq, oks_of, oks_nx, oks_rt, ixc0, ixc1, ixc2, ixc3, nat_c, Int.reduceSub, Int.reduceAdd, Int.reduceEq, Int.reduceLT, Int.reduceLE, Int.reduceMul, Bool.or_false, Bool.false_or, Bool.true_or, Bool.or_true, Bool.or_self, Bool.and_self, List.isEmpty_nil, List.isEmpty_cons, bq1, bq2, bq3, bq4, cond_true, cond_false, eq_self])
  rw [evSs_cons]; simp -implicitDefEqProofs only [runD, evSs_nil, evS, evE, evB, evA, evAV, evO, evC, evI, vw, Mini.start, bind_ok, bind_exc, bind_bad, bind_ite, of_somE, of_noneE, sof_ok, sof_exc, sof_bad, sof_ite, seq_nx, seq_rt, seq_exc, seq_bad, seq_ite, out_nx, out_rt, out_exc, out_ite, nox_ok, truth_bl, dif_true, dif_false, Ck.d, List.map_cons, List.map_nil, List.length_cons, List.length_nil, List.replicate, List.cons_append, List.nil_append, List.append_nil, List.getElem?_cons_zero, List.getElem?_cons_succ, List.set_cons_zero, List.set_cons_succ, Option.map_some, decide_true, decide_false, set2, set_len, asg_nm, asg_tp, asgs_nil, asgs_cons, Option.bind_some, wipeE, b_add, b_sub, k_lt, k_le, k_gt, k_ge, k_eq, k_ne, k_isN, k_isnN, s_lst, s_tup, Bool.and_true, Bool.true_and, if_true, if_false, reduceCtorEq, Nat.reduceAdd, Nat.reduceSub, Nat.reduceLT, Nat.reduceLeDiff, Nat.reduceEqDiff, Bool.and_false, Bool.false_and, Bool.not_true, Bool.not_false, Bool.false_eq_true, okk_bind, okk_ok, okk_nox, okk_out, oks_seq, oks_of, oks_nx, oks_rt, ixc0, ixc1, ixc2, ixc3, nat_c, Int.reduceSub, Int.reduceAdd, Int.reduceEq, Int.reduceLT, Int.reduceLE, Int.reduceMul, Bool.or_false, Bool.false_or, Bool.true_or, Bool.or_true, Bool.or_self, Bool.and_self, List.isEmpty_nil, List.isEmpty_cons, bq1, bq2, bq3, bq4, cond_true, cond_false, eq_self, ixD, b_mul (show u.natAbs.log2 + s.natAbs.log2 < 134000000 by omega), b_mod (j := 100) (by decide), c_law_share hT hL]
  rfl
end
end Mini

/-! D11: rules drawn. -/
namespace Mini
open PySem PySem.Spec L2
/-- rules as they are drawn -/
structure Dn (m k : Nat) (L : List (D × Int)) : Prop where
  len : L.length ≤ m
  c : ∀ q ∈ L, Cn k q.1
  s0 : ∀ q ∈ L, 0 ≤ q.2
  s1 : ∀ q ∈ L, q.2 ≤ 100
theorem Dn.isR {m k : Nat} {L : List (D × Int)} (h : Dn m k L) (hm : m ≤ 6) (hk : k ≤ 5) : IsR L := ⟨Nat.le_trans h.len hm, fun q hq => cn_isC hk (h.c q hq), h.s0, h.s1⟩
theorem Dn.add {m k : Nat} {L : List (D × Int)} (h : Dn m k L) {c : D} {s : Int} (hc : Cn k c) (h0 : 0 ≤ s) (h1 : s ≤ 100) : Dn (m + 1) k (L ++ [(c, s)]) := by
  have mem : ∀ {q}, q ∈ L ++ [(c, s)] → q ∈ L ∨ q = (c, s) := fun hq => by
    rcases List.mem_append.mp hq with hq | hq
    · exact .inl hq
    · exact .inr (List.mem_singleton.mp hq)
  refine ⟨by have := h.len; simp; omega, fun q hq => ?_, fun q hq => ?_, fun q hq => ?_⟩
  · rcases mem hq with hq | rfl
    · exact h.c q hq
    · exact hc
  · rcases mem hq with hq | rfl
    · exact h.s0 q hq
    · exact h0
  · rcases mem hq with hq | rfl
    · exact h.s1 q hq
    · exact h1
theorem Dn.more {m m' k : Nat} {L : List (D × Int)} (h : Dn m k L) (hm : m ≤ m') : Dn m' k L := ⟨Nat.le_trans h.len hm, h.c, h.s0, h.s1⟩
theorem cn_all {k : Nat} : Cn (k + 1) (.tup [.str "plan", .tup [.int 0, .int 1, .int 2, .int 3]]) := cn_plan (by decide +kernel) (by decide +kernel)
theorem cost_le {k : Nat} (hk : k ≤ 4) : cost k ≤ 2560 := by
  match k, hk with
  | 0, _ => decide
  | 1, _ => decide
  | 2, _ => decide
  | 3, _ => decide
  | 4, _ => decide
theorem tuple_lst (h : Hd) (xs : List D) : biD h .tuple [.lst xs] = some (.tup xs) := rfl
theorem rng_cons (lo : Int) (n : Nat) : rngD lo (n + 1) = .int lo :: rngD (lo + 1) n := by
  unfold rngD
  rw [List.range_succ_eq_map, List.map_cons, List.map_map]
  congr 1
  · simp
  · refine List.map_congr_left fun k _ => ?_
    simp only [Function.comp]
    congr 1
    omega
section
variable {T : Nat → Option Df} (hT : Exts T)
include hT
theorem c_law_rules {k : Nat} (hk : k ≤ 3) (n : Nat) {h : Hd} {i : Nat} {a b : Int} (r : Int) (hi : i < h.length) (hd : Dc (r + 20000) a b) (hr : 0 ≤ r) :
    Okk (call T (n + k + 5) 32 [.ref i, .int (k + 1 : Nat)] (h.set i (dc a b))) (Dr h i r fun d => ∃ L, d = rulesD L ∧ Dn 4 (k + 1) L) := by
  rw [callT hT (show T0 32 = some ir_law_rules from rfl)]
  unfold ir_law_rules
  have ck := cost_le (k := k + 1) (by omega)
  (try simp -implicitDefEqProofs only [runD, evSs_nil, evS, evE, evB, evA, evAV, evO, evC, evI, vw, Mini.start, bind_ok, bind_exc, bind_bad, bind_ite, of_somE, of_noneE, sof_ok, sof_exc, sof_bad, sof_ite, seq_nx, seq_rt, seq_exc, seq_bad, seq_ite, out_nx, out_rt, out_exc, out_ite, nox_ok, truth_bl, dif_true, dif_false, Ck.d, List.map_cons, List.map_nil, List.length_cons, List.length_nil, List.replicate, List.cons_append, List.nil_append, List.append_nil, List.getElem?_cons_zero, List.getElem?_cons_succ, List.set_cons_zero, List.set_cons_succ, Option.map_some, decide_true, decide_false, set2, set_len, asg_nm, asg_tp, asgs_nil, asgs_cons, Option.bind_some, wipeE, b_add, b_sub, k_lt, k_le, k_gt, k_ge, k_eq, k_ne, k_isN, k_isnN, s_lst, s_tup, Bool.and_true, Bool.true_and, if_true, if_false, reduceCtorEq, Nat.reduceAdd, Nat.reduceSub, Nat.reduceLT, Nat.reduceLeDiff, Nat.reduceEqDiff, Bool.and_false, Bool.false_and, Bool.not_true, Bool.not_false, Bool.false_eq_true, okk_bind, okk_ok, okk_nox, okk_out, oks_seq, oks_of, oks_nx, oks_rt, ixc0, ixc1, ixc2, ixc3, nat_c, Int.reduceSub, Int.reduceAdd, Int.reduceEq, Int.reduceLT, Int.reduceLE, Int.reduceMul, Bool.or_false, Bool.false_or, Bool.true_or, Bool.or_true, Bool.or_self, Bool.and_self, List.isEmpty_nil, List.isEmpty_cons, bq1, bq2, bq3, bq4, cond_true, cond_false, eq_self])
  rw [evSs_cons]; (try simp -implicitDefEqProofs only [runD, evSs_nil, evS, evE, evB, evA, evAV, evO, evC, evI, vw, Mini.start, bind_ok, bind_exc, bind_bad, bind_ite, of_somE, of_noneE, sof_ok, sof_exc, sof_bad, sof_ite, seq_nx, seq_rt, seq_exc, seq_bad, seq_ite, out_nx, out_rt, out_exc, out_ite, nox_ok, truth_bl, dif_true, dif_false, Ck.d, List.map_cons, List.map_nil, List.length_cons, List.length_nil, List.replicate, List.cons_append, List.nil_append, List.append_nil, List.getElem?_cons_zero, List.getElem?_cons_succ, List.set_cons_zero, List.set_cons_succ, Option.map_some, decide_true, decide_false, set2, set_len, asg_nm, asg_tp, asgs_nil, asgs_cons, Option.bind_some, wipeE, b_add, b_sub, k_lt, k_le, k_gt, k_ge, k_eq, k_ne, k_isN, k_isnN, s_lst, s_tup, Bool.and_true, Bool.true_and, if_true, if_false, reduceCtorEq, Nat.reduceAdd, Nat.reduceSub, Nat.reduceLT, Nat.reduceLeDiff, Nat.reduceEqDiff, Bool.and_false, Bool.false_and, Bool.not_true, Bool.not_false, Bool.false_eq_true, okk_bind, okk_ok, okk_nox, okk_out, oks_seq, oks_of, oks_nx, oks_rt, ixc0, ixc1, ixc2, ixc3, nat_c, Int.reduceSub, Int.reduceAdd, Int.reduceEq, Int.reduceLT, Int.reduceLE, Int.reduceMul, Bool.or_false, Bool.false_or, Bool.true_or, Bool.or_true, Bool.or_self, Bool.and_self, List.isEmpty_nil, List.isEmpty_cons, bq1, bq2, bq3, bq4, cond_true, cond_false, eq_self])
  rw [evSs_cons]; (try simp -implicitDefEqProofs only [runD, evSs_nil, evS, evE, evB, evA, evAV, evO, evC, evI, vw, Mini.start, bind_ok, bind_exc, bind_bad, bind_ite, of_somE, of_noneE, sof_ok, sof_exc, sof_bad, sof_ite, seq_nx, seq_rt, seq_exc, seq_bad, seq_ite, out_nx, out_rt, out_exc, out_ite, nox_ok, truth_bl, dif_true, dif_false, Ck.d, List.map_cons, List.map_nil, List.length_cons, List.length_nil, List.replicate, List.cons_append, List.nil_append, List.append_nil, List.getElem?_cons_zero, List.getElem?_cons_succ, List.set_cons_zero, List.set_cons_succ, Option.map_some, decide_true, decide_false, set2, set_len, asg_nm, asg_tp, asgs_nil, asgs_cons, Option.bind_some, wipeE, b_add, b_sub, k_lt, k_le, k_gt, k_ge, k_eq, k_ne, k_isN, k_isnN, s_lst, s_tup, Bool.and_true, Bool.true_and, if_true, if_false, reduceCtorEq, Nat.reduceAdd, Nat.reduceSub, Nat.reduceLT, Nat.reduceLeDiff, Nat.reduceEqDiff, Bool.and_false, Bool.false_and, Bool.not_true, Bool.not_false, Bool.false_eq_true, okk_bind, okk_ok, okk_nox, okk_out, oks_seq, oks_of, oks_nx, oks_rt, ixc0, ixc1, ixc2, ixc3, nat_c, Int.reduceSub, Int.reduceAdd, Int.reduceEq, Int.reduceLT, Int.reduceLE, Int.reduceMul, Bool.or_false, Bool.false_or, Bool.true_or, Bool.or_true, Bool.or_self, Bool.and_self, List.isEmpty_nil, List.isEmpty_cons, bq1, bq2, bq3, bq4, cond_true, cond_false, eq_self])
  refine (c_rollK hT (n := n + k + 2) (r + 19999) hi (hd.less (by omega)) (by omega) (by decide) (by decide)).mono fun d h' q => ?_
  obtain ⟨a1, b1, rfl, d1, x, rfl, x0, x1⟩ := q
  have sm : small x = true := by simp [small]; omega
  simp -implicitDefEqProofs only [runD, evSs_nil, evS, evE, evB, evA, evAV, evO, evC, evI, vw, Mini.start, bind_ok, bind_exc, bind_bad, bind_ite, of_somE, of_noneE, sof_ok, sof_exc, sof_bad, sof_ite, seq_nx, seq_rt, seq_exc, seq_bad, seq_ite, out_nx, out_rt, out_exc, out_ite, nox_ok, truth_bl, dif_true, dif_false, Ck.d, List.map_cons, List.map_nil, List.length_cons, List.length_nil, List.replicate, List.cons_append, List.nil_append, List.append_nil, List.getElem?_cons_zero, List.getElem?_cons_succ, List.set_cons_zero, List.set_cons_succ, Option.map_some, decide_true, decide_false, set2, set_len, asg_nm, asg_tp, asgs_nil, asgs_cons, Option.bind_some, wipeE, b_add, b_sub, k_lt, k_le, k_gt, k_ge, k_eq, k_ne, k_isN, k_isnN, s_lst, s_tup, Bool.and_true, Bool.true_and, if_true, if_false, reduceCtorEq, Nat.reduceAdd, Nat.reduceSub, Nat.reduceLT, Nat.reduceLeDiff, Nat.reduceEqDiff, Bool.and_false, Bool.false_and, Bool.not_true, Bool.not_false, Bool.false_eq_true, okk_bind, okk_ok, okk_nox, okk_out, oks_seq, oks_of, oks_nx, oks_rt, ixc0, ixc1, ixc2, ixc3, nat_c, Int.reduceSub, Int.reduceAdd, Int.reduceEq, Int.reduceLT, Int.reduceLE, Int.reduceMul, Bool.or_false, Bool.false_or, Bool.true_or, Bool.or_true, Bool.or_self, Bool.and_self, List.isEmpty_nil, List.isEmpty_cons, bq1, bq2, bq3, bq4, cond_true, cond_false, eq_self, sm]
  refine forL_by (fun rest ρ h' => ∃ a b L z3 z4, ρ = [some (.val (.ref i)), some (.val (.int (k + 1 : Nat))), some (.own (L.map ruD)), z3, z4] ∧ h' = h.set i (dc a b) ∧ Dc (r + 10 + 3000 * rest.length) a b ∧ Dn 3 (k + 1) L ∧ L.length + rest.length ≤ 3) (fun ρ h' p => ?_) (fun y rest ρ h' p => ?_)
    ⟨a1, b1, [], none, none, rfl, rfl, d1.less (by simp only [rngD, List.length_map, List.length_range]; omega), ⟨by simp, by simp, by simp, by simp⟩, by simp only [rngD, List.length_map, List.length_range, List.length_nil]; omega⟩
  · obtain ⟨a2, b2, L, z3, z4, rfl, rfl, d2, dn, hl⟩ := p
    rw [evSs_cons]; (try simp -implicitDefEqProofs only [runD, evSs_nil, evS, evE, evB, evA, evAV, evO, evC, evI, vw, Mini.start, bind_ok, bind_exc, bind_bad, bind_ite, of_somE, of_noneE, sof_ok, sof_exc, sof_bad, sof_ite, seq_nx, seq_rt, seq_exc, seq_bad, seq_ite, out_nx, out_rt, out_exc, out_ite, nox_ok, truth_bl, dif_true, dif_false, Ck.d, List.map_cons, List.map_nil, List.length_cons, List.length_nil, List.replicate, List.cons_append, List.nil_append, List.append_nil, List.getElem?_cons_zero, List.getElem?_cons_succ, List.set_cons_zero, List.set_cons_succ, Option.map_some, decide_true, decide_false, set2, set_len, asg_nm, asg_tp, asgs_nil, asgs_cons, Option.bind_some, wipeE, b_add, b_sub, k_lt, k_le, k_gt, k_ge, k_eq, k_ne, k_isN, k_isnN, s_lst, s_tup, Bool.and_true, Bool.true_and, if_true, if_false, reduceCtorEq, Nat.reduceAdd, Nat.reduceSub, Nat.reduceLT, Nat.reduceLeDiff, Nat.reduceEqDiff, Bool.and_false, Bool.false_and, Bool.not_true, Bool.not_false, Bool.false_eq_true, okk_bind, okk_ok, okk_nox, okk_out, oks_seq, oks_of, oks_nx, oks_rt, ixc0, ixc1, ixc2, ixc3, nat_c, Int.reduceSub, Int.reduceAdd, Int.reduceEq, Int.reduceLT, Int.reduceLE, Int.reduceMul, Bool.or_false, Bool.false_or, Bool.true_or, Bool.or_true, Bool.or_self, Bool.and_self, List.isEmpty_nil, List.isEmpty_cons, bq1, bq2, bq3, bq4, cond_true, cond_false, eq_self])
    refine (c_rollK hT (n := n + k + 2) (r + 1) hi (d2.less (by simp; omega)) (by omega) (by decide) (by decide)).mono fun d h' q => ?_
    obtain ⟨a3, b3, rfl, d3, y, rfl, y0, y1⟩ := q
    have l2 : (L.map ruD).length < 1000000 := by simp only [List.length_map]; have := dn.len; omega
    by_cases c : y = 0
    · subst c
      (try simp -implicitDefEqProofs only [runD, evSs_nil, evS, evE, evB, evA, evAV, evO, evC, evI, vw, Mini.start, bind_ok, bind_exc, bind_bad, bind_ite, of_somE, of_noneE, sof_ok, sof_exc, sof_bad, sof_ite, seq_nx, seq_rt, seq_exc, seq_bad, seq_ite, out_nx, out_rt, out_exc, out_ite, nox_ok, truth_bl, dif_true, dif_false, Ck.d, List.map_cons, List.map_nil, List.length_cons, List.length_nil, List.replicate, List.cons_append, List.nil_append, List.append_nil, List.getElem?_cons_zero, List.getElem?_cons_succ, List.set_cons_zero, List.set_cons_succ, Option.map_some, decide_true, decide_false, set2, set_len, asg_nm, asg_tp, asgs_nil, asgs_cons, Option.bind_some, wipeE, b_add, b_sub, k_lt, k_le, k_gt, k_ge, k_eq, k_ne, k_isN, k_isnN, s_lst, s_tup, Bool.and_true, Bool.true_and, if_true, if_false, reduceCtorEq, Nat.reduceAdd, Nat.reduceSub, Nat.reduceLT, Nat.reduceLeDiff, Nat.reduceEqDiff, Bool.and_false, Bool.false_and, Bool.not_true, Bool.not_false, Bool.false_eq_true, okk_bind, okk_ok, okk_nox, okk_out, oks_seq, oks_of, oks_nx, oks_rt, ixc0, ixc1, ixc2, ixc3, nat_c, Int.reduceSub, Int.reduceAdd, Int.reduceEq, Int.reduceLT, Int.reduceLE, Int.reduceMul, Bool.or_false, Bool.false_or, Bool.true_or, Bool.or_true, Bool.or_self, Bool.and_self, List.isEmpty_nil, List.isEmpty_cons, bq1, bq2, bq3, bq4, cond_true, cond_false, eq_self])
      rw [evSs_cons]; (try simp -implicitDefEqProofs only [runD, evSs_nil, evS, evE, evB, evA, evAV, evO, evC, evI, vw, Mini.start, bind_ok, bind_exc, bind_bad, bind_ite, of_somE, of_noneE, sof_ok, sof_exc, sof_bad, sof_ite, seq_nx, seq_rt, seq_exc, seq_bad, seq_ite, out_nx, out_rt, out_exc, out_ite, nox_ok, truth_bl, dif_true, dif_false, Ck.d, List.map_cons, List.map_nil, List.length_cons, List.length_nil, List.replicate, List.cons_append, List.nil_append, List.append_nil, List.getElem?_cons_zero, List.getElem?_cons_succ, List.set_cons_zero, List.set_cons_succ, Option.map_some, decide_true, decide_false, set2, set_len, asg_nm, asg_tp, asgs_nil, asgs_cons, Option.bind_some, wipeE, b_add, b_sub, k_lt, k_le, k_gt, k_ge, k_eq, k_ne, k_isN, k_isnN, s_lst, s_tup, Bool.and_true, Bool.true_and, if_true, if_false, reduceCtorEq, Nat.reduceAdd, Nat.reduceSub, Nat.reduceLT, Nat.reduceLeDiff, Nat.reduceEqDiff, Bool.and_false, Bool.false_and, Bool.not_true, Bool.not_false, Bool.false_eq_true, okk_bind, okk_ok, okk_nox, okk_out, oks_seq, oks_of, oks_nx, oks_rt, ixc0, ixc1, ixc2, ixc3, nat_c, Int.reduceSub, Int.reduceAdd, Int.reduceEq, Int.reduceLT, Int.reduceLE, Int.reduceMul, Bool.or_false, Bool.false_or, Bool.true_or, Bool.or_true, Bool.or_self, Bool.and_self, List.isEmpty_nil, List.isEmpty_cons, bq1, bq2, bq3, bq4, cond_true, cond_false, eq_self])
      refine (c_rollK hT (n := n + k + 2) r hi d3 hr (by decide) (by decide)).mono fun d h' q => ?_
      obtain ⟨a4, b4, rfl, d4, v, rfl, v0, v1⟩ := q
      simp -implicitDefEqProofs only [runD, evSs_nil, evS, evE, evB, evA, evAV, evO, evC, evI, vw, Mini.start, bind_ok, bind_exc, bind_bad, bind_ite, of_somE, of_noneE, sof_ok, sof_exc, sof_bad, sof_ite, seq_nx, seq_rt, seq_exc, seq_bad, seq_ite, out_nx, out_rt, out_exc, out_ite, nox_ok, truth_bl, dif_true, dif_false, Ck.d, List.map_cons, List.map_nil, List.length_cons, List.length_nil, List.replicate, List.cons_append, List.nil_append, List.append_nil, List.getElem?_cons_zero, List.getElem?_cons_succ, List.set_cons_zero, List.set_cons_succ, Option.map_some, decide_true, decide_false, set2, set_len, asg_nm, asg_tp, asgs_nil, asgs_cons, Option.bind_some, wipeE, b_add, b_sub, k_lt, k_le, k_gt, k_ge, k_eq, k_ne, k_isN, k_isnN, s_lst, s_tup, Bool.and_true, Bool.true_and, if_true, if_false, reduceCtorEq, Nat.reduceAdd, Nat.reduceSub, Nat.reduceLT, Nat.reduceLeDiff, Nat.reduceEqDiff, Bool.and_false, Bool.false_and, Bool.not_true, Bool.not_false, Bool.false_eq_true, okk_bind, okk_ok, okk_nox, okk_out, oks_seq, oks_of, oks_nx, oks_rt, ixc0, ixc1, ixc2, ixc3, nat_c, Int.reduceSub, Int.reduceAdd, Int.reduceEq, Int.reduceLT, Int.reduceLE, Int.reduceMul, Bool.or_false, Bool.false_or, Bool.true_or, Bool.or_true, Bool.or_self, Bool.and_self, List.isEmpty_nil, List.isEmpty_cons, bq1, bq2, bq3, bq4, cond_true, cond_false, eq_self, l2]
      rw [evSs_cons]; simp -implicitDefEqProofs only [runD, evSs_nil, evS, evE, evB, evA, evAV, evO, evC, evI, vw, Mini.start, bind_ok, bind_exc, bind_bad, bind_ite, of_somE, of_noneE, sof_ok, sof_exc, sof_bad, sof_ite, seq_nx, seq_rt, seq_exc, seq_bad, seq_ite, out_nx, out_rt, out_exc, out_ite, nox_ok, truth_bl, dif_true, dif_false, Ck.d, List.map_cons, List.map_nil, List.length_cons, List.length_nil, List.replicate, List.cons_append, List.nil_append, List.append_nil, List.getElem?_cons_zero, List.getElem?_cons_succ, List.set_cons_zero, List.set_cons_succ, Option.map_some, decide_true, decide_false, set2, set_len, asg_nm, asg_tp, asgs_nil, asgs_cons, Option.bind_some, wipeE, b_add, b_sub, k_lt, k_le, k_gt, k_ge, k_eq, k_ne, k_isN, k_isnN, s_lst, s_tup, Bool.and_true, Bool.true_and, if_true, if_false, reduceCtorEq, Nat.reduceAdd, Nat.reduceSub, Nat.reduceLT, Nat.reduceLeDiff, Nat.reduceEqDiff, Bool.and_false, Bool.false_and, Bool.not_true, Bool.not_false, Bool.false_eq_true, okk_bind, okk_ok, okk_nox, okk_out, oks_seq, oks_of, oks_nx, oks_rt, ixc0, ixc1, ixc2, ixc3, nat_c, Int.reduceSub, Int.reduceAdd, Int.reduceEq, Int.reduceLT, Int.reduceLE, Int.reduceMul, Bool.or_false, Bool.false_or, Bool.true_or, Bool.or_true, Bool.or_self, Bool.and_self, List.isEmpty_nil, List.isEmpty_cons, bq1, bq2, bq3, bq4, cond_true, cond_false, eq_self, tuple_lst]
      refine ⟨a4, b4, rfl, d4, L ++ [(.tup [.str "plan", .tup [.int 0, .int 1, .int 2, .int 3]], v)], by rw [rulesD, List.map_append]; rfl, dn.add cn_all v0 (by omega)⟩
    · simp -implicitDefEqProofs only [runD, evSs_nil, evS, evE, evB, evA, evAV, evO, evC, evI, vw, Mini.start, bind_ok, bind_exc, bind_bad, bind_ite, of_somE, of_noneE, sof_ok, sof_exc, sof_bad, sof_ite, seq_nx, seq_rt, seq_exc, seq_bad, seq_ite, out_nx, out_rt, out_exc, out_ite, nox_ok, truth_bl, dif_true, dif_false, Ck.d, List.map_cons, List.map_nil, List.length_cons, List.length_nil, List.replicate, List.cons_append, List.nil_append, List.append_nil, List.getElem?_cons_zero, List.getElem?_cons_succ, List.set_cons_zero, List.set_cons_succ, Option.map_some, decide_true, decide_false, set2, set_len, asg_nm, asg_tp, asgs_nil, asgs_cons, Option.bind_some, wipeE, b_add, b_sub, k_lt, k_le, k_gt, k_ge, k_eq, k_ne, k_isN, k_isnN, s_lst, s_tup, Bool.and_true, Bool.true_and, if_true, if_false, reduceCtorEq, Nat.reduceAdd, Nat.reduceSub, Nat.reduceLT, Nat.reduceLeDiff, Nat.reduceEqDiff, Bool.and_false, Bool.false_and, Bool.not_true, Bool.not_false, Bool.false_eq_true, okk_bind, okk_ok, okk_nox, okk_out, oks_seq, oks_of, oks_nx, oks_rt, ixc0, ixc1, ixc2, ixc3, nat_c, Int.reduceSub, Int.reduceAdd, Int.reduceEq, Int.reduceLT, Int.reduceLE, Int.reduceMul, Bool.or_false, Bool.false_or, Bool.true_or, Bool.or_true, Bool.or_self, Bool.and_self, List.isEmpty_nil, List.isEmpty_cons, bq1, bq2, bq3, bq4, cond_true, cond_false, eq_self, c]
      rw [evSs_cons]; simp -implicitDefEqProofs only [runD, evSs_nil, evS, evE, evB, evA, evAV, evO, evC, evI, vw, Mini.start, bind_ok, bind_exc, bind_bad, bind_ite, of_somE, of_noneE, sof_ok, sof_exc, sof_bad, sof_ite, seq_nx, seq_rt, seq_exc, seq_bad, seq_ite, out_nx, out_rt, out_exc, out_ite, nox_ok, truth_bl, dif_true, dif_false, Ck.d, List.map_cons, List.map_nil, List.length_cons, List.length_nil, List.replicate, List.cons_append, List.nil_append, List.append_nil, List.getElem?_cons_zero, List.getElem?_cons_succ, List.set_cons_zero, List.set_cons_succ, Option.map_some, decide_true, decide_false, set2, set_len, asg_nm, asg_tp, asgs_nil, asgs_cons, Option.bind_some, wipeE, b_add, b_sub, k_lt, k_le, k_gt, k_ge, k_eq, k_ne, k_isN, k_isnN, s_lst, s_tup, Bool.and_true, Bool.true_and, if_true, if_false, reduceCtorEq, Nat.reduceAdd, Nat.reduceSub, Nat.reduceLT, Nat.reduceLeDiff, Nat.reduceEqDiff, Bool.and_false, Bool.false_and, Bool.not_true, Bool.not_false, Bool.false_eq_true, okk_bind, okk_ok, okk_nox, okk_out, oks_seq, oks_of, oks_nx, oks_rt, ixc0, ixc1, ixc2, ixc3, nat_c, Int.reduceSub, Int.reduceAdd, Int.reduceEq, Int.reduceLT, Int.reduceLE, Int.reduceMul, Bool.or_false, Bool.false_or, Bool.true_or, Bool.or_true, Bool.or_self, Bool.and_self, List.isEmpty_nil, List.isEmpty_cons, bq1, bq2, bq3, bq4, cond_true, cond_false, eq_self, tuple_lst]
      exact ⟨a3, b3, rfl, d3.less (by omega), L, rfl, dn.more (by omega)⟩
  · obtain ⟨a2, b2, L, z3, z4, rfl, rfl, d2, dn, hl⟩ := p
    simp only [List.length_cons] at d2 hl
    (try simp -implicitDefEqProofs only [runD, evSs_nil, evS, evE, evB, evA, evAV, evO, evC, evI, vw, Mini.start, bind_ok, bind_exc, bind_bad, bind_ite, of_somE, of_noneE, sof_ok, sof_exc, sof_bad, sof_ite, seq_nx, seq_rt, seq_exc, seq_bad, seq_ite, out_nx, out_rt, out_exc, out_ite, nox_ok, truth_bl, dif_true, dif_false, Ck.d, List.map_cons, List.map_nil, List.length_cons, List.length_nil, List.replicate, List.cons_append, List.nil_append, List.append_nil, List.getElem?_cons_zero, List.getElem?_cons_succ, List.set_cons_zero, List.set_cons_succ, Option.map_some, decide_true, decide_false, set2, set_len, asg_nm, asg_tp, asgs_nil, asgs_cons, Option.bind_some, wipeE, b_add, b_sub, k_lt, k_le, k_gt, k_ge, k_eq, k_ne, k_isN, k_isnN, s_lst, s_tup, Bool.and_true, Bool.true_and, if_true, if_false, reduceCtorEq, Nat.reduceAdd, Nat.reduceSub, Nat.reduceLT, Nat.reduceLeDiff, Nat.reduceEqDiff, Bool.and_false, Bool.false_and, Bool.not_true, Bool.not_false, Bool.false_eq_true, okk_bind, okk_ok, okk_nox, okk_out, oks_seq, oks_of, oks_nx, oks_rt, ixc0, ixc1, ixc2, ixc3, nat_c, Int.reduceSub, Int.reduceAdd, Int.reduceEq, Int.reduceLT, Int.reduceLE, Int.reduceMul, Bool.or_false, Bool.false_or, Bool.true_or, Bool.or_true, Bool.or_self, Bool.and_self, List.isEmpty_nil, List.isEmpty_cons, bq1, bq2, bq3, bq4, cond_true, cond_false, eq_self])
    rw [evSs_cons]; (try simp -implicitDefEqProofs only [runD, evSs_nil, evS, evE, evB, evA, evAV, evO, evC, evI, vw, Mini.start, bind_ok, bind_exc, bind_bad, bind_ite, of_somE, of_noneE, sof_ok, sof_exc, sof_bad, sof_ite, seq_nx, seq_rt, seq_exc, seq_bad, seq_ite, out_nx, out_rt, out_exc, out_ite, nox_ok, truth_bl, dif_true, dif_false, Ck.d, List.map_cons, List.map_nil, List.length_cons, List.length_nil, List.replicate, List.cons_append, List.nil_append, List.append_nil, List.getElem?_cons_zero, List.getElem?_cons_succ, List.set_cons_zero, List.set_cons_succ, Option.map_some, decide_true, decide_false, set2, set_len, asg_nm, asg_tp, asgs_nil, asgs_cons, Option.bind_some, wipeE, b_add, b_sub, k_lt, k_le, k_gt, k_ge, k_eq, k_ne, k_isN, k_isnN, s_lst, s_tup, Bool.and_true, Bool.true_and, if_true, if_false, reduceCtorEq, Nat.reduceAdd, Nat.reduceSub, Nat.reduceLT, Nat.reduceLeDiff, Nat.reduceEqDiff, Bool.and_false, Bool.false_and, Bool.not_true, Bool.not_false, Bool.false_eq_true, okk_bind, okk_ok, okk_nox, okk_out, oks_seq, oks_of, oks_nx, oks_rt, ixc0, ixc1, ixc2, ixc3, nat_c, Int.reduceSub, Int.reduceAdd, Int.reduceEq, Int.reduceLT, Int.reduceLE, Int.reduceMul, Bool.or_false, Bool.false_or, Bool.true_or, Bool.or_true, Bool.or_self, Bool.and_self, List.isEmpty_nil, List.isEmpty_cons, bq1, bq2, bq3, bq4, cond_true, cond_false, eq_self])
    refine (c_rollK hT (n := n + k + 2) (r + 10 + 3000 * rest.length + 2900) hi (d2.less (by omega)) (by omega) (by decide) (by decide)).mono fun d h' q => ?_
    obtain ⟨a3, b3, rfl, d3, v, rfl, v0, v1⟩ := q
    (try simp -implicitDefEqProofs only [runD, evSs_nil, evS, evE, evB, evA, evAV, evO, evC, evI, vw, Mini.start, bind_ok, bind_exc, bind_bad, bind_ite, of_somE, of_noneE, sof_ok, sof_exc, sof_bad, sof_ite, seq_nx, seq_rt, seq_exc, seq_bad, seq_ite, out_nx, out_rt, out_exc, out_ite, nox_ok, truth_bl, dif_true, dif_false, Ck.d, List.map_cons, List.map_nil, List.length_cons, List.length_nil, List.replicate, List.cons_append, List.nil_append, List.append_nil, List.getElem?_cons_zero, List.getElem?_cons_succ, List.set_cons_zero, List.set_cons_succ, Option.map_some, decide_true, decide_false, set2, set_len, asg_nm, asg_tp, asgs_nil, asgs_cons, Option.bind_some, wipeE, b_add, b_sub, k_lt, k_le, k_gt, k_ge, k_eq, k_ne, k_isN, k_isnN, s_lst, s_tup, Bool.and_true, Bool.true_and, if_true, if_false, reduceCtorEq, Nat.reduceAdd, Nat.reduceSub, Nat.reduceLT, Nat.reduceLeDiff, Nat.reduceEqDiff, Bool.and_false, Bool.false_and, Bool.not_true, Bool.not_false, Bool.false_eq_true, okk_bind, okk_ok, okk_nox, okk_out, oks_seq, oks_of, oks_nx, oks_rt, ixc0, ixc1, ixc2, ixc3, nat_c, Int.reduceSub, Int.reduceAdd, Int.reduceEq, Int.reduceLT, Int.reduceLE, Int.reduceMul, Bool.or_false, Bool.false_or, Bool.true_or, Bool.or_true, Bool.or_self, Bool.and_self, List.isEmpty_nil, List.isEmpty_cons, bq1, bq2, bq3, bq4, cond_true, cond_false, eq_self])
    refine (c_rollK hT (n := n + k + 2) (r + 10 + 3000 * rest.length + 2800) hi (d3.less (by omega)) (by omega) (by decide) (by decide)).mono fun d h' q => ?_
    obtain ⟨a4, b4, rfl, d4, w, rfl, w0, w1⟩ := q
    (try simp -implicitDefEqProofs only [runD, evSs_nil, evS, evE, evB, evA, evAV, evO, evC, evI, vw, Mini.start, bind_ok, bind_exc, bind_bad, bind_ite, of_somE, of_noneE, sof_ok, sof_exc, sof_bad, sof_ite, seq_nx, seq_rt, seq_exc, seq_bad, seq_ite, out_nx, out_rt, out_exc, out_ite, nox_ok, truth_bl, dif_true, dif_false, Ck.d, List.map_cons, List.map_nil, List.length_cons, List.length_nil, List.replicate, List.cons_append, List.nil_append, List.append_nil, List.getElem?_cons_zero, List.getElem?_cons_succ, List.set_cons_zero, List.set_cons_succ, Option.map_some, decide_true, decide_false, set2, set_len, asg_nm, asg_tp, asgs_nil, asgs_cons, Option.bind_some, wipeE, b_add, b_sub, k_lt, k_le, k_gt, k_ge, k_eq, k_ne, k_isN, k_isnN, s_lst, s_tup, Bool.and_true, Bool.true_and, if_true, if_false, reduceCtorEq, Nat.reduceAdd, Nat.reduceSub, Nat.reduceLT, Nat.reduceLeDiff, Nat.reduceEqDiff, Bool.and_false, Bool.false_and, Bool.not_true, Bool.not_false, Bool.false_eq_true, okk_bind, okk_ok, okk_nox, okk_out, oks_seq, oks_of, oks_nx, oks_rt, ixc0, ixc1, ixc2, ixc3, nat_c, Int.reduceSub, Int.reduceAdd, Int.reduceEq, Int.reduceLT, Int.reduceLE, Int.reduceMul, Bool.or_false, Bool.false_or, Bool.true_or, Bool.or_true, Bool.or_self, Bool.and_self, List.isEmpty_nil, List.isEmpty_cons, bq1, bq2, bq3, bq4, cond_true, cond_false, eq_self])
    refine (c_rollK hT (n := n + k + 2) (r + 10 + 3000 * rest.length + 2700) hi (d4.less (by omega)) (by omega) (by decide) (by decide)).mono fun d h' q => ?_
    obtain ⟨a5, b5, rfl, d5, x, rfl, x0, x1⟩ := q
    obtain ⟨s, es, s0, s1⟩ : ∃ s : Int, (∀ h : Hd, ixD h (.lst [.int 0, .int 100, .int 1, .int 99, .int v, .int w]) (.int x) = some (.int s)) ∧ 0 ≤ s ∧ s ≤ 100 := by
      have : x = 0 ∨ x = 1 ∨ x = 2 ∨ x = 3 ∨ x = 4 ∨ x = 5 := by omega
      rcases this with rfl | rfl | rfl | rfl | rfl | rfl
      · exact ⟨_, fun _ => rfl, by decide⟩
      · exact ⟨_, fun _ => rfl, by decide⟩
      · exact ⟨_, fun _ => rfl, by decide⟩
      · exact ⟨_, fun _ => rfl, by decide⟩
      · exact ⟨_, fun _ => rfl, by omega⟩
      · exact ⟨_, fun _ => rfl, by omega⟩
    simp -implicitDefEqProofs only [runD, evSs_nil, evS, evE, evB, evA, evAV, evO, evC, evI, vw, Mini.start, bind_ok, bind_exc, bind_bad, bind_ite, of_somE, of_noneE, sof_ok, sof_exc, sof_bad, sof_ite, seq_nx, seq_rt, seq_exc, seq_bad, seq_ite, out_nx, out_rt, out_exc, out_ite, nox_ok, truth_bl, dif_true, dif_false, Ck.d, List.map_cons, List.map_nil, List.length_cons, List.length_nil, List.replicate, List.cons_append, List.nil_append, List.append_nil, List.getElem?_cons_zero, List.getElem?_cons_succ, List.set_cons_zero, List.set_cons_succ, Option.map_some, decide_true, decide_false, set2, set_len, asg_nm, asg_tp, asgs_nil, asgs_cons, Option.bind_some, wipeE, b_add, b_sub, k_lt, k_le, k_gt, k_ge, k_eq, k_ne, k_isN, k_isnN, s_lst, s_tup, Bool.and_true, Bool.true_and, if_true, if_false, reduceCtorEq, Nat.reduceAdd, Nat.reduceSub, Nat.reduceLT, Nat.reduceLeDiff, Nat.reduceEqDiff, Bool.and_false, Bool.false_and, Bool.not_true, Bool.not_false, Bool.false_eq_true, okk_bind, okk_ok, okk_nox, okk_out, oks_seq, oks_of, oks_nx, oks_rt, ixc0, ixc1, ixc2, ixc3, nat_c, Int.reduceSub, Int.reduceAdd, Int.reduceEq, Int.reduceLT, Int.reduceLE, Int.reduceMul, Bool.or_false, Bool.false_or, Bool.true_or, Bool.or_true, Bool.or_self, Bool.and_self, List.isEmpty_nil, List.isEmpty_cons, bq1, bq2, bq3, bq4, cond_true, cond_false, eq_self, es]
    rw [evSs_cons]; (try simp -implicitDefEqProofs only [runD, evSs_nil, evS, evE, evB, evA, evAV, evO, evC, evI, vw, Mini.start, bind_ok, bind_exc, bind_bad, bind_ite, of_somE, of_noneE, sof_ok, sof_exc, sof_bad, sof_ite, seq_nx, seq_rt, seq_exc, seq_bad, seq_ite, out_nx, out_rt, out_exc, out_ite, nox_ok, truth_bl, dif_true, dif_false, Ck.d, List.map_cons, List.map_nil, List.length_cons, List.length_nil, List.replicate, List.cons_append, List.nil_append, List.append_nil, List.getElem?_cons_zero, List.getElem?_cons_succ, List.set_cons_zero, List.set_cons_succ, Option.map_some, decide_true, decide_false, set2, set_len, asg_nm, asg_tp, asgs_nil, asgs_cons, Option.bind_some, wipeE, b_add, b_sub, k_lt, k_le, k_gt, k_ge, k_eq, k_ne, k_isN, k_isnN, s_lst, s_tup, Bool.and_true, Bool.true_and, if_true, if_false, reduceCtorEq, Nat.reduceAdd, Nat.reduceSub, Nat.reduceLT, Nat.reduceLeDiff, Nat.reduceEqDiff, Bool.and_false, Bool.false_and, Bool.not_true, Bool.not_false, Bool.false_eq_true, okk_bind, okk_ok, okk_nox, okk_out, oks_seq, oks_of, oks_nx, oks_rt, ixc0, ixc1, ixc2, ixc3, nat_c, Int.reduceSub, Int.reduceAdd, Int.reduceEq, Int.reduceLT, Int.reduceLE, Int.reduceMul, Bool.or_false, Bool.false_or, Bool.true_or, Bool.or_true, Bool.or_self, Bool.and_self, List.isEmpty_nil, List.isEmpty_cons, bq1, bq2, bq3, bq4, cond_true, cond_false, eq_self])
    refine (c_law_cond hT k hk n (r + 10 + 3000 * rest.length) hi (d5.less (by omega)) (by omega)).mono fun d h' q => ?_
    obtain ⟨a6, b6, rfl, d6, cn⟩ := q
    have l2 : (L.map ruD).length < 1000000 := by simp only [List.length_map]; have := dn.len; omega
    simp -implicitDefEqProofs only [runD, evSs_nil, evS, evE, evB, evA, evAV, evO, evC, evI, vw, Mini.start, bind_ok, bind_exc, bind_bad, bind_ite, of_somE, of_noneE, sof_ok, sof_exc, sof_bad, sof_ite, seq_nx, seq_rt, seq_exc, seq_bad, seq_ite, out_nx, out_rt, out_exc, out_ite, nox_ok, truth_bl, dif_true, dif_false, Ck.d, List.map_cons, List.map_nil, List.length_cons, List.length_nil, List.replicate, List.cons_append, List.nil_append, List.append_nil, List.getElem?_cons_zero, List.getElem?_cons_succ, List.set_cons_zero, List.set_cons_succ, Option.map_some, decide_true, decide_false, set2, set_len, asg_nm, asg_tp, asgs_nil, asgs_cons, Option.bind_some, wipeE, b_add, b_sub, k_lt, k_le, k_gt, k_ge, k_eq, k_ne, k_isN, k_isnN, s_lst, s_tup, Bool.and_true, Bool.true_and, if_true, if_false, reduceCtorEq, Nat.reduceAdd, Nat.reduceSub, Nat.reduceLT, Nat.reduceLeDiff, Nat.reduceEqDiff, Bool.and_false, Bool.false_and, Bool.not_true, Bool.not_false, Bool.false_eq_true, okk_bind, okk_ok, okk_nox, okk_out, oks_seq, oks_of, oks_nx, oks_rt, ixc0, ixc1, ixc2, ixc3, nat_c, Int.reduceSub, Int.reduceAdd, Int.reduceEq, Int.reduceLT, Int.reduceLE, Int.reduceMul, Bool.or_false, Bool.false_or, Bool.true_or, Bool.or_true, Bool.or_self, Bool.and_self, List.isEmpty_nil, List.isEmpty_cons, bq1, bq2, bq3, bq4, cond_true, cond_false, eq_self, l2]
    refine ⟨a6, b6, L ++ [(d, s)], _, _, by rw [List.map_append]; rfl, rfl, d6, ?_, by simp; omega⟩
    have := dn.add cn s0 s1
    exact ⟨by simp; omega, this.c, this.s0, this.s1⟩

/-! ### greater shares -/
/-- the same conditions, no share less -/
def Wd : List (D × Int) → List (D × Int) → Prop
  | [], [] => True
  | q :: r, q' :: r' => q'.1 = q.1 ∧ q.2 ≤ q'.2 ∧ Wd r r'
  | _, _ => False
omit hT in
theorem Wd.app : ∀ {A A' : List (D × Int)} {q q' : D × Int}, Wd A A' → q'.1 = q.1 → q.2 ≤ q'.2 → Wd (A ++ [q]) (A' ++ [q'])
  | [], [], _, _, _, e, l => ⟨e, l, trivial⟩
  | _ :: _, _ :: _, _, _, h, e, l => ⟨h.1, h.2.1, Wd.app h.2.2 e l⟩
omit hT in
theorem Wd.share : ∀ {A A' : List (D × Int)}, Wd A A' → ∀ l p, shareL l p A ≤ shareL l p A'
  | [], [], _, _, _ => Int.le_refl _
  | q :: r, q' :: r', h, l, p => by
    unfold shareL
    rw [h.1]
    cases fitD l p q.1 with
    | true => exact h.2.1
    | false => exact Wd.share h.2.2 l p
theorem c_law_wider {m k : Nat} (n : Nat) {h : Hd} {i : Nat} {a b : Int} {L : List (D × Int)} (dn : Dn m k L) (hm : m ≤ 6) (r : Int) (hi : i < h.length) (hd : Dc (r + 20) a b) (hr : 0 ≤ r) :
    Okk (call T (n + 3) 35 [rulesD L, .ref i] (h.set i (dc a b))) (Dr h i r fun d => ∃ L', d = rulesD L' ∧ Dn m k L' ∧ Wd L L') := by
  rw [callT hT (show T0 35 = some ir_law_wider from rfl)]
  unfold ir_law_wider
  (try simp -implicitDefEqProofs only [runD, evSs_nil, evS, evE, evB, evA, evAV, evO, evC, evI, vw, Mini.start, bind_ok, bind_exc, bind_bad, bind_ite, of_somE, of_noneE, sof_ok, sof_exc, sof_bad, sof_ite, seq_nx, seq_rt, seq_exc, seq_bad, seq_ite, out_nx, out_rt, out_exc, out_ite, nox_ok, truth_bl, dif_true, dif_false, Ck.d, List.map_cons, List.map_nil, List.length_cons, List.length_nil, List.replicate, List.cons_append, List.nil_append, List.append_nil, List.getElem?_cons_zero, List.getElem?_cons_succ, List.set_cons_zero, List.set_cons_succ, Option.map_some, decide_true, decide_false, set2, set_len, asg_nm, asg_tp, asgs_nil, asgs_cons, Option.bind_some, wipeE, b_add, b_sub, k_lt, k_le, k_gt, k_ge, k_eq, k_ne, k_isN, k_isnN, s_lst, s_tup, Bool.and_true, Bool.true_and, if_true, if_false, reduceCtorEq, Nat.reduceAdd, Nat.reduceSub, Nat.reduceLT, Nat.reduceLeDiff, Nat.reduceEqDiff, Bool.and_false, Bool.false_and, Bool.not_true, Bool.not_false, Bool.false_eq_true, okk_bind, okk_ok, okk_nox, okk_out, oks_seq, oks_of, oks_nx, oks_rt, ixc0, ixc1, ixc2, ixc3, nat_c, Int.reduceSub, Int.reduceAdd, Int.reduceEq, Int.reduceLT, Int.reduceLE, Int.reduceMul, Bool.or_false, Bool.false_or, Bool.true_or, Bool.or_true, Bool.or_self, Bool.and_self, List.isEmpty_nil, List.isEmpty_cons, bq1, bq2, bq3, bq4, cond_true, cond_false, eq_self])
  rw [evSs_cons]; (try simp -implicitDefEqProofs only [runD, evSs_nil, evS, evE, evB, evA, evAV, evO, evC, evI, vw, Mini.start, bind_ok, bind_exc, bind_bad, bind_ite, of_somE, of_noneE, sof_ok, sof_exc, sof_bad, sof_ite, seq_nx, seq_rt, seq_exc, seq_bad, seq_ite, out_nx, out_rt, out_exc, out_ite, nox_ok, truth_bl, dif_true, dif_false, Ck.d, List.map_cons, List.map_nil, List.length_cons, List.length_nil, List.replicate, List.cons_append, List.nil_append, List.append_nil, List.getElem?_cons_zero, List.getElem?_cons_succ, List.set_cons_zero, List.set_cons_succ, Option.map_some, decide_true, decide_false, set2, set_len, asg_nm, asg_tp, asgs_nil, asgs_cons, Option.bind_some, wipeE, b_add, b_sub, k_lt, k_le, k_gt, k_ge, k_eq, k_ne, k_isN, k_isnN, s_lst, s_tup, Bool.and_true, Bool.true_and, if_true, if_false, reduceCtorEq, Nat.reduceAdd, Nat.reduceSub, Nat.reduceLT, Nat.reduceLeDiff, Nat.reduceEqDiff, Bool.and_false, Bool.false_and, Bool.not_true, Bool.not_false, Bool.false_eq_true, okk_bind, okk_ok, okk_nox, okk_out, oks_seq, oks_of, oks_nx, oks_rt, ixc0, ixc1, ixc2, ixc3, nat_c, Int.reduceSub, Int.reduceAdd, Int.reduceEq, Int.reduceLT, Int.reduceLE, Int.reduceMul, Bool.or_false, Bool.false_or, Bool.true_or, Bool.or_true, Bool.or_self, Bool.and_self, List.isEmpty_nil, List.isEmpty_cons, bq1, bq2, bq3, bq4, cond_true, cond_false, eq_self])
  refine (loopC_by (acc := []) (fun rest acc h' => ∃ a b A A' B, L = A ++ B ∧ rest = B.map ruD ∧ acc = A'.map ruD ∧ Wd A A' ∧ A'.length = A.length ∧ (∀ q ∈ A', Cn k q.1 ∧ 0 ≤ q.2 ∧ q.2 ≤ 100) ∧ h' = h.set i (dc a b) ∧ Dc (r + 2 * rest.length) a b) (fun x rest acc h' p => ?_)
    ⟨a, b, [], [], L, rfl, rfl, rfl, trivial, rfl, by simp, rfl, hd.less (by have := dn.len; simp only [List.length_map]; omega)⟩).mono fun ys h' q => ?_
  · obtain ⟨a1, b1, A, A', B, eL, e2, e3, wd, el, good, rfl, d1⟩ := p
    match B, e2, eL with
    | (c, s) :: B, e2, eL =>
      rw [List.map_cons, List.cons.injEq] at e2
      obtain ⟨rfl, rfl⟩ := e2
      simp only [List.length_cons, List.length_map] at d1
      have hq : (c, s) ∈ L := by rw [eL]; simp
      have s0 : 0 ≤ s := dn.s0 _ hq
      have s1 : s ≤ 100 := dn.s1 _ hq
      simp -implicitDefEqProofs only [runD, evSs_nil, evS, evE, evB, evA, evAV, evO, evC, evI, vw, Mini.start, bind_ok, bind_exc, bind_bad, bind_ite, of_somE, of_noneE, sof_ok, sof_exc, sof_bad, sof_ite, seq_nx, seq_rt, seq_exc, seq_bad, seq_ite, out_nx, out_rt, out_exc, out_ite, nox_ok, truth_bl, dif_true, dif_false, Ck.d, List.map_cons, List.map_nil, List.length_cons, List.length_nil, List.replicate, List.cons_append, List.nil_append, List.append_nil, List.getElem?_cons_zero, List.getElem?_cons_succ, List.set_cons_zero, List.set_cons_succ, Option.map_some, decide_true, decide_false, set2, set_len, asg_nm, asg_tp, asgs_nil, asgs_cons, Option.bind_some, wipeE, b_add, b_sub, k_lt, k_le, k_gt, k_ge, k_eq, k_ne, k_isN, k_isnN, s_lst, s_tup, Bool.and_true, Bool.true_and, if_true, if_false, reduceCtorEq, Nat.reduceAdd, Nat.reduceSub, Nat.reduceLT, Nat.reduceLeDiff, Nat.reduceEqDiff, Bool.and_false, Bool.false_and, Bool.not_true, Bool.not_false, Bool.false_eq_true, okk_bind, okk_ok, okk_nox, okk_out, oks_seq, oks_of, oks_nx, oks_rt, ixc0, ixc1, ixc2, ixc3, nat_c, Int.reduceSub, Int.reduceAdd, Int.reduceEq, Int.reduceLT, Int.reduceLE, Int.reduceMul, Bool.or_false, Bool.false_or, Bool.true_or, Bool.or_true, Bool.or_self, Bool.and_self, List.isEmpty_nil, List.isEmpty_cons, bq1, bq2, bq3, bq4, cond_true, cond_false, eq_self, ruD]
      refine (c_rollK hT (n := n) (r + 2 * B.length + 1) hi (d1.less (by omega)) (by omega) (by decide) (by decide)).mono fun d h' q => ?_
      obtain ⟨a2, b2, rfl, d2, x, rfl, x0, x1⟩ := q
      (try simp -implicitDefEqProofs only [runD, evSs_nil, evS, evE, evB, evA, evAV, evO, evC, evI, vw, Mini.start, bind_ok, bind_exc, bind_bad, bind_ite, of_somE, of_noneE, sof_ok, sof_exc, sof_bad, sof_ite, seq_nx, seq_rt, seq_exc, seq_bad, seq_ite, out_nx, out_rt, out_exc, out_ite, nox_ok, truth_bl, dif_true, dif_false, Ck.d, List.map_cons, List.map_nil, List.length_cons, List.length_nil, List.replicate, List.cons_append, List.nil_append, List.append_nil, List.getElem?_cons_zero, List.getElem?_cons_succ, List.set_cons_zero, List.set_cons_succ, Option.map_some, decide_true, decide_false, set2, set_len, asg_nm, asg_tp, asgs_nil, asgs_cons, Option.bind_some, wipeE, b_add, b_sub, k_lt, k_le, k_gt, k_ge, k_eq, k_ne, k_isN, k_isnN, s_lst, s_tup, Bool.and_true, Bool.true_and, if_true, if_false, reduceCtorEq, Nat.reduceAdd, Nat.reduceSub, Nat.reduceLT, Nat.reduceLeDiff, Nat.reduceEqDiff, Bool.and_false, Bool.false_and, Bool.not_true, Bool.not_false, Bool.false_eq_true, okk_bind, okk_ok, okk_nox, okk_out, oks_seq, oks_of, oks_nx, oks_rt, ixc0, ixc1, ixc2, ixc3, nat_c, Int.reduceSub, Int.reduceAdd, Int.reduceEq, Int.reduceLT, Int.reduceLE, Int.reduceMul, Bool.or_false, Bool.false_or, Bool.true_or, Bool.or_true, Bool.or_self, Bool.and_self, List.isEmpty_nil, List.isEmpty_cons, bq1, bq2, bq3, bq4, cond_true, cond_false, eq_self])
      refine (c_rollK hT (n := n) (r + 2 * B.length) hi d2 (by omega) (by decide) (by decide)).mono fun d h' q => ?_
      obtain ⟨a3, b3, rfl, d3, y, rfl, y0, y1⟩ := q
      have lx : x.natAbs.log2 < 64 := lg (by decide) (by omega)
      have ly : y.natAbs.log2 < 64 := lg (by decide) (by omega)
      have xy : 0 ≤ x * y := Int.mul_nonneg x0 y0
      simp -implicitDefEqProofs only [runD, evSs_nil, evS, evE, evB, evA, evAV, evO, evC, evI, vw, Mini.start, bind_ok, bind_exc, bind_bad, bind_ite, of_somE, of_noneE, sof_ok, sof_exc, sof_bad, sof_ite, seq_nx, seq_rt, seq_exc, seq_bad, seq_ite, out_nx, out_rt, out_exc, out_ite, nox_ok, truth_bl, dif_true, dif_false, Ck.d, List.map_cons, List.map_nil, List.length_cons, List.length_nil, List.replicate, List.cons_append, List.nil_append, List.append_nil, List.getElem?_cons_zero, List.getElem?_cons_succ, List.set_cons_zero, List.set_cons_succ, Option.map_some, decide_true, decide_false, set2, set_len, asg_nm, asg_tp, asgs_nil, asgs_cons, Option.bind_some, wipeE, b_add, b_sub, k_lt, k_le, k_gt, k_ge, k_eq, k_ne, k_isN, k_isnN, s_lst, s_tup, Bool.and_true, Bool.true_and, if_true, if_false, reduceCtorEq, Nat.reduceAdd, Nat.reduceSub, Nat.reduceLT, Nat.reduceLeDiff, Nat.reduceEqDiff, Bool.and_false, Bool.false_and, Bool.not_true, Bool.not_false, Bool.false_eq_true, okk_bind, okk_ok, okk_nox, okk_out, oks_seq, oks_of, oks_nx, oks_rt, ixc0, ixc1, ixc2, ixc3, nat_c, Int.reduceSub, Int.reduceAdd, Int.reduceEq, Int.reduceLT, Int.reduceLE, Int.reduceMul, Bool.or_false, Bool.false_or, Bool.true_or, Bool.or_true, Bool.or_self, Bool.and_self, List.isEmpty_nil, List.isEmpty_cons, bq1, bq2, bq3, bq4, cond_true, cond_false, eq_self, b_mul (show x.natAbs.log2 + y.natAbs.log2 < 134000000 by omega), show ∀ (h : Hd) (u v : Int), biD h .min [.int u, .int v] = some (.int (if v < u then v else u)) from fun _ _ _ => rfl]
      generalize ew : (if s + x * y < 100 then s + x * y else 100) = w
      have w0 : s ≤ w ∧ w ≤ 100 := by
        subst ew
        split <;> omega
      refine ⟨a3, b3, A ++ [(c, s)], A' ++ [(c, w)], B, by rw [eL]; simp, rfl, by rw [e3, List.map_append]; rfl, wd.app rfl w0.1, by simp [el], fun q hq2 => ?_, rfl, by simp only [List.length_map]; exact d3⟩
      rcases List.mem_append.mp hq2 with hq2 | hq2
      · exact good q hq2
      · have := List.mem_singleton.mp hq2
        subst this
        exact ⟨show Cn k c from dn.c (c, s) hq, show 0 ≤ w by omega, w0.2⟩
  · obtain ⟨a1, b1, A, A', B, eL, e2, e3, wd, el, good, rfl, d1⟩ := q
    have : B = [] := List.map_eq_nil_iff.mp e2.symm
    subst this
    rw [List.append_nil] at eL
    subst eL
    simp only [List.nil_append] at e3
    subst e3
    have l2 : (A'.map ruD).length ≤ 1000000 := by simp only [List.length_map]; have := dn.len; omega
    simp -implicitDefEqProofs only [runD, evSs_nil, evS, evE, evB, evA, evAV, evO, evC, evI, vw, Mini.start, bind_ok, bind_exc, bind_bad, bind_ite, of_somE, of_noneE, sof_ok, sof_exc, sof_bad, sof_ite, seq_nx, seq_rt, seq_exc, seq_bad, seq_ite, out_nx, out_rt, out_exc, out_ite, nox_ok, truth_bl, dif_true, dif_false, Ck.d, List.map_cons, List.map_nil, List.length_cons, List.length_nil, List.replicate, List.cons_append, List.nil_append, List.append_nil, List.getElem?_cons_zero, List.getElem?_cons_succ, List.set_cons_zero, List.set_cons_succ, Option.map_some, decide_true, decide_false, set2, set_len, asg_nm, asg_tp, asgs_nil, asgs_cons, Option.bind_some, wipeE, b_add, b_sub, k_lt, k_le, k_gt, k_ge, k_eq, k_ne, k_isN, k_isnN, s_lst, s_tup, Bool.and_true, Bool.true_and, if_true, if_false, reduceCtorEq, Nat.reduceAdd, Nat.reduceSub, Nat.reduceLT, Nat.reduceLeDiff, Nat.reduceEqDiff, Bool.and_false, Bool.false_and, Bool.not_true, Bool.not_false, Bool.false_eq_true, okk_bind, okk_ok, okk_nox, okk_out, oks_seq, oks_of, oks_nx, oks_rt, ixc0, ixc1, ixc2, ixc3, nat_c, Int.reduceSub, Int.reduceAdd, Int.reduceEq, Int.reduceLT, Int.reduceLE, Int.reduceMul, Bool.or_false, Bool.false_or, Bool.true_or, Bool.or_true, Bool.or_self, Bool.and_self, List.isEmpty_nil, List.isEmpty_cons, bq1, bq2, bq3, bq4, cond_true, cond_false, eq_self, l2, tuple_lst]
    exact ⟨a1, b1, rfl, d1.less (by simp), A', rfl, ⟨by rw [el]; exact dn.len, fun q hq => (good q hq).1, fun q hq => (good q hq).2.1, fun q hq => (good q hq).2.2⟩, wd⟩
end
end Mini

/-! D12: courses. -/
namespace Mini
open PySem PySem.Spec L2
abbrev Co := List (Int × List (D × Int))
def coD (q : Int × List (D × Int)) : D := .tup [.int q.1, rulesD q.2]
abbrev courseD (C : Co) : D := .tup (C.map coD)
structure IsCo (C : Co) : Prop where
  l0 : 1 ≤ C.length
  l1 : C.length ≤ 8
  d0 : ∀ q ∈ C, 0 ≤ q.1
  d1 : ∀ q ∈ C, q.1 ≤ 10000
  r : ∀ q ∈ C, IsR q.2
  up : C.Pairwise fun p q => p.1 < q.1
def onC (C : Co) (day : Int) : List (D × Int) := ((C.filter fun q => decide (q.1 ≤ day)).getLast?.map (·.2)).getD []
theorem onC_add (A : Co) (q : Int × List (D × Int)) (day : Int) : onC (A ++ [q]) day = if decide (q.1 ≤ day) = true then q.2 else onC A day := by
  unfold onC
  rw [List.filter_append]
  by_cases c : q.1 ≤ day
  · have : [q].filter (fun q => decide (q.1 ≤ day)) = [q] := by simp [c]
    rw [this]
    simp [c]
  · have : [q].filter (fun q => decide (q.1 ≤ day)) = [] := by simp [c]
    rw [this]
    simp [c]
theorem onC_mem (C : Co) (day : Int) : onC C day = [] ∨ ∃ q ∈ C, q.1 ≤ day ∧ onC C day = q.2 := by
  unfold onC
  cases e : (C.filter fun q => decide (q.1 ≤ day)).getLast? with
  | none => exact .inl rfl
  | some q =>
    have := List.mem_of_getLast? e
    rw [List.mem_filter] at this
    exact .inr ⟨q, this.1, of_decide_eq_true this.2, rfl⟩
theorem IsR.nil : IsR [] := ⟨by simp, by simp, by simp, by simp⟩
theorem onC_isR {C : Co} (h : IsCo C) (day : Int) : IsR (onC C day) := by
  rcases onC_mem C day with e | ⟨q, hq, _, e⟩
  · rw [e]; exact .nil
  · rw [e]; exact h.r q hq
/-- each two one behind the other -/
theorem adj {α : Type} {R : α → α → Prop} : ∀ {xs : List α}, xs.Pairwise R → ∀ p ∈ xs.zip (xs.drop 1), R p.1 p.2 ∧ p.1 ∈ xs ∧ p.2 ∈ xs
  | [], _, p, hp => by simp at hp
  | [x], _, p, hp => by simp at hp
  | x :: y :: r, h, p, hp => by
    obtain ⟨h1, h2⟩ := List.pairwise_cons.mp h
    rw [List.drop_succ_cons, List.drop_zero, List.zip_cons_cons] at hp
    rcases List.mem_cons.mp hp with rfl | hp
    · exact ⟨h1 y List.mem_cons_self, List.mem_cons_self, by simp⟩
    · have := adj h2 p (by simpa using hp)
      exact ⟨this.1, List.mem_cons_of_mem _ this.2.1, List.mem_cons_of_mem _ this.2.2⟩
section
variable {T : Nat → Option Df} (hT : Exts T) {n : Nat} {h : Hd}
include hT
theorem c_is_step {q : Int × List (D × Int)} (h0 : 0 ≤ q.1) (h1 : q.1 ≤ 10000) (hr : IsR q.2) : call T (n + 12) 47 [coD q] h = .ok (.bl true) h := by
  rw [callT hT (show T0 47 = some ir_is_step from rfl)]
  unfold ir_is_step
  obtain ⟨d, L⟩ := q
  simp -implicitDefEqProofs only [runD, evSs, evS, evE, evB, evA, evAV, evO, evC, evI, vw, Mini.start, bind_ok, bind_exc, bind_bad, bind_ite, of_somE, of_noneE, sof_ok, sof_exc, sof_bad, sof_ite, seq_nx, seq_rt, seq_exc, seq_bad, seq_ite, out_nx, out_rt, out_exc, out_ite, nox_ok, truth_bl, dif_true, dif_false, Ck.d, List.map_cons, List.map_nil, List.length_cons, List.length_nil, List.replicate, List.cons_append, List.nil_append, List.append_nil, List.getElem?_cons_zero, List.getElem?_cons_succ, List.set_cons_zero, List.set_cons_succ, Option.map_some, decide_true, decide_false, set2, set_len, asg_nm, asg_tp, asgs_nil, asgs_cons, Option.bind_some, wipeE, b_add, b_sub, k_lt, k_le, k_gt, k_ge, k_eq, k_ne, k_isN, k_isnN, s_lst, s_tup, Bool.and_true, Bool.true_and, if_true, if_false, reduceCtorEq, Nat.reduceAdd, Nat.reduceSub, Nat.reduceLT, Nat.reduceLeDiff, Nat.reduceEqDiff, Bool.and_false, Bool.false_and, Bool.not_true, Bool.not_false, Bool.false_eq_true, okk_bind, okk_ok, okk_nox, okk_out, oks_seq, oks_of, oks_nx, oks_rt, ixc0, ixc1, ixc2, ixc3, nat_c, Int.reduceSub, Int.reduceAdd, Int.reduceEq, Int.reduceLT, Int.reduceLE, Int.reduceMul, Bool.or_false, Bool.false_or, Bool.true_or, Bool.or_true, Bool.or_self, Bool.and_self, List.isEmpty_nil, List.isEmpty_cons, bq1, bq2, bq3, bq4, cond_true, cond_false, eq_self, coD, isi_tuple (d := .tup [.int d, rulesD L]) rfl, len_tup, ixD, c_isnum hT (d := .int d) rfl, isNum_t h0 h1, c_are_rules hT hr]
theorem c_need_course {C : Co} (hC : IsCo C) : call T (n + 13) 48 [courseD C] h = .ok .non h := by
  rw [callT hT (show T0 48 = some ir_need_course from rfl)]
  unfold ir_need_course
  refine Okk.eq ?_
  have hl0 : (1 : Int) ≤ (C.map coD).length := by have := hC.l0; simp only [List.length_map]; omega
  have hl1 : ((C.map coD).length : Int) ≤ 8 := by have := hC.l1; simp only [List.length_map]; omega
  (try simp -implicitDefEqProofs only [runD, evSs_nil, evS, evE, evB, evA, evAV, evO, evC, evI, vw, Mini.start, bind_ok, bind_exc, bind_bad, bind_ite, of_somE, of_noneE, sof_ok, sof_exc, sof_bad, sof_ite, seq_nx, seq_rt, seq_exc, seq_bad, seq_ite, out_nx, out_rt, out_exc, out_ite, nox_ok, truth_bl, dif_true, dif_false, Ck.d, List.map_cons, List.map_nil, List.length_cons, List.length_nil, List.replicate, List.cons_append, List.nil_append, List.append_nil, List.getElem?_cons_zero, List.getElem?_cons_succ, List.set_cons_zero, List.set_cons_succ, Option.map_some, decide_true, decide_false, set2, set_len, asg_nm, asg_tp, asgs_nil, asgs_cons, Option.bind_some, wipeE, b_add, b_sub, k_lt, k_le, k_gt, k_ge, k_eq, k_ne, k_isN, k_isnN, s_lst, s_tup, Bool.and_true, Bool.true_and, if_true, if_false, reduceCtorEq, Nat.reduceAdd, Nat.reduceSub, Nat.reduceLT, Nat.reduceLeDiff, Nat.reduceEqDiff, Bool.and_false, Bool.false_and, Bool.not_true, Bool.not_false, Bool.false_eq_true, okk_bind, okk_ok, okk_nox, okk_out, oks_seq, oks_of, oks_nx, oks_rt, ixc0, ixc1, ixc2, ixc3, nat_c, Int.reduceSub, Int.reduceAdd, Int.reduceEq, Int.reduceLT, Int.reduceLE, Int.reduceMul, Bool.or_false, Bool.false_or, Bool.true_or, Bool.or_true, Bool.or_self, Bool.and_self, List.isEmpty_nil, List.isEmpty_cons, bq1, bq2, bq3, bq4, cond_true, cond_false, eq_self])
  rw [evSs_cons]; simp -implicitDefEqProofs only [runD, evSs_nil, evS, evE, evB, evA, evAV, evO, evC, evI, vw, Mini.start, bind_ok, bind_exc, bind_bad, bind_ite, of_somE, of_noneE, sof_ok, sof_exc, sof_bad, sof_ite, seq_nx, seq_rt, seq_exc, seq_bad, seq_ite, out_nx, out_rt, out_exc, out_ite, nox_ok, truth_bl, dif_true, dif_false, Ck.d, List.map_cons, List.map_nil, List.length_cons, List.length_nil, List.replicate, List.cons_append, List.nil_append, List.append_nil, List.getElem?_cons_zero, List.getElem?_cons_succ, List.set_cons_zero, List.set_cons_succ, Option.map_some, decide_true, decide_false, set2, set_len, asg_nm, asg_tp, asgs_nil, asgs_cons, Option.bind_some, wipeE, b_add, b_sub, k_lt, k_le, k_gt, k_ge, k_eq, k_ne, k_isN, k_isnN, s_lst, s_tup, Bool.and_true, Bool.true_and, if_true, if_false, reduceCtorEq, Nat.reduceAdd, Nat.reduceSub, Nat.reduceLT, Nat.reduceLeDiff, Nat.reduceEqDiff, Bool.and_false, Bool.false_and, Bool.not_true, Bool.not_false, Bool.false_eq_true, okk_bind, okk_ok, okk_nox, okk_out, oks_seq, oks_of, oks_nx, oks_rt, ixc0, ixc1, ixc2, ixc3, nat_c, Int.reduceSub, Int.reduceAdd, Int.reduceEq, Int.reduceLT, Int.reduceLE, Int.reduceMul, Bool.or_false, Bool.false_or, Bool.true_or, Bool.or_true, Bool.or_self, Bool.and_self, List.isEmpty_nil, List.isEmpty_cons, bq1, bq2, bq3, bq4, cond_true, cond_false, eq_self, isi_tuple (d := courseD C) rfl, len_tup, hl0, hl1]
  rw [loopC_map (f := fun _ => some (.bl true)) (fun y hy => by
    obtain ⟨q, hq, rfl⟩ := List.mem_map.mp hy
    simp -implicitDefEqProofs only [runD, evSs_nil, evS, evE, evB, evA, evAV, evO, evC, evI, vw, Mini.start, bind_ok, bind_exc, bind_bad, bind_ite, of_somE, of_noneE, sof_ok, sof_exc, sof_bad, sof_ite, seq_nx, seq_rt, seq_exc, seq_bad, seq_ite, out_nx, out_rt, out_exc, out_ite, nox_ok, truth_bl, dif_true, dif_false, Ck.d, List.map_cons, List.map_nil, List.length_cons, List.length_nil, List.replicate, List.cons_append, List.nil_append, List.append_nil, List.getElem?_cons_zero, List.getElem?_cons_succ, List.set_cons_zero, List.set_cons_succ, Option.map_some, decide_true, decide_false, set2, set_len, asg_nm, asg_tp, asgs_nil, asgs_cons, Option.bind_some, wipeE, b_add, b_sub, k_lt, k_le, k_gt, k_ge, k_eq, k_ne, k_isN, k_isnN, s_lst, s_tup, Bool.and_true, Bool.true_and, if_true, if_false, reduceCtorEq, Nat.reduceAdd, Nat.reduceSub, Nat.reduceLT, Nat.reduceLeDiff, Nat.reduceEqDiff, Bool.and_false, Bool.false_and, Bool.not_true, Bool.not_false, Bool.false_eq_true, okk_bind, okk_ok, okk_nox, okk_out, oks_seq, oks_of, oks_nx, oks_rt, ixc0, ixc1, ixc2, ixc3, nat_c, Int.reduceSub, Int.reduceAdd, Int.reduceEq, Int.reduceLT, Int.reduceLE, Int.reduceMul, Bool.or_false, Bool.false_or, Bool.true_or, Bool.or_true, Bool.or_self, Bool.and_self, List.isEmpty_nil, List.isEmpty_cons, bq1, bq2, bq3, bq4, cond_true, cond_false, eq_self, c_is_step hT (hC.d0 q hq) (hC.d1 q hq) (hC.r q hq)]), filterMap_some]
  have e : (C.map coD).map (fun _ => D.bl true) = (C.map fun _ => true).map .bl := by rw [List.map_map, List.map_map]; rfl
  rw [e]
  have hl2 : ((C.map fun _ => true).map D.bl).length ≤ 1000000 := by simp only [List.length_map]; have := hC.l1; omega
  have ea : (C.map fun _ => true).all id = true := by simp
  simp -implicitDefEqProofs only [runD, evSs_nil, evS, evE, evB, evA, evAV, evO, evC, evI, vw, Mini.start, bind_ok, bind_exc, bind_bad, bind_ite, of_somE, of_noneE, sof_ok, sof_exc, sof_bad, sof_ite, seq_nx, seq_rt, seq_exc, seq_bad, seq_ite, out_nx, out_rt, out_exc, out_ite, nox_ok, truth_bl, dif_true, dif_false, Ck.d, List.map_cons, List.map_nil, List.length_cons, List.length_nil, List.replicate, List.cons_append, List.nil_append, List.append_nil, List.getElem?_cons_zero, List.getElem?_cons_succ, List.set_cons_zero, List.set_cons_succ, Option.map_some, decide_true, decide_false, set2, set_len, asg_nm, asg_tp, asgs_nil, asgs_cons, Option.bind_some, wipeE, b_add, b_sub, k_lt, k_le, k_gt, k_ge, k_eq, k_ne, k_isN, k_isnN, s_lst, s_tup, Bool.and_true, Bool.true_and, if_true, if_false, reduceCtorEq, Nat.reduceAdd, Nat.reduceSub, Nat.reduceLT, Nat.reduceLeDiff, Nat.reduceEqDiff, Bool.and_false, Bool.false_and, Bool.not_true, Bool.not_false, Bool.false_eq_true, okk_bind, okk_ok, okk_nox, okk_out, oks_seq, oks_of, oks_nx, oks_rt, ixc0, ixc1, ixc2, ixc3, nat_c, Int.reduceSub, Int.reduceAdd, Int.reduceEq, Int.reduceLT, Int.reduceLE, Int.reduceMul, Bool.or_false, Bool.false_or, Bool.true_or, Bool.or_true, Bool.or_self, Bool.and_self, List.isEmpty_nil, List.isEmpty_cons, bq1, bq2, bq3, bq4, cond_true, cond_false, eq_self, hl2, all_lst (bls_map _), ea]
  rw [evSs_cons]; simp -implicitDefEqProofs only [runD, evSs_nil, evS, evE, evB, evA, evAV, evO, evC, evI, vw, Mini.start, bind_ok, bind_exc, bind_bad, bind_ite, of_somE, of_noneE, sof_ok, sof_exc, sof_bad, sof_ite, seq_nx, seq_rt, seq_exc, seq_bad, seq_ite, out_nx, out_rt, out_exc, out_ite, nox_ok, truth_bl, dif_true, dif_false, Ck.d, List.map_cons, List.map_nil, List.length_cons, List.length_nil, List.replicate, List.cons_append, List.nil_append, List.append_nil, List.getElem?_cons_zero, List.getElem?_cons_succ, List.set_cons_zero, List.set_cons_succ, Option.map_some, decide_true, decide_false, set2, set_len, asg_nm, asg_tp, asgs_nil, asgs_cons, Option.bind_some, wipeE, b_add, b_sub, k_lt, k_le, k_gt, k_ge, k_eq, k_ne, k_isN, k_isnN, s_lst, s_tup, Bool.and_true, Bool.true_and, if_true, if_false, reduceCtorEq, Nat.reduceAdd, Nat.reduceSub, Nat.reduceLT, Nat.reduceLeDiff, Nat.reduceEqDiff, Bool.and_false, Bool.false_and, Bool.not_true, Bool.not_false, Bool.false_eq_true, okk_bind, okk_ok, okk_nox, okk_out, oks_seq, oks_of, oks_nx, oks_rt, ixc0, ixc1, ixc2, ixc3, nat_c, Int.reduceSub, Int.reduceAdd, Int.reduceEq, Int.reduceLT, Int.reduceLE, Int.reduceMul, Bool.or_false, Bool.false_or, Bool.true_or, Bool.or_true, Bool.or_self, Bool.and_self, List.isEmpty_nil, List.isEmpty_cons, bq1, bq2, bq3, bq4, cond_true, cond_false, eq_self, slD, cut_tail']
  refine forL_by (fun rest ρ h' => h' = h ∧ (∃ z w, ρ = [some (.val (courseD C)), z, w]) ∧ ∀ x ∈ rest, ∃ p q : Int × List (D × Int), x = .tup [coD p, coD q] ∧ p.1 < q.1) (fun ρ h' p => ?_) (fun x rest ρ h' p => ?_) ⟨rfl, ⟨_, _, rfl⟩, fun x hx => ?_⟩
  · obtain ⟨rfl, ⟨z, w, rfl⟩, _⟩ := p
    (try simp -implicitDefEqProofs only [runD, evSs_nil, evS, evE, evB, evA, evAV, evO, evC, evI, vw, Mini.start, bind_ok, bind_exc, bind_bad, bind_ite, of_somE, of_noneE, sof_ok, sof_exc, sof_bad, sof_ite, seq_nx, seq_rt, seq_exc, seq_bad, seq_ite, out_nx, out_rt, out_exc, out_ite, nox_ok, truth_bl, dif_true, dif_false, Ck.d, List.map_cons, List.map_nil, List.length_cons, List.length_nil, List.replicate, List.cons_append, List.nil_append, List.append_nil, List.getElem?_cons_zero, List.getElem?_cons_succ, List.set_cons_zero, List.set_cons_succ, Option.map_some, decide_true, decide_false, set2, set_len, asg_nm, asg_tp, asgs_nil, asgs_cons, Option.bind_some, wipeE, b_add, b_sub, k_lt, k_le, k_gt, k_ge, k_eq, k_ne, k_isN, k_isnN, s_lst, s_tup, Bool.and_true, Bool.true_and, if_true, if_false, reduceCtorEq, Nat.reduceAdd, Nat.reduceSub, Nat.reduceLT, Nat.reduceLeDiff, Nat.reduceEqDiff, Bool.and_false, Bool.false_and, Bool.not_true, Bool.not_false, Bool.false_eq_true, okk_bind, okk_ok, okk_nox, okk_out, oks_seq, oks_of, oks_nx, oks_rt, ixc0, ixc1, ixc2, ixc3, nat_c, Int.reduceSub, Int.reduceAdd, Int.reduceEq, Int.reduceLT, Int.reduceLE, Int.reduceMul, Bool.or_false, Bool.false_or, Bool.true_or, Bool.or_true, Bool.or_self, Bool.and_self, List.isEmpty_nil, List.isEmpty_cons, bq1, bq2, bq3, bq4, cond_true, cond_false, eq_self])
    exact ⟨trivial, trivial⟩
  · obtain ⟨rfl, ⟨z, w, rfl⟩, hp⟩ := p
    obtain ⟨p, q, rfl, lt⟩ := hp x List.mem_cons_self
    obtain ⟨a, A⟩ := p
    obtain ⟨b, B⟩ := q
    have lt : a < b := lt
    have nl : ¬ b ≤ a := by omega
    (try simp -implicitDefEqProofs only [runD, evSs_nil, evS, evE, evB, evA, evAV, evO, evC, evI, vw, Mini.start, bind_ok, bind_exc, bind_bad, bind_ite, of_somE, of_noneE, sof_ok, sof_exc, sof_bad, sof_ite, seq_nx, seq_rt, seq_exc, seq_bad, seq_ite, out_nx, out_rt, out_exc, out_ite, nox_ok, truth_bl, dif_true, dif_false, Ck.d, List.map_cons, List.map_nil, List.length_cons, List.length_nil, List.replicate, List.cons_append, List.nil_append, List.append_nil, List.getElem?_cons_zero, List.getElem?_cons_succ, List.set_cons_zero, List.set_cons_succ, Option.map_some, decide_true, decide_false, set2, set_len, asg_nm, asg_tp, asgs_nil, asgs_cons, Option.bind_some, wipeE, b_add, b_sub, k_lt, k_le, k_gt, k_ge, k_eq, k_ne, k_isN, k_isnN, s_lst, s_tup, Bool.and_true, Bool.true_and, if_true, if_false, reduceCtorEq, Nat.reduceAdd, Nat.reduceSub, Nat.reduceLT, Nat.reduceLeDiff, Nat.reduceEqDiff, Bool.and_false, Bool.false_and, Bool.not_true, Bool.not_false, Bool.false_eq_true, okk_bind, okk_ok, okk_nox, okk_out, oks_seq, oks_of, oks_nx, oks_rt, ixc0, ixc1, ixc2, ixc3, nat_c, Int.reduceSub, Int.reduceAdd, Int.reduceEq, Int.reduceLT, Int.reduceLE, Int.reduceMul, Bool.or_false, Bool.false_or, Bool.true_or, Bool.or_true, Bool.or_self, Bool.and_self, List.isEmpty_nil, List.isEmpty_cons, bq1, bq2, bq3, bq4, cond_true, cond_false, eq_self])
    rw [evSs_cons]; simp -implicitDefEqProofs only [runD, evSs_nil, evS, evE, evB, evA, evAV, evO, evC, evI, vw, Mini.start, bind_ok, bind_exc, bind_bad, bind_ite, of_somE, of_noneE, sof_ok, sof_exc, sof_bad, sof_ite, seq_nx, seq_rt, seq_exc, seq_bad, seq_ite, out_nx, out_rt, out_exc, out_ite, nox_ok, truth_bl, dif_true, dif_false, Ck.d, List.map_cons, List.map_nil, List.length_cons, List.length_nil, List.replicate, List.cons_append, List.nil_append, List.append_nil, List.getElem?_cons_zero, List.getElem?_cons_succ, List.set_cons_zero, List.set_cons_succ, Option.map_some, decide_true, decide_false, set2, set_len, asg_nm, asg_tp, asgs_nil, asgs_cons, Option.bind_some, wipeE, b_add, b_sub, k_lt, k_le, k_gt, k_ge, k_eq, k_ne, k_isN, k_isnN, s_lst, s_tup, Bool.and_true, Bool.true_and, if_true, if_false, reduceCtorEq, Nat.reduceAdd, Nat.reduceSub, Nat.reduceLT, Nat.reduceLeDiff, Nat.reduceEqDiff, Bool.and_false, Bool.false_and, Bool.not_true, Bool.not_false, Bool.false_eq_true, okk_bind, okk_ok, okk_nox, okk_out, oks_seq, oks_of, oks_nx, oks_rt, ixc0, ixc1, ixc2, ixc3, nat_c, Int.reduceSub, Int.reduceAdd, Int.reduceEq, Int.reduceLT, Int.reduceLE, Int.reduceMul, Bool.or_false, Bool.false_or, Bool.true_or, Bool.or_true, Bool.or_self, Bool.and_self, List.isEmpty_nil, List.isEmpty_cons, bq1, bq2, bq3, bq4, cond_true, cond_false, eq_self, coD, ixD, nl]
    exact ⟨trivial, ⟨_, _, rfl⟩, fun y hy => hp y (List.mem_cons_of_mem _ hy)⟩
  · obtain ⟨⟨u, v⟩, hp, rfl⟩ := List.mem_map.mp hx
    rw [← List.map_drop, List.zip_map, List.mem_map] at hp
    obtain ⟨⟨p, q⟩, hp, e⟩ := hp
    cases e
    exact ⟨p, q, rfl, (adj hC.up _ hp).1⟩
theorem c_need_day {d : Int} (h0 : 0 ≤ d) (h1 : d ≤ 10000) : call T (n + 2) 49 [.int d] h = .ok .non h := by
  rw [callT hT (show T0 49 = some ir_need_day from rfl)]
  unfold ir_need_day
  simp -implicitDefEqProofs only [runD, evSs, evS, evE, evB, evA, evAV, evO, evC, evI, vw, Mini.start, bind_ok, bind_exc, bind_bad, bind_ite, of_somE, of_noneE, sof_ok, sof_exc, sof_bad, sof_ite, seq_nx, seq_rt, seq_exc, seq_bad, seq_ite, out_nx, out_rt, out_exc, out_ite, nox_ok, truth_bl, dif_true, dif_false, Ck.d, List.map_cons, List.map_nil, List.length_cons, List.length_nil, List.replicate, List.cons_append, List.nil_append, List.append_nil, List.getElem?_cons_zero, List.getElem?_cons_succ, List.set_cons_zero, List.set_cons_succ, Option.map_some, decide_true, decide_false, set2, set_len, asg_nm, asg_tp, asgs_nil, asgs_cons, Option.bind_some, wipeE, b_add, b_sub, k_lt, k_le, k_gt, k_ge, k_eq, k_ne, k_isN, k_isnN, s_lst, s_tup, Bool.and_true, Bool.true_and, if_true, if_false, reduceCtorEq, Nat.reduceAdd, Nat.reduceSub, Nat.reduceLT, Nat.reduceLeDiff, Nat.reduceEqDiff, Bool.and_false, Bool.false_and, Bool.not_true, Bool.not_false, Bool.false_eq_true, okk_bind, okk_ok, okk_nox, okk_out, oks_seq, oks_of, oks_nx, oks_rt, ixc0, ixc1, ixc2, ixc3, nat_c, Int.reduceSub, Int.reduceAdd, Int.reduceEq, Int.reduceLT, Int.reduceLE, Int.reduceMul, Bool.or_false, Bool.false_or, Bool.true_or, Bool.or_true, Bool.or_self, Bool.and_self, List.isEmpty_nil, List.isEmpty_cons, bq1, bq2, bq3, bq4, cond_true, cond_false, eq_self, c_isnum hT (d := .int d) rfl, isNum_t h0 h1]
theorem c_rules_on {C : Co} (hC : IsCo C) {d : Int} (h0 : 0 ≤ d) (h1 : d ≤ 10000) : call T (n + 14) 50 [courseD C, .int d] h = .ok (rulesD (onC C d)) h := by
  rw [callT hT (show T0 50 = some ir_rules_on from rfl)]
  unfold ir_rules_on
  refine Okk.eq ?_
  (try simp -implicitDefEqProofs only [runD, evSs_nil, evS, evE, evB, evA, evAV, evO, evC, evI, vw, Mini.start, bind_ok, bind_exc, bind_bad, bind_ite, of_somE, of_noneE, sof_ok, sof_exc, sof_bad, sof_ite, seq_nx, seq_rt, seq_exc, seq_bad, seq_ite, out_nx, out_rt, out_exc, out_ite, nox_ok, truth_bl, dif_true, dif_false, Ck.d, List.map_cons, List.map_nil, List.length_cons, List.length_nil, List.replicate, List.cons_append, List.nil_append, List.append_nil, List.getElem?_cons_zero, List.getElem?_cons_succ, List.set_cons_zero, List.set_cons_succ, Option.map_some, decide_true, decide_false, set2, set_len, asg_nm, asg_tp, asgs_nil, asgs_cons, Option.bind_some, wipeE, b_add, b_sub, k_lt, k_le, k_gt, k_ge, k_eq, k_ne, k_isN, k_isnN, s_lst, s_tup, Bool.and_true, Bool.true_and, if_true, if_false, reduceCtorEq, Nat.reduceAdd, Nat.reduceSub, Nat.reduceLT, Nat.reduceLeDiff, Nat.reduceEqDiff, Bool.and_false, Bool.false_and, Bool.not_true, Bool.not_false, Bool.false_eq_true, okk_bind, okk_ok, okk_nox, okk_out, oks_seq, oks_of, oks_nx, oks_rt, ixc0, ixc1, ixc2, ixc3, nat_c, Int.reduceSub, Int.reduceAdd, Int.reduceEq, Int.reduceLT, Int.reduceLE, Int.reduceMul, Bool.or_false, Bool.false_or, Bool.true_or, Bool.or_true, Bool.or_self, Bool.and_self, List.isEmpty_nil, List.isEmpty_cons, bq1, bq2, bq3, bq4, cond_true, cond_false, eq_self])
  rw [evSs_cons]; simp -implicitDefEqProofs only [runD, evSs_nil, evS, evE, evB, evA, evAV, evO, evC, evI, vw, Mini.start, bind_ok, bind_exc, bind_bad, bind_ite, of_somE, of_noneE, sof_ok, sof_exc, sof_bad, sof_ite, seq_nx, seq_rt, seq_exc, seq_bad, seq_ite, out_nx, out_rt, out_exc, out_ite, nox_ok, truth_bl, dif_true, dif_false, Ck.d, List.map_cons, List.map_nil, List.length_cons, List.length_nil, List.replicate, List.cons_append, List.nil_append, List.append_nil, List.getElem?_cons_zero, List.getElem?_cons_succ, List.set_cons_zero, List.set_cons_succ, Option.map_some, decide_true, decide_false, set2, set_len, asg_nm, asg_tp, asgs_nil, asgs_cons, Option.bind_some, wipeE, b_add, b_sub, k_lt, k_le, k_gt, k_ge, k_eq, k_ne, k_isN, k_isnN, s_lst, s_tup, Bool.and_true, Bool.true_and, if_true, if_false, reduceCtorEq, Nat.reduceAdd, Nat.reduceSub, Nat.reduceLT, Nat.reduceLeDiff, Nat.reduceEqDiff, Bool.and_false, Bool.false_and, Bool.not_true, Bool.not_false, Bool.false_eq_true, okk_bind, okk_ok, okk_nox, okk_out, oks_seq, oks_of, oks_nx, oks_rt, ixc0, ixc1, ixc2, ixc3, nat_c, Int.reduceSub, Int.reduceAdd, Int.reduceEq, Int.reduceLT, Int.reduceLE, Int.reduceMul, Bool.or_false, Bool.false_or, Bool.true_or, Bool.or_true, Bool.or_self, Bool.and_self, List.isEmpty_nil, List.isEmpty_cons, bq1, bq2, bq3, bq4, cond_true, cond_false, eq_self, c_need_course hT hC]
  rw [evSs_cons]; simp -implicitDefEqProofs only [runD, evSs_nil, evS, evE, evB, evA, evAV, evO, evC, evI, vw, Mini.start, bind_ok, bind_exc, bind_bad, bind_ite, of_somE, of_noneE, sof_ok, sof_exc, sof_bad, sof_ite, seq_nx, seq_rt, seq_exc, seq_bad, seq_ite, out_nx, out_rt, out_exc, out_ite, nox_ok, truth_bl, dif_true, dif_false, Ck.d, List.map_cons, List.map_nil, List.length_cons, List.length_nil, List.replicate, List.cons_append, List.nil_append, List.append_nil, List.getElem?_cons_zero, List.getElem?_cons_succ, List.set_cons_zero, List.set_cons_succ, Option.map_some, decide_true, decide_false, set2, set_len, asg_nm, asg_tp, asgs_nil, asgs_cons, Option.bind_some, wipeE, b_add, b_sub, k_lt, k_le, k_gt, k_ge, k_eq, k_ne, k_isN, k_isnN, s_lst, s_tup, Bool.and_true, Bool.true_and, if_true, if_false, reduceCtorEq, Nat.reduceAdd, Nat.reduceSub, Nat.reduceLT, Nat.reduceLeDiff, Nat.reduceEqDiff, Bool.and_false, Bool.false_and, Bool.not_true, Bool.not_false, Bool.false_eq_true, okk_bind, okk_ok, okk_nox, okk_out, oks_seq, oks_of, oks_nx, oks_rt, ixc0, ixc1, ixc2, ixc3, nat_c, Int.reduceSub, Int.reduceAdd, Int.reduceEq, Int.reduceLT, Int.reduceLE, Int.reduceMul, Bool.or_false, Bool.false_or, Bool.true_or, Bool.or_true, Bool.or_self, Bool.and_self, List.isEmpty_nil, List.isEmpty_cons, bq1, bq2, bq3, bq4, cond_true, cond_false, eq_self, c_need_day hT h0 h1]
  rw [evSs_cons]; (try simp -implicitDefEqProofs only [runD, evSs_nil, evS, evE, evB, evA, evAV, evO, evC, evI, vw, Mini.start, bind_ok, bind_exc, bind_bad, bind_ite, of_somE, of_noneE, sof_ok, sof_exc, sof_bad, sof_ite, seq_nx, seq_rt, seq_exc, seq_bad, seq_ite, out_nx, out_rt, out_exc, out_ite, nox_ok, truth_bl, dif_true, dif_false, Ck.d, List.map_cons, List.map_nil, List.length_cons, List.length_nil, List.replicate, List.cons_append, List.nil_append, List.append_nil, List.getElem?_cons_zero, List.getElem?_cons_succ, List.set_cons_zero, List.set_cons_succ, Option.map_some, decide_true, decide_false, set2, set_len, asg_nm, asg_tp, asgs_nil, asgs_cons, Option.bind_some, wipeE, b_add, b_sub, k_lt, k_le, k_gt, k_ge, k_eq, k_ne, k_isN, k_isnN, s_lst, s_tup, Bool.and_true, Bool.true_and, if_true, if_false, reduceCtorEq, Nat.reduceAdd, Nat.reduceSub, Nat.reduceLT, Nat.reduceLeDiff, Nat.reduceEqDiff, Bool.and_false, Bool.false_and, Bool.not_true, Bool.not_false, Bool.false_eq_true, okk_bind, okk_ok, okk_nox, okk_out, oks_seq, oks_of, oks_nx, oks_rt, ixc0, ixc1, ixc2, ixc3, nat_c, Int.reduceSub, Int.reduceAdd, Int.reduceEq, Int.reduceLT, Int.reduceLE, Int.reduceMul, Bool.or_false, Bool.false_or, Bool.true_or, Bool.or_true, Bool.or_self, Bool.and_self, List.isEmpty_nil, List.isEmpty_cons, bq1, bq2, bq3, bq4, cond_true, cond_false, eq_self])
  rw [evSs_cons]; (try simp -implicitDefEqProofs only [runD, evSs_nil, evS, evE, evB, evA, evAV, evO, evC, evI, vw, Mini.start, bind_ok, bind_exc, bind_bad, bind_ite, of_somE, of_noneE, sof_ok, sof_exc, sof_bad, sof_ite, seq_nx, seq_rt, seq_exc, seq_bad, seq_ite, out_nx, out_rt, out_exc, out_ite, nox_ok, truth_bl, dif_true, dif_false, Ck.d, List.map_cons, List.map_nil, List.length_cons, List.length_nil, List.replicate, List.cons_append, List.nil_append, List.append_nil, List.getElem?_cons_zero, List.getElem?_cons_succ, List.set_cons_zero, List.set_cons_succ, Option.map_some, decide_true, decide_false, set2, set_len, asg_nm, asg_tp, asgs_nil, asgs_cons, Option.bind_some, wipeE, b_add, b_sub, k_lt, k_le, k_gt, k_ge, k_eq, k_ne, k_isN, k_isnN, s_lst, s_tup, Bool.and_true, Bool.true_and, if_true, if_false, reduceCtorEq, Nat.reduceAdd, Nat.reduceSub, Nat.reduceLT, Nat.reduceLeDiff, Nat.reduceEqDiff, Bool.and_false, Bool.false_and, Bool.not_true, Bool.not_false, Bool.false_eq_true, okk_bind, okk_ok, okk_nox, okk_out, oks_seq, oks_of, oks_nx, oks_rt, ixc0, ixc1, ixc2, ixc3, nat_c, Int.reduceSub, Int.reduceAdd, Int.reduceEq, Int.reduceLT, Int.reduceLE, Int.reduceMul, Bool.or_false, Bool.false_or, Bool.true_or, Bool.or_true, Bool.or_self, Bool.and_self, List.isEmpty_nil, List.isEmpty_cons, bq1, bq2, bq3, bq4, cond_true, cond_false, eq_self])
  refine forL_by (fun rest ρ h' => h' = h ∧ ∃ A B z w, C = A ++ B ∧ rest = B.map coD ∧ ρ = [some (.val (courseD C)), some (.val (.int d)), some (.val (rulesD (onC A d))), z, w]) (fun ρ h' p => ?_) (fun x rest ρ h' p => ?_) ⟨rfl, [], C, none, none, rfl, rfl, rfl⟩
  · obtain ⟨rfl, A, B, z, w, eC, e2, rfl⟩ := p
    have : B = [] := List.map_eq_nil_iff.mp e2.symm
    subst this
    rw [List.append_nil] at eC
    subst eC
    rw [evSs_cons]; (try simp -implicitDefEqProofs only [runD, evSs_nil, evS, evE, evB, evA, evAV, evO, evC, evI, vw, Mini.start, bind_ok, bind_exc, bind_bad, bind_ite, of_somE, of_noneE, sof_ok, sof_exc, sof_bad, sof_ite, seq_nx, seq_rt, seq_exc, seq_bad, seq_ite, out_nx, out_rt, out_exc, out_ite, nox_ok, truth_bl, dif_true, dif_false, Ck.d, List.map_cons, List.map_nil, List.length_cons, List.length_nil, List.replicate, List.cons_append, List.nil_append, List.append_nil, List.getElem?_cons_zero, List.getElem?_cons_succ, List.set_cons_zero, List.set_cons_succ, Option.map_some, decide_true, decide_false, set2, set_len, asg_nm, asg_tp, asgs_nil, asgs_cons, Option.bind_some, wipeE, b_add, b_sub, k_lt, k_le, k_gt, k_ge, k_eq, k_ne, k_isN, k_isnN, s_lst, s_tup, Bool.and_true, Bool.true_and, if_true, if_false, reduceCtorEq, Nat.reduceAdd, Nat.reduceSub, Nat.reduceLT, Nat.reduceLeDiff, Nat.reduceEqDiff, Bool.and_false, Bool.false_and, Bool.not_true, Bool.not_false, Bool.false_eq_true, okk_bind, okk_ok, okk_nox, okk_out, oks_seq, oks_of, oks_nx, oks_rt, ixc0, ixc1, ixc2, ixc3, nat_c, Int.reduceSub, Int.reduceAdd, Int.reduceEq, Int.reduceLT, Int.reduceLE, Int.reduceMul, Bool.or_false, Bool.false_or, Bool.true_or, Bool.or_true, Bool.or_self, Bool.and_self, List.isEmpty_nil, List.isEmpty_cons, bq1, bq2, bq3, bq4, cond_true, cond_false, eq_self])
    exact ⟨trivial, trivial⟩
  · obtain ⟨rfl, A, B, z, w, eC, e2, rfl⟩ := p
    match B, e2, eC with
    | (b, L) :: B, e2, eC =>
      rw [List.map_cons, List.cons.injEq] at e2
      obtain ⟨rfl, rfl⟩ := e2
      have eo := onC_add A (b, L) d
      simp -implicitDefEqProofs only [runD, evSs_nil, evS, evE, evB, evA, evAV, evO, evC, evI, vw, Mini.start, bind_ok, bind_exc, bind_bad, bind_ite, of_somE, of_noneE, sof_ok, sof_exc, sof_bad, sof_ite, seq_nx, seq_rt, seq_exc, seq_bad, seq_ite, out_nx, out_rt, out_exc, out_ite, nox_ok, truth_bl, dif_true, dif_false, Ck.d, List.map_cons, List.map_nil, List.length_cons, List.length_nil, List.replicate, List.cons_append, List.nil_append, List.append_nil, List.getElem?_cons_zero, List.getElem?_cons_succ, List.set_cons_zero, List.set_cons_succ, Option.map_some, decide_true, decide_false, set2, set_len, asg_nm, asg_tp, asgs_nil, asgs_cons, Option.bind_some, wipeE, b_add, b_sub, k_lt, k_le, k_gt, k_ge, k_eq, k_ne, k_isN, k_isnN, s_lst, s_tup, Bool.and_true, Bool.true_and, if_true, if_false, reduceCtorEq, Nat.reduceAdd, Nat.reduceSub, Nat.reduceLT, Nat.reduceLeDiff, Nat.reduceEqDiff, Bool.and_false, Bool.false_and, Bool.not_true, Bool.not_false, Bool.false_eq_true, okk_bind, okk_ok, okk_nox, okk_out, oks_seq, oks_of, oks_nx, oks_rt, ixc0, ixc1, ixc2, ixc3, nat_c, Int.reduceSub, Int.reduceAdd, Int.reduceEq, Int.reduceLT, Int.reduceLE, Int.reduceMul, Bool.or_false, Bool.false_or, Bool.true_or, Bool.or_true, Bool.or_self, Bool.and_self, List.isEmpty_nil, List.isEmpty_cons, bq1, bq2, bq3, bq4, cond_true, cond_false, eq_self, coD]
      rw [evSs_cons];
      by_cases c : b ≤ d
      · rw [if_pos (decide_eq_true c)] at eo
        simp -implicitDefEqProofs only [runD, evSs_nil, evS, evE, evB, evA, evAV, evO, evC, evI, vw, Mini.start, bind_ok, bind_exc, bind_bad, bind_ite, of_somE, of_noneE, sof_ok, sof_exc, sof_bad, sof_ite, seq_nx, seq_rt, seq_exc, seq_bad, seq_ite, out_nx, out_rt, out_exc, out_ite, nox_ok, truth_bl, dif_true, dif_false, Ck.d, List.map_cons, List.map_nil, List.length_cons, List.length_nil, List.replicate, List.cons_append, List.nil_append, List.append_nil, List.getElem?_cons_zero, List.getElem?_cons_succ, List.set_cons_zero, List.set_cons_succ, Option.map_some, decide_true, decide_false, set2, set_len, asg_nm, asg_tp, asgs_nil, asgs_cons, Option.bind_some, wipeE, b_add, b_sub, k_lt, k_le, k_gt, k_ge, k_eq, k_ne, k_isN, k_isnN, s_lst, s_tup, Bool.and_true, Bool.true_and, if_true, if_false, reduceCtorEq, Nat.reduceAdd, Nat.reduceSub, Nat.reduceLT, Nat.reduceLeDiff, Nat.reduceEqDiff, Bool.and_false, Bool.false_and, Bool.not_true, Bool.not_false, Bool.false_eq_true, okk_bind, okk_ok, okk_nox, okk_out, oks_seq, oks_of, oks_nx, oks_rt, ixc0, ixc1, ixc2, ixc3, nat_c, Int.reduceSub, Int.reduceAdd, Int.reduceEq, Int.reduceLT, Int.reduceLE, Int.reduceMul, Bool.or_false, Bool.false_or, Bool.true_or, Bool.or_true, Bool.or_self, Bool.and_self, List.isEmpty_nil, List.isEmpty_cons, bq1, bq2, bq3, bq4, cond_true, cond_false, eq_self, c]
        rw [evSs_cons]; (try simp -implicitDefEqProofs only [runD, evSs_nil, evS, evE, evB, evA, evAV, evO, evC, evI, vw, Mini.start, bind_ok, bind_exc, bind_bad, bind_ite, of_somE, of_noneE, sof_ok, sof_exc, sof_bad, sof_ite, seq_nx, seq_rt, seq_exc, seq_bad, seq_ite, out_nx, out_rt, out_exc, out_ite, nox_ok, truth_bl, dif_true, dif_false, Ck.d, List.map_cons, List.map_nil, List.length_cons, List.length_nil, List.replicate, List.cons_append, List.nil_append, List.append_nil, List.getElem?_cons_zero, List.getElem?_cons_succ, List.set_cons_zero, List.set_cons_succ, Option.map_some, decide_true, decide_false, set2, set_len, asg_nm, asg_tp, asgs_nil, asgs_cons, Option.bind_some, wipeE, b_add, b_sub, k_lt, k_le, k_gt, k_ge, k_eq, k_ne, k_isN, k_isnN, s_lst, s_tup, Bool.and_true, Bool.true_and, if_true, if_false, reduceCtorEq, Nat.reduceAdd, Nat.reduceSub, Nat.reduceLT, Nat.reduceLeDiff, Nat.reduceEqDiff, Bool.and_false, Bool.false_and, Bool.not_true, Bool.not_false, Bool.false_eq_true, okk_bind, okk_ok, okk_nox, okk_out, oks_seq, oks_of, oks_nx, oks_rt, ixc0, ixc1, ixc2, ixc3, nat_c, Int.reduceSub, Int.reduceAdd, Int.reduceEq, Int.reduceLT, Int.reduceLE, Int.reduceMul, Bool.or_false, Bool.false_or, Bool.true_or, Bool.or_true, Bool.or_self, Bool.and_self, List.isEmpty_nil, List.isEmpty_cons, bq1, bq2, bq3, bq4, cond_true, cond_false, eq_self])
        exact ⟨trivial, A ++ [(b, L)], B, _, _, by rw [eC]; simp, rfl, by rw [eo]⟩
      · rw [if_neg (by simpa using c)] at eo
        simp -implicitDefEqProofs only [runD, evSs_nil, evS, evE, evB, evA, evAV, evO, evC, evI, vw, Mini.start, bind_ok, bind_exc, bind_bad, bind_ite, of_somE, of_noneE, sof_ok, sof_exc, sof_bad, sof_ite, seq_nx, seq_rt, seq_exc, seq_bad, seq_ite, out_nx, out_rt, out_exc, out_ite, nox_ok, truth_bl, dif_true, dif_false, Ck.d, List.map_cons, List.map_nil, List.length_cons, List.length_nil, List.replicate, List.cons_append, List.nil_append, List.append_nil, List.getElem?_cons_zero, List.getElem?_cons_succ, List.set_cons_zero, List.set_cons_succ, Option.map_some, decide_true, decide_false, set2, set_len, asg_nm, asg_tp, asgs_nil, asgs_cons, Option.bind_some, wipeE, b_add, b_sub, k_lt, k_le, k_gt, k_ge, k_eq, k_ne, k_isN, k_isnN, s_lst, s_tup, Bool.and_true, Bool.true_and, if_true, if_false, reduceCtorEq, Nat.reduceAdd, Nat.reduceSub, Nat.reduceLT, Nat.reduceLeDiff, Nat.reduceEqDiff, Bool.and_false, Bool.false_and, Bool.not_true, Bool.not_false, Bool.false_eq_true, okk_bind, okk_ok, okk_nox, okk_out, oks_seq, oks_of, oks_nx, oks_rt, ixc0, ixc1, ixc2, ixc3, nat_c, Int.reduceSub, Int.reduceAdd, Int.reduceEq, Int.reduceLT, Int.reduceLE, Int.reduceMul, Bool.or_false, Bool.false_or, Bool.true_or, Bool.or_true, Bool.or_self, Bool.and_self, List.isEmpty_nil, List.isEmpty_cons, bq1, bq2, bq3, bq4, cond_true, cond_false, eq_self, c]
        exact ⟨trivial, A ++ [(b, L)], B, _, _, by rw [eC]; simp, rfl, by rw [eo]⟩
def dayC (C : Co) (s t u l p : Int) : Option Int := (C.find? fun q => letB q.2 s t u l p).map (·.1)
def oint : Option Int → D
  | some d => .int d
  | none => .non
theorem c_day_of {C : Co} (hC : IsCo C) {s t u l p : Int} (hd : IsDl s t) (hu : IsU u l p) : call T (n + 14) 51 [courseD C, .tup [.int s, .int t], .tup [.int u, .int l, .int p]] h = .ok (oint (dayC C s t u l p)) h := by
  rw [callT hT (show T0 51 = some ir_day_of from rfl)]
  unfold ir_day_of
  refine Okk.eq ?_
  (try simp -implicitDefEqProofs only [runD, evSs_nil, evS, evE, evB, evA, evAV, evO, evC, evI, vw, Mini.start, bind_ok, bind_exc, bind_bad, bind_ite, of_somE, of_noneE, sof_ok, sof_exc, sof_bad, sof_ite, seq_nx, seq_rt, seq_exc, seq_bad, seq_ite, out_nx, out_rt, out_exc, out_ite, nox_ok, truth_bl, dif_true, dif_false, Ck.d, List.map_cons, List.map_nil, List.length_cons, List.length_nil, List.replicate, List.cons_append, List.nil_append, List.append_nil, List.getElem?_cons_zero, List.getElem?_cons_succ, List.set_cons_zero, List.set_cons_succ, Option.map_some, decide_true, decide_false, set2, set_len, asg_nm, asg_tp, asgs_nil, asgs_cons, Option.bind_some, wipeE, b_add, b_sub, k_lt, k_le, k_gt, k_ge, k_eq, k_ne, k_isN, k_isnN, s_lst, s_tup, Bool.and_true, Bool.true_and, if_true, if_false, reduceCtorEq, Nat.reduceAdd, Nat.reduceSub, Nat.reduceLT, Nat.reduceLeDiff, Nat.reduceEqDiff, Bool.and_false, Bool.false_and, Bool.not_true, Bool.not_false, Bool.false_eq_true, okk_bind, okk_ok, okk_nox, okk_out, oks_seq, oks_of, oks_nx, oks_rt, ixc0, ixc1, ixc2, ixc3, nat_c, Int.reduceSub, Int.reduceAdd, Int.reduceEq, Int.reduceLT, Int.reduceLE, Int.reduceMul, Bool.or_false, Bool.false_or, Bool.true_or, Bool.or_true, Bool.or_self, Bool.and_self, List.isEmpty_nil, List.isEmpty_cons, bq1, bq2, bq3, bq4, cond_true, cond_false, eq_self])
  rw [evSs_cons]; simp -implicitDefEqProofs only [runD, evSs_nil, evS, evE, evB, evA, evAV, evO, evC, evI, vw, Mini.start, bind_ok, bind_exc, bind_bad, bind_ite, of_somE, of_noneE, sof_ok, sof_exc, sof_bad, sof_ite, seq_nx, seq_rt, seq_exc, seq_bad, seq_ite, out_nx, out_rt, out_exc, out_ite, nox_ok, truth_bl, dif_true, dif_false, Ck.d, List.map_cons, List.map_nil, List.length_cons, List.length_nil, List.replicate, List.cons_append, List.nil_append, List.append_nil, List.getElem?_cons_zero, List.getElem?_cons_succ, List.set_cons_zero, List.set_cons_succ, Option.map_some, decide_true, decide_false, set2, set_len, asg_nm, asg_tp, asgs_nil, asgs_cons, Option.bind_some, wipeE, b_add, b_sub, k_lt, k_le, k_gt, k_ge, k_eq, k_ne, k_isN, k_isnN, s_lst, s_tup, Bool.and_true, Bool.true_and, if_true, if_false, reduceCtorEq, Nat.reduceAdd, Nat.reduceSub, Nat.reduceLT, Nat.reduceLeDiff, Nat.reduceEqDiff, Bool.and_false, Bool.false_and, Bool.not_true, Bool.not_false, Bool.false_eq_true, okk_bind, okk_ok, okk_nox, okk_out, oks_seq, oks_of, oks_nx, oks_rt, ixc0, ixc1, ixc2, ixc3, nat_c, Int.reduceSub, Int.reduceAdd, Int.reduceEq, Int.reduceLT, Int.reduceLE, Int.reduceMul, Bool.or_false, Bool.false_or, Bool.true_or, Bool.or_true, Bool.or_self, Bool.and_self, List.isEmpty_nil, List.isEmpty_cons, bq1, bq2, bq3, bq4, cond_true, cond_false, eq_self, c_need_course hT hC]
  rw [evSs_cons]; simp -implicitDefEqProofs only [runD, evSs_nil, evS, evE, evB, evA, evAV, evO, evC, evI, vw, Mini.start, bind_ok, bind_exc, bind_bad, bind_ite, of_somE, of_noneE, sof_ok, sof_exc, sof_bad, sof_ite, seq_nx, seq_rt, seq_exc, seq_bad, seq_ite, out_nx, out_rt, out_exc, out_ite, nox_ok, truth_bl, dif_true, dif_false, Ck.d, List.map_cons, List.map_nil, List.length_cons, List.length_nil, List.replicate, List.cons_append, List.nil_append, List.append_nil, List.getElem?_cons_zero, List.getElem?_cons_succ, List.set_cons_zero, List.set_cons_succ, Option.map_some, decide_true, decide_false, set2, set_len, asg_nm, asg_tp, asgs_nil, asgs_cons, Option.bind_some, wipeE, b_add, b_sub, k_lt, k_le, k_gt, k_ge, k_eq, k_ne, k_isN, k_isnN, s_lst, s_tup, Bool.and_true, Bool.true_and, if_true, if_false, reduceCtorEq, Nat.reduceAdd, Nat.reduceSub, Nat.reduceLT, Nat.reduceLeDiff, Nat.reduceEqDiff, Bool.and_false, Bool.false_and, Bool.not_true, Bool.not_false, Bool.false_eq_true, okk_bind, okk_ok, okk_nox, okk_out, oks_seq, oks_of, oks_nx, oks_rt, ixc0, ixc1, ixc2, ixc3, nat_c, Int.reduceSub, Int.reduceAdd, Int.reduceEq, Int.reduceLT, Int.reduceLE, Int.reduceMul, Bool.or_false, Bool.false_or, Bool.true_or, Bool.or_true, Bool.or_self, Bool.and_self, List.isEmpty_nil, List.isEmpty_cons, bq1, bq2, bq3, bq4, cond_true, cond_false, eq_self, c_need_deal hT hd]
  rw [evSs_cons]; simp -implicitDefEqProofs only [runD, evSs_nil, evS, evE, evB, evA, evAV, evO, evC, evI, vw, Mini.start, bind_ok, bind_exc, bind_bad, bind_ite, of_somE, of_noneE, sof_ok, sof_exc, sof_bad, sof_ite, seq_nx, seq_rt, seq_exc, seq_bad, seq_ite, out_nx, out_rt, out_exc, out_ite, nox_ok, truth_bl, dif_true, dif_false, Ck.d, List.map_cons, List.map_nil, List.length_cons, List.length_nil, List.replicate, List.cons_append, List.nil_append, List.append_nil, List.getElem?_cons_zero, List.getElem?_cons_succ, List.set_cons_zero, List.set_cons_succ, Option.map_some, decide_true, decide_false, set2, set_len, asg_nm, asg_tp, asgs_nil, asgs_cons, Option.bind_some, wipeE, b_add, b_sub, k_lt, k_le, k_gt, k_ge, k_eq, k_ne, k_isN, k_isnN, s_lst, s_tup, Bool.and_true, Bool.true_and, if_true, if_false, reduceCtorEq, Nat.reduceAdd, Nat.reduceSub, Nat.reduceLT, Nat.reduceLeDiff, Nat.reduceEqDiff, Bool.and_false, Bool.false_and, Bool.not_true, Bool.not_false, Bool.false_eq_true, okk_bind, okk_ok, okk_nox, okk_out, oks_seq, oks_of, oks_nx, oks_rt, ixc0, ixc1, ixc2, ixc3, nat_c, Int.reduceSub, Int.reduceAdd, Int.reduceEq, Int.reduceLT, Int.reduceLE, Int.reduceMul, Bool.or_false, Bool.false_or, Bool.true_or, Bool.or_true, Bool.or_self, Bool.and_self, List.isEmpty_nil, List.isEmpty_cons, bq1, bq2, bq3, bq4, cond_true, cond_false, eq_self, c_need_user hT hu]
  rw [evSs_cons]; (try simp -implicitDefEqProofs only [runD, evSs_nil, evS, evE, evB, evA, evAV, evO, evC, evI, vw, Mini.start, bind_ok, bind_exc, bind_bad, bind_ite, of_somE, of_noneE, sof_ok, sof_exc, sof_bad, sof_ite, seq_nx, seq_rt, seq_exc, seq_bad, seq_ite, out_nx, out_rt, out_exc, out_ite, nox_ok, truth_bl, dif_true, dif_false, Ck.d, List.map_cons, List.map_nil, List.length_cons, List.length_nil, List.replicate, List.cons_append, List.nil_append, List.append_nil, List.getElem?_cons_zero, List.getElem?_cons_succ, List.set_cons_zero, List.set_cons_succ, Option.map_some, decide_true, decide_false, set2, set_len, asg_nm, asg_tp, asgs_nil, asgs_cons, Option.bind_some, wipeE, b_add, b_sub, k_lt, k_le, k_gt, k_ge, k_eq, k_ne, k_isN, k_isnN, s_lst, s_tup, Bool.and_true, Bool.true_and, if_true, if_false, reduceCtorEq, Nat.reduceAdd, Nat.reduceSub, Nat.reduceLT, Nat.reduceLeDiff, Nat.reduceEqDiff, Bool.and_false, Bool.false_and, Bool.not_true, Bool.not_false, Bool.false_eq_true, okk_bind, okk_ok, okk_nox, okk_out, oks_seq, oks_of, oks_nx, oks_rt, ixc0, ixc1, ixc2, ixc3, nat_c, Int.reduceSub, Int.reduceAdd, Int.reduceEq, Int.reduceLT, Int.reduceLE, Int.reduceMul, Bool.or_false, Bool.false_or, Bool.true_or, Bool.or_true, Bool.or_self, Bool.and_self, List.isEmpty_nil, List.isEmpty_cons, bq1, bq2, bq3, bq4, cond_true, cond_false, eq_self])
  refine forL_by (fun rest ρ h' => h' = h ∧ ∃ A B z w, C = A ++ B ∧ rest = B.map coD ∧ dayC C s t u l p = dayC B s t u l p ∧ ρ = [some (.val (courseD C)), some (.val (.tup [.int s, .int t])), some (.val (.tup [.int u, .int l, .int p])), z, w]) (fun ρ h' pp => ?_) (fun x rest ρ h' pp => ?_) ⟨rfl, [], C, none, none, rfl, rfl, rfl, rfl⟩
  · obtain ⟨rfl, A, B, z, w, eC, e2, e3, rfl⟩ := pp
    have : B = [] := List.map_eq_nil_iff.mp e2.symm
    subst this
    rw [evSs_cons]; (try simp -implicitDefEqProofs only [runD, evSs_nil, evS, evE, evB, evA, evAV, evO, evC, evI, vw, Mini.start, bind_ok, bind_exc, bind_bad, bind_ite, of_somE, of_noneE, sof_ok, sof_exc, sof_bad, sof_ite, seq_nx, seq_rt, seq_exc, seq_bad, seq_ite, out_nx, out_rt, out_exc, out_ite, nox_ok, truth_bl, dif_true, dif_false, Ck.d, List.map_cons, List.map_nil, List.length_cons, List.length_nil, List.replicate, List.cons_append, List.nil_append, List.append_nil, List.getElem?_cons_zero, List.getElem?_cons_succ, List.set_cons_zero, List.set_cons_succ, Option.map_some, decide_true, decide_false, set2, set_len, asg_nm, asg_tp, asgs_nil, asgs_cons, Option.bind_some, wipeE, b_add, b_sub, k_lt, k_le, k_gt, k_ge, k_eq, k_ne, k_isN, k_isnN, s_lst, s_tup, Bool.and_true, Bool.true_and, if_true, if_false, reduceCtorEq, Nat.reduceAdd, Nat.reduceSub, Nat.reduceLT, Nat.reduceLeDiff, Nat.reduceEqDiff, Bool.and_false, Bool.false_and, Bool.not_true, Bool.not_false, Bool.false_eq_true, okk_bind, okk_ok, okk_nox, okk_out, oks_seq, oks_of, oks_nx, oks_rt, ixc0, ixc1, ixc2, ixc3, nat_c, Int.reduceSub, Int.reduceAdd, Int.reduceEq, Int.reduceLT, Int.reduceLE, Int.reduceMul, Bool.or_false, Bool.false_or, Bool.true_or, Bool.or_true, Bool.or_self, Bool.and_self, List.isEmpty_nil, List.isEmpty_cons, bq1, bq2, bq3, bq4, cond_true, cond_false, eq_self])
    rw [e3]
    exact ⟨rfl, trivial⟩
  · obtain ⟨rfl, A, B, z, w, eC, e2, e3, rfl⟩ := pp
    match B, e2, eC, e3 with
    | (b, L) :: B, e2, eC, e3 =>
      rw [List.map_cons, List.cons.injEq] at e2
      obtain ⟨rfl, rfl⟩ := e2
      have hL := hC.r (b, L) (by rw [eC]; simp)
      simp -implicitDefEqProofs only [runD, evSs_nil, evS, evE, evB, evA, evAV, evO, evC, evI, vw, Mini.start, bind_ok, bind_exc, bind_bad, bind_ite, of_somE, of_noneE, sof_ok, sof_exc, sof_bad, sof_ite, seq_nx, seq_rt, seq_exc, seq_bad, seq_ite, out_nx, out_rt, out_exc, out_ite, nox_ok, truth_bl, dif_true, dif_false, Ck.d, List.map_cons, List.map_nil, List.length_cons, List.length_nil, List.replicate, List.cons_append, List.nil_append, List.append_nil, List.getElem?_cons_zero, List.getElem?_cons_succ, List.set_cons_zero, List.set_cons_succ, Option.map_some, decide_true, decide_false, set2, set_len, asg_nm, asg_tp, asgs_nil, asgs_cons, Option.bind_some, wipeE, b_add, b_sub, k_lt, k_le, k_gt, k_ge, k_eq, k_ne, k_isN, k_isnN, s_lst, s_tup, Bool.and_true, Bool.true_and, if_true, if_false, reduceCtorEq, Nat.reduceAdd, Nat.reduceSub, Nat.reduceLT, Nat.reduceLeDiff, Nat.reduceEqDiff, Bool.and_false, Bool.false_and, Bool.not_true, Bool.not_false, Bool.false_eq_true, okk_bind, okk_ok, okk_nox, okk_out, oks_seq, oks_of, oks_nx, oks_rt, ixc0, ixc1, ixc2, ixc3, nat_c, Int.reduceSub, Int.reduceAdd, Int.reduceEq, Int.reduceLT, Int.reduceLE, Int.reduceMul, Bool.or_false, Bool.false_or, Bool.true_or, Bool.or_true, Bool.or_self, Bool.and_self, List.isEmpty_nil, List.isEmpty_cons, bq1, bq2, bq3, bq4, cond_true, cond_false, eq_self, coD]
      rw [evSs_cons]; simp -implicitDefEqProofs only [runD, evSs_nil, evS, evE, evB, evA, evAV, evO, evC, evI, vw, Mini.start, bind_ok, bind_exc, bind_bad, bind_ite, of_somE, of_noneE, sof_ok, sof_exc, sof_bad, sof_ite, seq_nx, seq_rt, seq_exc, seq_bad, seq_ite, out_nx, out_rt, out_exc, out_ite, nox_ok, truth_bl, dif_true, dif_false, Ck.d, List.map_cons, List.map_nil, List.length_cons, List.length_nil, List.replicate, List.cons_append, List.nil_append, List.append_nil, List.getElem?_cons_zero, List.getElem?_cons_succ, List.set_cons_zero, List.set_cons_succ, Option.map_some, decide_true, decide_false, set2, set_len, asg_nm, asg_tp, asgs_nil, asgs_cons, Option.bind_some, wipeE, b_add, b_sub, k_lt, k_le, k_gt, k_ge, k_eq, k_ne, k_isN, k_isnN, s_lst, s_tup, Bool.and_true, Bool.true_and, if_true, if_false, reduceCtorEq, Nat.reduceAdd, Nat.reduceSub, Nat.reduceLT, Nat.reduceLeDiff, Nat.reduceEqDiff, Bool.and_false, Bool.false_and, Bool.not_true, Bool.not_false, Bool.false_eq_true, okk_bind, okk_ok, okk_nox, okk_out, oks_seq, oks_of, oks_nx, oks_rt, ixc0, ixc1, ixc2, ixc3, nat_c, Int.reduceSub, Int.reduceAdd, Int.reduceEq, Int.reduceLT, Int.reduceLE, Int.reduceMul, Bool.or_false, Bool.false_or, Bool.true_or, Bool.or_true, Bool.or_self, Bool.and_self, List.isEmpty_nil, List.isEmpty_cons, bq1, bq2, bq3, bq4, cond_true, cond_false, eq_self, c_lets hT (n := n + 6) hL.c hd hu.u0 hu.u1]
      cases c : letB L s t u l p with
      | true =>
        (try simp -implicitDefEqProofs only [runD, evSs_nil, evS, evE, evB, evA, evAV, evO, evC, evI, vw, Mini.start, bind_ok, bind_exc, bind_bad, bind_ite, of_somE, of_noneE, sof_ok, sof_exc, sof_bad, sof_ite, seq_nx, seq_rt, seq_exc, seq_bad, seq_ite, out_nx, out_rt, out_exc, out_ite, nox_ok, truth_bl, dif_true, dif_false, Ck.d, List.map_cons, List.map_nil, List.length_cons, List.length_nil, List.replicate, List.cons_append, List.nil_append, List.append_nil, List.getElem?_cons_zero, List.getElem?_cons_succ, List.set_cons_zero, List.set_cons_succ, Option.map_some, decide_true, decide_false, set2, set_len, asg_nm, asg_tp, asgs_nil, asgs_cons, Option.bind_some, wipeE, b_add, b_sub, k_lt, k_le, k_gt, k_ge, k_eq, k_ne, k_isN, k_isnN, s_lst, s_tup, Bool.and_true, Bool.true_and, if_true, if_false, reduceCtorEq, Nat.reduceAdd, Nat.reduceSub, Nat.reduceLT, Nat.reduceLeDiff, Nat.reduceEqDiff, Bool.and_false, Bool.false_and, Bool.not_true, Bool.not_false, Bool.false_eq_true, okk_bind, okk_ok, okk_nox, okk_out, oks_seq, oks_of, oks_nx, oks_rt, ixc0, ixc1, ixc2, ixc3, nat_c, Int.reduceSub, Int.reduceAdd, Int.reduceEq, Int.reduceLT, Int.reduceLE, Int.reduceMul, Bool.or_false, Bool.false_or, Bool.true_or, Bool.or_true, Bool.or_self, Bool.and_self, List.isEmpty_nil, List.isEmpty_cons, bq1, bq2, bq3, bq4, cond_true, cond_false, eq_self])
        rw [evSs_cons]; (try simp -implicitDefEqProofs only [runD, evSs_nil, evS, evE, evB, evA, evAV, evO, evC, evI, vw, Mini.start, bind_ok, bind_exc, bind_bad, bind_ite, of_somE, of_noneE, sof_ok, sof_exc, sof_bad, sof_ite, seq_nx, seq_rt, seq_exc, seq_bad, seq_ite, out_nx, out_rt, out_exc, out_ite, nox_ok, truth_bl, dif_true, dif_false, Ck.d, List.map_cons, List.map_nil, List.length_cons, List.length_nil, List.replicate, List.cons_append, List.nil_append, List.append_nil, List.getElem?_cons_zero, List.getElem?_cons_succ, List.set_cons_zero, List.set_cons_succ, Option.map_some, decide_true, decide_false, set2, set_len, asg_nm, asg_tp, asgs_nil, asgs_cons, Option.bind_some, wipeE, b_add, b_sub, k_lt, k_le, k_gt, k_ge, k_eq, k_ne, k_isN, k_isnN, s_lst, s_tup, Bool.and_true, Bool.true_and, if_true, if_false, reduceCtorEq, Nat.reduceAdd, Nat.reduceSub, Nat.reduceLT, Nat.reduceLeDiff, Nat.reduceEqDiff, Bool.and_false, Bool.false_and, Bool.not_true, Bool.not_false, Bool.false_eq_true, okk_bind, okk_ok, okk_nox, okk_out, oks_seq, oks_of, oks_nx, oks_rt, ixc0, ixc1, ixc2, ixc3, nat_c, Int.reduceSub, Int.reduceAdd, Int.reduceEq, Int.reduceLT, Int.reduceLE, Int.reduceMul, Bool.or_false, Bool.false_or, Bool.true_or, Bool.or_true, Bool.or_self, Bool.and_self, List.isEmpty_nil, List.isEmpty_cons, bq1, bq2, bq3, bq4, cond_true, cond_false, eq_self])
        rw [e3]
        refine ⟨?_, trivial⟩
        simp [dayC, c, oint]
      | false =>
        (try simp -implicitDefEqProofs only [runD, evSs_nil, evS, evE, evB, evA, evAV, evO, evC, evI, vw, Mini.start, bind_ok, bind_exc, bind_bad, bind_ite, of_somE, of_noneE, sof_ok, sof_exc, sof_bad, sof_ite, seq_nx, seq_rt, seq_exc, seq_bad, seq_ite, out_nx, out_rt, out_exc, out_ite, nox_ok, truth_bl, dif_true, dif_false, Ck.d, List.map_cons, List.map_nil, List.length_cons, List.length_nil, List.replicate, List.cons_append, List.nil_append, List.append_nil, List.getElem?_cons_zero, List.getElem?_cons_succ, List.set_cons_zero, List.set_cons_succ, Option.map_some, decide_true, decide_false, set2, set_len, asg_nm, asg_tp, asgs_nil, asgs_cons, Option.bind_some, wipeE, b_add, b_sub, k_lt, k_le, k_gt, k_ge, k_eq, k_ne, k_isN, k_isnN, s_lst, s_tup, Bool.and_true, Bool.true_and, if_true, if_false, reduceCtorEq, Nat.reduceAdd, Nat.reduceSub, Nat.reduceLT, Nat.reduceLeDiff, Nat.reduceEqDiff, Bool.and_false, Bool.false_and, Bool.not_true, Bool.not_false, Bool.false_eq_true, okk_bind, okk_ok, okk_nox, okk_out, oks_seq, oks_of, oks_nx, oks_rt, ixc0, ixc1, ixc2, ixc3, nat_c, Int.reduceSub, Int.reduceAdd, Int.reduceEq, Int.reduceLT, Int.reduceLE, Int.reduceMul, Bool.or_false, Bool.false_or, Bool.true_or, Bool.or_true, Bool.or_self, Bool.and_self, List.isEmpty_nil, List.isEmpty_cons, bq1, bq2, bq3, bq4, cond_true, cond_false, eq_self])
        refine ⟨trivial, A ++ [(b, L)], B, _, _, by rw [eC]; simp, rfl, ?_, rfl⟩
        rw [e3]
        simp [dayC, c]
end
end Mini

/-! D13: courses drawn. -/
namespace Mini
open PySem PySem.Spec L2
theorem nr_tup {xs : List D} (h : ∀ x ∈ xs, D.nr x = true) : D.nr (.tup xs) = true := nrs_all.mpr h
theorem nr_rules {L : List (D × Int)} (h : ∀ q ∈ L, IsC q.1) : D.nr (rulesD L) = true := nr_tup fun x hx => by
  obtain ⟨q, hq, rfl⟩ := List.mem_map.mp hx
  refine nr_tup fun y hy => ?_
  simp only [List.mem_cons, List.not_mem_nil, or_false] at hy
  rcases hy with rfl | rfl
  · exact D.fine_nr (h q hq).fine
  · rfl
theorem dp_parts : ∀ (k : Nat) {d : D}, partsD k d ≠ 0 → D.dp d ≤ k + 1
  | 0, _, h => (h rfl).elim
  | k + 1, d, h => by
    rcases parts_case h with ⟨ns, rfl⟩ | ⟨ns, rfl⟩ | ⟨x, rfl, q1⟩ | ⟨x, xs, rfl, q0, q1⟩ | ⟨x, xs, rfl, q0, q1⟩
    · have := dps_ints ns
      show max (0 : Nat) (max (D.dps (ns.map .int) + 1) 0) + 1 ≤ _
      omega
    · have := dps_ints ns
      show max (0 : Nat) (max (D.dps (ns.map .int) + 1) 0) + 1 ≤ _
      omega
    · have := dp_parts k q1
      show max (0 : Nat) (max (D.dp x) 0) + 1 ≤ _
      omega
    · have : D.dps (x :: xs) ≤ k + 1 := dps_all.mpr fun y hy => dp_parts k (q1 y hy)
      show max (0 : Nat) (D.dps (x :: xs)) + 1 ≤ _
      omega
    · have : D.dps (x :: xs) ≤ k + 1 := dps_all.mpr fun y hy => dp_parts k (q1 y hy)
      show max (0 : Nat) (D.dps (x :: xs)) + 1 ≤ _
      omega
theorem dp_rules {L : List (D × Int)} (h : ∀ q ∈ L, IsC q.1) : D.dp (rulesD L) ≤ 8 := by
  have : D.dps (L.map ruD) ≤ 7 := dps_all.mpr fun x hx => by
    obtain ⟨q, hq, rfl⟩ := List.mem_map.mp hx
    have := dp_parts 5 (d := q.1) (by have := (h q hq).p1; omega)
    show max (D.dp q.1) (max 0 0) + 1 ≤ 7
    omega
  show D.dps (L.map ruD) + 1 ≤ 8
  omega
theorem ne_rules {L : List (D × Int)} (h : ∀ q ∈ L, IsC q.1) : cmpD .NotEq (rulesD L) (rulesD L) = some false := ne_self (nr_rules h) (by have := dp_rules h; omega)
theorem x_last {h : Hd} (xs : List D) (x : D) : ixD h (.lst (xs ++ [x])) (.int (-1)) = some x := by
  have e : L2.ixN (xs ++ [x]).length (-1) = some xs.length := by
    unfold L2.ixN
    rw [if_neg (by decide), if_pos (by simp; omega)]
    congr 1
    simp
    omega
  rw [x_ok rfl e]
  simp
def onF (d : Int) : D → Option D
  | .tup [.int b, r] => bif decide (b ≤ d) then some r else none
  | _ => none
theorem onF_map (C : Co) (d : Int) : (C.map coD).filterMap (onF d) = (C.filter fun q => decide (q.1 ≤ d)).map fun q => rulesD q.2 := by
  induction C with
  | nil => rfl
  | cons q r ih =>
    rw [List.map_cons, List.filterMap_cons]
    have e : onF d (coD q) = bif decide (q.1 ≤ d) then some (rulesD q.2) else none := rfl
    rw [e, List.filter_cons]
    cases decide (q.1 ≤ d) with
    | true => simp only [cond_true, if_true, List.map_cons, ih]
    | false => simp only [cond_false, Bool.false_eq_true, if_false, ih]
/-- no share less, of whatever land and plan there is -/
def Le (A B : List (D × Int)) : Prop := ∀ l p, 0 ≤ p → p ≤ 3 → shareL l p A ≤ shareL l p B
theorem Le.refl (A : List (D × Int)) : Le A A := fun _ _ _ _ => Int.le_refl _
theorem Le.trans {A B C : List (D × Int)} (x : Le A B) (y : Le B C) : Le A C := fun l p h0 h1 => Int.le_trans (x l p h0 h1) (y l p h0 h1)
def full : List (D × Int) := [(.tup [.str "plan", .tup [.int 0, .int 1, .int 2, .int 3]], 100)]
theorem full_dn : Dn 4 (1 + 1) full := ⟨by decide, fun q hq => by rw [List.mem_singleton.mp hq]; exact cn_all, fun q hq => by rw [List.mem_singleton.mp hq]; decide, fun q hq => by rw [List.mem_singleton.mp hq]; decide⟩
theorem full_share {l p : Int} (h0 : 0 ≤ p) (h1 : p ≤ 3) : shareL l p full = 100 := by
  have e : fitD l p (.tup [.str "plan", .tup [.int 0, .int 1, .int 2, .int 3]]) = ([0, 1, 2, 3] : List Int).contains p := by
    simp only [fitD, fitK, beq_self_eq_true, Bool.or_false, Bool.false_or, Bool.true_or, Bool.or_true, sb_land_plan, sb_land_and, sb_land_or, sb_land_not, sb_plan_land, sb_plan_and, sb_plan_or, sb_plan_not, sb_and_land, sb_and_plan, sb_and_or, sb_and_not, sb_or_land, sb_or_plan, sb_or_and, sb_or_not, sb_not_land, sb_not_plan, sb_not_and, sb_not_or, Bool.false_eq_true, if_false, if_true, inT]
    exact in_ints p [0, 1, 2, 3]
  have e2 : ([0, 1, 2, 3] : List Int).contains p = true := by
    have : p = 0 ∨ p = 1 ∨ p = 2 ∨ p = 3 := by omega
    rcases this with rfl | rfl | rfl | rfl <;> rfl
  show (bif fitD l p _ then _ else _) = _
  rw [e, e2]
  rfl
theorem Le.full {A : List (D × Int)} (h : IsR A) : Le A full := fun l p h0 h1 => by
  rw [full_share h0 h1]
  exact (shareL_bd h l p).2
/-- a course as it is drawn -/
structure Dr5 (g : Bool) (C : Co) : Prop where
  co : IsCo C
  len : C.length ≤ 5
  day : ∀ q ∈ C, q.1 ≤ 400
  cn : ∀ q ∈ C, Dn 4 2 q.2
  up : g = true → C.Pairwise fun p q => Le p.2 q.2
section
variable {T : Nat → Option Df} (hT : Exts T) {n : Nat}
include hT
theorem c_law_rules_on {C : Co} (hC : IsCo C) (d : Int) {h : Hd} : call T (n + 1) 53 [courseD C, .int d] h = .ok (rulesD (onC C d)) h := by
  rw [callT hT (show T0 53 = some ir_law_rules_on from rfl)]
  unfold ir_law_rules_on
  (try simp -implicitDefEqProofs only [runD, evSs_nil, evS, evE, evB, evA, evAV, evO, evC, evI, vw, Mini.start, bind_ok, bind_exc, bind_bad, bind_ite, of_somE, of_noneE, sof_ok, sof_exc, sof_bad, sof_ite, seq_nx, seq_rt, seq_exc, seq_bad, seq_ite, out_nx, out_rt, out_exc, out_ite, nox_ok, truth_bl, dif_true, dif_false, Ck.d, List.map_cons, List.map_nil, List.length_cons, List.length_nil, List.replicate, List.cons_append, List.nil_append, List.append_nil, List.getElem?_cons_zero, List.getElem?_cons_succ, List.set_cons_zero, List.set_cons_succ, Option.map_some, decide_true, decide_false, set2, set_len, asg_nm, asg_tp, asgs_nil, asgs_cons, Option.bind_some, wipeE, b_add, b_sub, k_lt, k_le, k_gt, k_ge, k_eq, k_ne, k_isN, k_isnN, s_lst, s_tup, Bool.and_true, Bool.true_and, if_true, if_false, reduceCtorEq, Nat.reduceAdd, Nat.reduceSub, Nat.reduceLT, Nat.reduceLeDiff, Nat.reduceEqDiff, Bool.and_false, Bool.false_and, Bool.not_true, Bool.not_false, Bool.false_eq_true, okk_bind, okk_ok, okk_nox, okk_out, oks_seq, oks_of, oks_nx, oks_rt, ixc0, ixc1, ixc2, ixc3, nat_c, Int.reduceSub, Int.reduceAdd, Int.reduceEq, Int.reduceLT, Int.reduceLE, Int.reduceMul, Bool.or_false, Bool.false_or, Bool.true_or, Bool.or_true, Bool.or_self, Bool.and_self, List.isEmpty_nil, List.isEmpty_cons, bq1, bq2, bq3, bq4, cond_true, cond_false, eq_self])
  rw [evSs_cons]; (try simp -implicitDefEqProofs only [runD, evSs_nil, evS, evE, evB, evA, evAV, evO, evC, evI, vw, Mini.start, bind_ok, bind_exc, bind_bad, bind_ite, of_somE, of_noneE, sof_ok, sof_exc, sof_bad, sof_ite, seq_nx, seq_rt, seq_exc, seq_bad, seq_ite, out_nx, out_rt, out_exc, out_ite, nox_ok, truth_bl, dif_true, dif_false, Ck.d, List.map_cons, List.map_nil, List.length_cons, List.length_nil, List.replicate, List.cons_append, List.nil_append, List.append_nil, List.getElem?_cons_zero, List.getElem?_cons_succ, List.set_cons_zero, List.set_cons_succ, Option.map_some, decide_true, decide_false, set2, set_len, asg_nm, asg_tp, asgs_nil, asgs_cons, Option.bind_some, wipeE, b_add, b_sub, k_lt, k_le, k_gt, k_ge, k_eq, k_ne, k_isN, k_isnN, s_lst, s_tup, Bool.and_true, Bool.true_and, if_true, if_false, reduceCtorEq, Nat.reduceAdd, Nat.reduceSub, Nat.reduceLT, Nat.reduceLeDiff, Nat.reduceEqDiff, Bool.and_false, Bool.false_and, Bool.not_true, Bool.not_false, Bool.false_eq_true, okk_bind, okk_ok, okk_nox, okk_out, oks_seq, oks_of, oks_nx, oks_rt, ixc0, ixc1, ixc2, ixc3, nat_c, Int.reduceSub, Int.reduceAdd, Int.reduceEq, Int.reduceLT, Int.reduceLE, Int.reduceMul, Bool.or_false, Bool.false_or, Bool.true_or, Bool.or_true, Bool.or_self, Bool.and_self, List.isEmpty_nil, List.isEmpty_cons, bq1, bq2, bq3, bq4, cond_true, cond_false, eq_self])
  rw [loopC_map (f := onF d) (fun y hy => by
    obtain ⟨⟨b, L⟩, hq, rfl⟩ := List.mem_map.mp hy
    simp -implicitDefEqProofs only [runD, evSs_nil, evS, evE, evB, evA, evAV, evO, evC, evI, vw, Mini.start, bind_ok, bind_exc, bind_bad, bind_ite, of_somE, of_noneE, sof_ok, sof_exc, sof_bad, sof_ite, seq_nx, seq_rt, seq_exc, seq_bad, seq_ite, out_nx, out_rt, out_exc, out_ite, nox_ok, truth_bl, dif_true, dif_false, Ck.d, List.map_cons, List.map_nil, List.length_cons, List.length_nil, List.replicate, List.cons_append, List.nil_append, List.append_nil, List.getElem?_cons_zero, List.getElem?_cons_succ, List.set_cons_zero, List.set_cons_succ, Option.map_some, decide_true, decide_false, set2, set_len, asg_nm, asg_tp, asgs_nil, asgs_cons, Option.bind_some, wipeE, b_add, b_sub, k_lt, k_le, k_gt, k_ge, k_eq, k_ne, k_isN, k_isnN, s_lst, s_tup, Bool.and_true, Bool.true_and, if_true, if_false, reduceCtorEq, Nat.reduceAdd, Nat.reduceSub, Nat.reduceLT, Nat.reduceLeDiff, Nat.reduceEqDiff, Bool.and_false, Bool.false_and, Bool.not_true, Bool.not_false, Bool.false_eq_true, okk_bind, okk_ok, okk_nox, okk_out, oks_seq, oks_of, oks_nx, oks_rt, ixc0, ixc1, ixc2, ixc3, nat_c, Int.reduceSub, Int.reduceAdd, Int.reduceEq, Int.reduceLT, Int.reduceLE, Int.reduceMul, Bool.or_false, Bool.false_or, Bool.true_or, Bool.or_true, Bool.or_self, Bool.and_self, List.isEmpty_nil, List.isEmpty_cons, bq1, bq2, bq3, bq4, cond_true, cond_false, eq_self, coD, onF]
    cases decide (b ≤ d) <;> rfl), onF_map]
  have hr : ∀ q ∈ C.filter (fun q => decide (q.1 ≤ d)), IsR q.2 := fun q hq => hC.r q (List.mem_filter.mp hq).1
  have hl : (C.filter fun q => decide (q.1 ≤ d)).length ≤ 8 := Nat.le_trans (List.length_filter_le _ _) hC.l1
  unfold onC
  generalize C.filter (fun q => decide (q.1 ≤ d)) = F at *
  have hl2 : (F.map fun q => rulesD q.2).length ≤ 1000000 := by rw [List.length_map]; omega
  have nr : D.nrs (F.map fun q => rulesD q.2) = true := nrs_all.mpr fun x hx => by
    obtain ⟨q, hq, rfl⟩ := List.mem_map.mp hx
    exact nr_rules (hr q hq).c
  have e1 : cmpD .NotEq (.lst (F.map fun q => rulesD q.2)) (.lst []) = some (!(F.map fun q => rulesD q.2).isEmpty) := by
    rw [k_neD (okEq_nil nr)]
    simp [D.eqv, eqvs_nil]
  simp -implicitDefEqProofs only [runD, evSs_nil, evS, evE, evB, evA, evAV, evO, evC, evI, vw, Mini.start, bind_ok, bind_exc, bind_bad, bind_ite, of_somE, of_noneE, sof_ok, sof_exc, sof_bad, sof_ite, seq_nx, seq_rt, seq_exc, seq_bad, seq_ite, out_nx, out_rt, out_exc, out_ite, nox_ok, truth_bl, dif_true, dif_false, Ck.d, List.map_cons, List.map_nil, List.length_cons, List.length_nil, List.replicate, List.cons_append, List.nil_append, List.append_nil, List.getElem?_cons_zero, List.getElem?_cons_succ, List.set_cons_zero, List.set_cons_succ, Option.map_some, decide_true, decide_false, set2, set_len, asg_nm, asg_tp, asgs_nil, asgs_cons, Option.bind_some, wipeE, b_add, b_sub, k_lt, k_le, k_gt, k_ge, k_eq, k_ne, k_isN, k_isnN, s_lst, s_tup, Bool.and_true, Bool.true_and, if_true, if_false, reduceCtorEq, Nat.reduceAdd, Nat.reduceSub, Nat.reduceLT, Nat.reduceLeDiff, Nat.reduceEqDiff, Bool.and_false, Bool.false_and, Bool.not_true, Bool.not_false, Bool.false_eq_true, okk_bind, okk_ok, okk_nox, okk_out, oks_seq, oks_of, oks_nx, oks_rt, ixc0, ixc1, ixc2, ixc3, nat_c, Int.reduceSub, Int.reduceAdd, Int.reduceEq, Int.reduceLT, Int.reduceLE, Int.reduceMul, Bool.or_false, Bool.false_or, Bool.true_or, Bool.or_true, Bool.or_self, Bool.and_self, List.isEmpty_nil, List.isEmpty_cons, bq1, bq2, bq3, bq4, cond_true, cond_false, eq_self, hl2]
  rcases List.eq_nil_or_concat F with rfl | ⟨A, q, rfl⟩
  · rw [List.map_nil] at e1
    rw [evSs_cons]; simp -implicitDefEqProofs only [runD, evSs_nil, evS, evE, evB, evA, evAV, evO, evC, evI, vw, Mini.start, bind_ok, bind_exc, bind_bad, bind_ite, of_somE, of_noneE, sof_ok, sof_exc, sof_bad, sof_ite, seq_nx, seq_rt, seq_exc, seq_bad, seq_ite, out_nx, out_rt, out_exc, out_ite, nox_ok, truth_bl, dif_true, dif_false, Ck.d, List.map_cons, List.map_nil, List.length_cons, List.length_nil, List.replicate, List.cons_append, List.nil_append, List.append_nil, List.getElem?_cons_zero, List.getElem?_cons_succ, List.set_cons_zero, List.set_cons_succ, Option.map_some, decide_true, decide_false, set2, set_len, asg_nm, asg_tp, asgs_nil, asgs_cons, Option.bind_some, wipeE, b_add, b_sub, k_lt, k_le, k_gt, k_ge, k_eq, k_ne, k_isN, k_isnN, s_lst, s_tup, Bool.and_true, Bool.true_and, if_true, if_false, reduceCtorEq, Nat.reduceAdd, Nat.reduceSub, Nat.reduceLT, Nat.reduceLeDiff, Nat.reduceEqDiff, Bool.and_false, Bool.false_and, Bool.not_true, Bool.not_false, Bool.false_eq_true, okk_bind, okk_ok, okk_nox, okk_out, oks_seq, oks_of, oks_nx, oks_rt, ixc0, ixc1, ixc2, ixc3, nat_c, Int.reduceSub, Int.reduceAdd, Int.reduceEq, Int.reduceLT, Int.reduceLE, Int.reduceMul, Bool.or_false, Bool.false_or, Bool.true_or, Bool.or_true, Bool.or_self, Bool.and_self, List.isEmpty_nil, List.isEmpty_cons, bq1, bq2, bq3, bq4, cond_true, cond_false, eq_self, e1]
    rfl
  · rw [List.concat_eq_append, List.map_append, List.map_cons, List.map_nil] at *
    have e2 : (A.map (fun q => rulesD q.2) ++ [rulesD q.2]).isEmpty = false := by simp
    rw [e2] at e1
    rw [evSs_cons]; simp -implicitDefEqProofs only [runD, evSs_nil, evS, evE, evB, evA, evAV, evO, evC, evI, vw, Mini.start, bind_ok, bind_exc, bind_bad, bind_ite, of_somE, of_noneE, sof_ok, sof_exc, sof_bad, sof_ite, seq_nx, seq_rt, seq_exc, seq_bad, seq_ite, out_nx, out_rt, out_exc, out_ite, nox_ok, truth_bl, dif_true, dif_false, Ck.d, List.map_cons, List.map_nil, List.length_cons, List.length_nil, List.replicate, List.cons_append, List.nil_append, List.append_nil, List.getElem?_cons_zero, List.getElem?_cons_succ, List.set_cons_zero, List.set_cons_succ, Option.map_some, decide_true, decide_false, set2, set_len, asg_nm, asg_tp, asgs_nil, asgs_cons, Option.bind_some, wipeE, b_add, b_sub, k_lt, k_le, k_gt, k_ge, k_eq, k_ne, k_isN, k_isnN, s_lst, s_tup, Bool.and_true, Bool.true_and, if_true, if_false, reduceCtorEq, Nat.reduceAdd, Nat.reduceSub, Nat.reduceLT, Nat.reduceLeDiff, Nat.reduceEqDiff, Bool.and_false, Bool.false_and, Bool.not_true, Bool.not_false, Bool.false_eq_true, okk_bind, okk_ok, okk_nox, okk_out, oks_seq, oks_of, oks_nx, oks_rt, ixc0, ixc1, ixc2, ixc3, nat_c, Int.reduceSub, Int.reduceAdd, Int.reduceEq, Int.reduceLT, Int.reduceLE, Int.reduceMul, Bool.or_false, Bool.false_or, Bool.true_or, Bool.or_true, Bool.or_self, Bool.and_self, List.isEmpty_nil, List.isEmpty_cons, bq1, bq2, bq3, bq4, cond_true, cond_false, eq_self, e1, x_last]
    simp
theorem c_law_course {h : Hd} {i : Nat} {a b : Int} (g : Bool) (r : Int) (hi : i < h.length) (hd : Dc (r + 200000) a b) (hr : 0 ≤ r) :
    Okk (call T (n + 7) 52 [.ref i, .bl g] (h.set i (dc a b))) (Dr h i r fun d => ∃ C, d = courseD C ∧ Dr5 g C) := by
  rw [callT hT (show T0 52 = some ir_law_course from rfl)]
  unfold ir_law_course
  (try simp -implicitDefEqProofs only [runD, evSs_nil, evS, evE, evB, evA, evAV, evO, evC, evI, vw, Mini.start, bind_ok, bind_exc, bind_bad, bind_ite, of_somE, of_noneE, sof_ok, sof_exc, sof_bad, sof_ite, seq_nx, seq_rt, seq_exc, seq_bad, seq_ite, out_nx, out_rt, out_exc, out_ite, nox_ok, truth_bl, dif_true, dif_false, Ck.d, List.map_cons, List.map_nil, List.length_cons, List.length_nil, List.replicate, List.cons_append, List.nil_append, List.append_nil, List.getElem?_cons_zero, List.getElem?_cons_succ, List.set_cons_zero, List.set_cons_succ, Option.map_some, decide_true, decide_false, set2, set_len, asg_nm, asg_tp, asgs_nil, asgs_cons, Option.bind_some, wipeE, b_add, b_sub, k_lt, k_le, k_gt, k_ge, k_eq, k_ne, k_isN, k_isnN, s_lst, s_tup, Bool.and_true, Bool.true_and, if_true, if_false, reduceCtorEq, Nat.reduceAdd, Nat.reduceSub, Nat.reduceLT, Nat.reduceLeDiff, Nat.reduceEqDiff, Bool.and_false, Bool.false_and, Bool.not_true, Bool.not_false, Bool.false_eq_true, okk_bind, okk_ok, okk_nox, okk_out, oks_seq, oks_of, oks_nx, oks_rt, ixc0, ixc1, ixc2, ixc3, nat_c, Int.reduceSub, Int.reduceAdd, Int.reduceEq, Int.reduceLT, Int.reduceLE, Int.reduceMul, Bool.or_false, Bool.false_or, Bool.true_or, Bool.or_true, Bool.or_self, Bool.and_self, List.isEmpty_nil, List.isEmpty_cons, bq1, bq2, bq3, bq4, cond_true, cond_false, eq_self])
  rw [evSs_cons]; (try simp -implicitDefEqProofs only [runD, evSs_nil, evS, evE, evB, evA, evAV, evO, evC, evI, vw, Mini.start, bind_ok, bind_exc, bind_bad, bind_ite, of_somE, of_noneE, sof_ok, sof_exc, sof_bad, sof_ite, seq_nx, seq_rt, seq_exc, seq_bad, seq_ite, out_nx, out_rt, out_exc, out_ite, nox_ok, truth_bl, dif_true, dif_false, Ck.d, List.map_cons, List.map_nil, List.length_cons, List.length_nil, List.replicate, List.cons_append, List.nil_append, List.append_nil, List.getElem?_cons_zero, List.getElem?_cons_succ, List.set_cons_zero, List.set_cons_succ, Option.map_some, decide_true, decide_false, set2, set_len, asg_nm, asg_tp, asgs_nil, asgs_cons, Option.bind_some, wipeE, b_add, b_sub, k_lt, k_le, k_gt, k_ge, k_eq, k_ne, k_isN, k_isnN, s_lst, s_tup, Bool.and_true, Bool.true_and, if_true, if_false, reduceCtorEq, Nat.reduceAdd, Nat.reduceSub, Nat.reduceLT, Nat.reduceLeDiff, Nat.reduceEqDiff, Bool.and_false, Bool.false_and, Bool.not_true, Bool.not_false, Bool.false_eq_true, okk_bind, okk_ok, okk_nox, okk_out, oks_seq, oks_of, oks_nx, oks_rt, ixc0, ixc1, ixc2, ixc3, nat_c, Int.reduceSub, Int.reduceAdd, Int.reduceEq, Int.reduceLT, Int.reduceLE, Int.reduceMul, Bool.or_false, Bool.false_or, Bool.true_or, Bool.or_true, Bool.or_self, Bool.and_self, List.isEmpty_nil, List.isEmpty_cons, bq1, bq2, bq3, bq4, cond_true, cond_false, eq_self])
  refine (c_rollK hT (n := n + 4) (r + 199990) hi (hd.less (by omega)) (by omega) (by decide) (by decide)).mono fun d h' q => ?_
  obtain ⟨a1, b1, rfl, d1, day, rfl, day0, day1⟩ := q
  (try simp -implicitDefEqProofs only [runD, evSs_nil, evS, evE, evB, evA, evAV, evO, evC, evI, vw, Mini.start, bind_ok, bind_exc, bind_bad, bind_ite, of_somE, of_noneE, sof_ok, sof_exc, sof_bad, sof_ite, seq_nx, seq_rt, seq_exc, seq_bad, seq_ite, out_nx, out_rt, out_exc, out_ite, nox_ok, truth_bl, dif_true, dif_false, Ck.d, List.map_cons, List.map_nil, List.length_cons, List.length_nil, List.replicate, List.cons_append, List.nil_append, List.append_nil, List.getElem?_cons_zero, List.getElem?_cons_succ, List.set_cons_zero, List.set_cons_succ, Option.map_some, decide_true, decide_false, set2, set_len, asg_nm, asg_tp, asgs_nil, asgs_cons, Option.bind_some, wipeE, b_add, b_sub, k_lt, k_le, k_gt, k_ge, k_eq, k_ne, k_isN, k_isnN, s_lst, s_tup, Bool.and_true, Bool.true_and, if_true, if_false, reduceCtorEq, Nat.reduceAdd, Nat.reduceSub, Nat.reduceLT, Nat.reduceLeDiff, Nat.reduceEqDiff, Bool.and_false, Bool.false_and, Bool.not_true, Bool.not_false, Bool.false_eq_true, okk_bind, okk_ok, okk_nox, okk_out, oks_seq, oks_of, oks_nx, oks_rt, ixc0, ixc1, ixc2, ixc3, nat_c, Int.reduceSub, Int.reduceAdd, Int.reduceEq, Int.reduceLT, Int.reduceLE, Int.reduceMul, Bool.or_false, Bool.false_or, Bool.true_or, Bool.or_true, Bool.or_self, Bool.and_self, List.isEmpty_nil, List.isEmpty_cons, bq1, bq2, bq3, bq4, cond_true, cond_false, eq_self])
  refine (c_law_rules hT (k := 1) (by decide) n (r + 150001) hi (d1.less (by omega)) (by omega)).mono fun d h' q => ?_
  obtain ⟨a2, b2, rfl, d2, L, rfl, dn⟩ := q
  (try simp -implicitDefEqProofs only [runD, evSs_nil, evS, evE, evB, evA, evAV, evO, evC, evI, vw, Mini.start, bind_ok, bind_exc, bind_bad, bind_ite, of_somE, of_noneE, sof_ok, sof_exc, sof_bad, sof_ite, seq_nx, seq_rt, seq_exc, seq_bad, seq_ite, out_nx, out_rt, out_exc, out_ite, nox_ok, truth_bl, dif_true, dif_false, Ck.d, List.map_cons, List.map_nil, List.length_cons, List.length_nil, List.replicate, List.cons_append, List.nil_append, List.append_nil, List.getElem?_cons_zero, List.getElem?_cons_succ, List.set_cons_zero, List.set_cons_succ, Option.map_some, decide_true, decide_false, set2, set_len, asg_nm, asg_tp, asgs_nil, asgs_cons, Option.bind_some, wipeE, b_add, b_sub, k_lt, k_le, k_gt, k_ge, k_eq, k_ne, k_isN, k_isnN, s_lst, s_tup, Bool.and_true, Bool.true_and, if_true, if_false, reduceCtorEq, Nat.reduceAdd, Nat.reduceSub, Nat.reduceLT, Nat.reduceLeDiff, Nat.reduceEqDiff, Bool.and_false, Bool.false_and, Bool.not_true, Bool.not_false, Bool.false_eq_true, okk_bind, okk_ok, okk_nox, okk_out, oks_seq, oks_of, oks_nx, oks_rt, ixc0, ixc1, ixc2, ixc3, nat_c, Int.reduceSub, Int.reduceAdd, Int.reduceEq, Int.reduceLT, Int.reduceLE, Int.reduceMul, Bool.or_false, Bool.false_or, Bool.true_or, Bool.or_true, Bool.or_self, Bool.and_self, List.isEmpty_nil, List.isEmpty_cons, bq1, bq2, bq3, bq4, cond_true, cond_false, eq_self])
  rw [evSs_cons]; (try simp -implicitDefEqProofs only [runD, evSs_nil, evS, evE, evB, evA, evAV, evO, evC, evI, vw, Mini.start, bind_ok, bind_exc, bind_bad, bind_ite, of_somE, of_noneE, sof_ok, sof_exc, sof_bad, sof_ite, seq_nx, seq_rt, seq_exc, seq_bad, seq_ite, out_nx, out_rt, out_exc, out_ite, nox_ok, truth_bl, dif_true, dif_false, Ck.d, List.map_cons, List.map_nil, List.length_cons, List.length_nil, List.replicate, List.cons_append, List.nil_append, List.append_nil, List.getElem?_cons_zero, List.getElem?_cons_succ, List.set_cons_zero, List.set_cons_succ, Option.map_some, decide_true, decide_false, set2, set_len, asg_nm, asg_tp, asgs_nil, asgs_cons, Option.bind_some, wipeE, b_add, b_sub, k_lt, k_le, k_gt, k_ge, k_eq, k_ne, k_isN, k_isnN, s_lst, s_tup, Bool.and_true, Bool.true_and, if_true, if_false, reduceCtorEq, Nat.reduceAdd, Nat.reduceSub, Nat.reduceLT, Nat.reduceLeDiff, Nat.reduceEqDiff, Bool.and_false, Bool.false_and, Bool.not_true, Bool.not_false, Bool.false_eq_true, okk_bind, okk_ok, okk_nox, okk_out, oks_seq, oks_of, oks_nx, oks_rt, ixc0, ixc1, ixc2, ixc3, nat_c, Int.reduceSub, Int.reduceAdd, Int.reduceEq, Int.reduceLT, Int.reduceLE, Int.reduceMul, Bool.or_false, Bool.false_or, Bool.true_or, Bool.or_true, Bool.or_self, Bool.and_self, List.isEmpty_nil, List.isEmpty_cons, bq1, bq2, bq3, bq4, cond_true, cond_false, eq_self])
  refine (c_rollK hT (n := n + 4) (r + 150000) hi (d2.less (by omega)) (by omega) (by decide) (by decide)).mono fun d h' q => ?_
  obtain ⟨a3, b3, rfl, d3, N, rfl, N0, N1⟩ := q
  have sm : small (1 + N) = true := by simp [small]; omega
  simp -implicitDefEqProofs only [runD, evSs_nil, evS, evE, evB, evA, evAV, evO, evC, evI, vw, Mini.start, bind_ok, bind_exc, bind_bad, bind_ite, of_somE, of_noneE, sof_ok, sof_exc, sof_bad, sof_ite, seq_nx, seq_rt, seq_exc, seq_bad, seq_ite, out_nx, out_rt, out_exc, out_ite, nox_ok, truth_bl, dif_true, dif_false, Ck.d, List.map_cons, List.map_nil, List.length_cons, List.length_nil, List.replicate, List.cons_append, List.nil_append, List.append_nil, List.getElem?_cons_zero, List.getElem?_cons_succ, List.set_cons_zero, List.set_cons_succ, Option.map_some, decide_true, decide_false, set2, set_len, asg_nm, asg_tp, asgs_nil, asgs_cons, Option.bind_some, wipeE, b_add, b_sub, k_lt, k_le, k_gt, k_ge, k_eq, k_ne, k_isN, k_isnN, s_lst, s_tup, Bool.and_true, Bool.true_and, if_true, if_false, reduceCtorEq, Nat.reduceAdd, Nat.reduceSub, Nat.reduceLT, Nat.reduceLeDiff, Nat.reduceEqDiff, Bool.and_false, Bool.false_and, Bool.not_true, Bool.not_false, Bool.false_eq_true, okk_bind, okk_ok, okk_nox, okk_out, oks_seq, oks_of, oks_nx, oks_rt, ixc0, ixc1, ixc2, ixc3, nat_c, Int.reduceSub, Int.reduceAdd, Int.reduceEq, Int.reduceLT, Int.reduceLE, Int.reduceMul, Bool.or_false, Bool.false_or, Bool.true_or, Bool.or_true, Bool.or_self, Bool.and_self, List.isEmpty_nil, List.isEmpty_cons, bq1, bq2, bq3, bq4, cond_true, cond_false, eq_self, sm]
  refine forL_by (fun rest ρ h' => ∃ a b C day L z2, ρ = [some (.val (.ref i)), some (.val (.bl g)), z2, some (.own (C.map coD)), some (.val (.int day)), some (.val (rulesD L))] ∧ h' = h.set i (dc a b) ∧ Dc (r + 21000 * rest.length) a b ∧ C.length + rest.length = (1 + N).toNat ∧ Dn 4 2 L ∧ 0 ≤ day ∧ day ≤ 20 + 60 * C.length ∧
      (∀ q ∈ C, 0 ≤ q.1 ∧ q.1 < day ∧ Dn 4 2 q.2) ∧ (C.Pairwise fun p q => p.1 < q.1) ∧ (g = true → (∀ q ∈ C, Le q.2 L) ∧ C.Pairwise fun p q => Le p.2 q.2)) (fun ρ h' p => ?_) (fun x rest ρ h' p => ?_)
    ⟨a3, b3, [], day, L, none, rfl, rfl, d3.less (by simp only [rngD, List.length_map, List.length_range]; omega), by simp [rngD], dn, day0, by simp; omega, by simp, .nil, fun _ => ⟨by simp, .nil⟩⟩
  · obtain ⟨a4, b4, C, day, L, z2, rfl, rfl, d4, hl, dn, dd0, dd1, hq, hp, hg⟩ := p
    simp only [List.length_nil, Nat.add_zero] at hl
    rw [evSs_cons]; simp -implicitDefEqProofs only [runD, evSs_nil, evS, evE, evB, evA, evAV, evO, evC, evI, vw, Mini.start, bind_ok, bind_exc, bind_bad, bind_ite, of_somE, of_noneE, sof_ok, sof_exc, sof_bad, sof_ite, seq_nx, seq_rt, seq_exc, seq_bad, seq_ite, out_nx, out_rt, out_exc, out_ite, nox_ok, truth_bl, dif_true, dif_false, Ck.d, List.map_cons, List.map_nil, List.length_cons, List.length_nil, List.replicate, List.cons_append, List.nil_append, List.append_nil, List.getElem?_cons_zero, List.getElem?_cons_succ, List.set_cons_zero, List.set_cons_succ, Option.map_some, decide_true, decide_false, set2, set_len, asg_nm, asg_tp, asgs_nil, asgs_cons, Option.bind_some, wipeE, b_add, b_sub, k_lt, k_le, k_gt, k_ge, k_eq, k_ne, k_isN, k_isnN, s_lst, s_tup, Bool.and_true, Bool.true_and, if_true, if_false, reduceCtorEq, Nat.reduceAdd, Nat.reduceSub, Nat.reduceLT, Nat.reduceLeDiff, Nat.reduceEqDiff, Bool.and_false, Bool.false_and, Bool.not_true, Bool.not_false, Bool.false_eq_true, okk_bind, okk_ok, okk_nox, okk_out, oks_seq, oks_of, oks_nx, oks_rt, ixc0, ixc1, ixc2, ixc3, nat_c, Int.reduceSub, Int.reduceAdd, Int.reduceEq, Int.reduceLT, Int.reduceLE, Int.reduceMul, Bool.or_false, Bool.false_or, Bool.true_or, Bool.or_true, Bool.or_self, Bool.and_self, List.isEmpty_nil, List.isEmpty_cons, bq1, bq2, bq3, bq4, cond_true, cond_false, eq_self, tuple_lst]
    refine ⟨a4, b4, rfl, d4.less (by simp), C, rfl, ⟨⟨by omega, by omega, fun q h => (hq q h).1, fun q h => by have := (hq q h).2.1; omega, fun q h => (hq q h).2.2.isR (by decide) (by decide), hp⟩, by omega, fun q h => by have := (hq q h).2.1; omega, fun q h => (hq q h).2.2, fun e => (hg e).2⟩⟩
  · obtain ⟨a4, b4, C, day, L, z2, rfl, rfl, d4, hl, dn, dd0, dd1, hq, hp, hg⟩ := p
    simp only [List.length_cons] at hl d4
    have l2 : (C.map coD).length < 1000000 := by simp only [List.length_map]; omega
    (try simp -implicitDefEqProofs only [runD, evSs_nil, evS, evE, evB, evA, evAV, evO, evC, evI, vw, Mini.start, bind_ok, bind_exc, bind_bad, bind_ite, of_somE, of_noneE, sof_ok, sof_exc, sof_bad, sof_ite, seq_nx, seq_rt, seq_exc, seq_bad, seq_ite, out_nx, out_rt, out_exc, out_ite, nox_ok, truth_bl, dif_true, dif_false, Ck.d, List.map_cons, List.map_nil, List.length_cons, List.length_nil, List.replicate, List.cons_append, List.nil_append, List.append_nil, List.getElem?_cons_zero, List.getElem?_cons_succ, List.set_cons_zero, List.set_cons_succ, Option.map_some, decide_true, decide_false, set2, set_len, asg_nm, asg_tp, asgs_nil, asgs_cons, Option.bind_some, wipeE, b_add, b_sub, k_lt, k_le, k_gt, k_ge, k_eq, k_ne, k_isN, k_isnN, s_lst, s_tup, Bool.and_true, Bool.true_and, if_true, if_false, reduceCtorEq, Nat.reduceAdd, Nat.reduceSub, Nat.reduceLT, Nat.reduceLeDiff, Nat.reduceEqDiff, Bool.and_false, Bool.false_and, Bool.not_true, Bool.not_false, Bool.false_eq_true, okk_bind, okk_ok, okk_nox, okk_out, oks_seq, oks_of, oks_nx, oks_rt, ixc0, ixc1, ixc2, ixc3, nat_c, Int.reduceSub, Int.reduceAdd, Int.reduceEq, Int.reduceLT, Int.reduceLE, Int.reduceMul, Bool.or_false, Bool.false_or, Bool.true_or, Bool.or_true, Bool.or_self, Bool.and_self, List.isEmpty_nil, List.isEmpty_cons, bq1, bq2, bq3, bq4, cond_true, cond_false, eq_self])
    rw [evSs_cons]; simp -implicitDefEqProofs only [runD, evSs_nil, evS, evE, evB, evA, evAV, evO, evC, evI, vw, Mini.start, bind_ok, bind_exc, bind_bad, bind_ite, of_somE, of_noneE, sof_ok, sof_exc, sof_bad, sof_ite, seq_nx, seq_rt, seq_exc, seq_bad, seq_ite, out_nx, out_rt, out_exc, out_ite, nox_ok, truth_bl, dif_true, dif_false, Ck.d, List.map_cons, List.map_nil, List.length_cons, List.length_nil, List.replicate, List.cons_append, List.nil_append, List.append_nil, List.getElem?_cons_zero, List.getElem?_cons_succ, List.set_cons_zero, List.set_cons_succ, Option.map_some, decide_true, decide_false, set2, set_len, asg_nm, asg_tp, asgs_nil, asgs_cons, Option.bind_some, wipeE, b_add, b_sub, k_lt, k_le, k_gt, k_ge, k_eq, k_ne, k_isN, k_isnN, s_lst, s_tup, Bool.and_true, Bool.true_and, if_true, if_false, reduceCtorEq, Nat.reduceAdd, Nat.reduceSub, Nat.reduceLT, Nat.reduceLeDiff, Nat.reduceEqDiff, Bool.and_false, Bool.false_and, Bool.not_true, Bool.not_false, Bool.false_eq_true, okk_bind, okk_ok, okk_nox, okk_out, oks_seq, oks_of, oks_nx, oks_rt, ixc0, ixc1, ixc2, ixc3, nat_c, Int.reduceSub, Int.reduceAdd, Int.reduceEq, Int.reduceLT, Int.reduceLE, Int.reduceMul, Bool.or_false, Bool.false_or, Bool.true_or, Bool.or_true, Bool.or_self, Bool.and_self, List.isEmpty_nil, List.isEmpty_cons, bq1, bq2, bq3, bq4, cond_true, cond_false, eq_self, l2]
    rw [evSs_cons]; (try simp -implicitDefEqProofs only [runD, evSs_nil, evS, evE, evB, evA, evAV, evO, evC, evI, vw, Mini.start, bind_ok, bind_exc, bind_bad, bind_ite, of_somE, of_noneE, sof_ok, sof_exc, sof_bad, sof_ite, seq_nx, seq_rt, seq_exc, seq_bad, seq_ite, out_nx, out_rt, out_exc, out_ite, nox_ok, truth_bl, dif_true, dif_false, Ck.d, List.map_cons, List.map_nil, List.length_cons, List.length_nil, List.replicate, List.cons_append, List.nil_append, List.append_nil, List.getElem?_cons_zero, List.getElem?_cons_succ, List.set_cons_zero, List.set_cons_succ, Option.map_some, decide_true, decide_false, set2, set_len, asg_nm, asg_tp, asgs_nil, asgs_cons, Option.bind_some, wipeE, b_add, b_sub, k_lt, k_le, k_gt, k_ge, k_eq, k_ne, k_isN, k_isnN, s_lst, s_tup, Bool.and_true, Bool.true_and, if_true, if_false, reduceCtorEq, Nat.reduceAdd, Nat.reduceSub, Nat.reduceLT, Nat.reduceLeDiff, Nat.reduceEqDiff, Bool.and_false, Bool.false_and, Bool.not_true, Bool.not_false, Bool.false_eq_true, okk_bind, okk_ok, okk_nox, okk_out, oks_seq, oks_of, oks_nx, oks_rt, ixc0, ixc1, ixc2, ixc3, nat_c, Int.reduceSub, Int.reduceAdd, Int.reduceEq, Int.reduceLT, Int.reduceLE, Int.reduceMul, Bool.or_false, Bool.false_or, Bool.true_or, Bool.or_true, Bool.or_self, Bool.and_self, List.isEmpty_nil, List.isEmpty_cons, bq1, bq2, bq3, bq4, cond_true, cond_false, eq_self])
    refine (c_rollK hT (n := n + 4) (r + 21000 * rest.length + 20900) hi (d4.less (by omega)) (by omega) (by decide) (by decide)).mono fun d h' q => ?_
    obtain ⟨a5, b5, rfl, d5, x, rfl, x0, x1⟩ := q
    (try simp -implicitDefEqProofs only [runD, evSs_nil, evS, evE, evB, evA, evAV, evO, evC, evI, vw, Mini.start, bind_ok, bind_exc, bind_bad, bind_ite, of_somE, of_noneE, sof_ok, sof_exc, sof_bad, sof_ite, seq_nx, seq_rt, seq_exc, seq_bad, seq_ite, out_nx, out_rt, out_exc, out_ite, nox_ok, truth_bl, dif_true, dif_false, Ck.d, List.map_cons, List.map_nil, List.length_cons, List.length_nil, List.replicate, List.cons_append, List.nil_append, List.append_nil, List.getElem?_cons_zero, List.getElem?_cons_succ, List.set_cons_zero, List.set_cons_succ, Option.map_some, decide_true, decide_false, set2, set_len, asg_nm, asg_tp, asgs_nil, asgs_cons, Option.bind_some, wipeE, b_add, b_sub, k_lt, k_le, k_gt, k_ge, k_eq, k_ne, k_isN, k_isnN, s_lst, s_tup, Bool.and_true, Bool.true_and, if_true, if_false, reduceCtorEq, Nat.reduceAdd, Nat.reduceSub, Nat.reduceLT, Nat.reduceLeDiff, Nat.reduceEqDiff, Bool.and_false, Bool.false_and, Bool.not_true, Bool.not_false, Bool.false_eq_true, okk_bind, okk_ok, okk_nox, okk_out, oks_seq, oks_of, oks_nx, oks_rt, ixc0, ixc1, ixc2, ixc3, nat_c, Int.reduceSub, Int.reduceAdd, Int.reduceEq, Int.reduceLT, Int.reduceLE, Int.reduceMul, Bool.or_false, Bool.false_or, Bool.true_or, Bool.or_true, Bool.or_self, Bool.and_self, List.isEmpty_nil, List.isEmpty_cons, bq1, bq2, bq3, bq4, cond_true, cond_false, eq_self])
    refine (c_rollK hT (n := n + 4) (r + 21000 * rest.length + 20800) hi (d5.less (by omega)) (by omega) (by decide) (by decide)).mono fun d h' q => ?_
    obtain ⟨a6, b6, rfl, d6, y, rfl, y0, y1⟩ := q
    have lx : x.natAbs.log2 < 64 := lg (by decide) (by omega)
    have ly : y.natAbs.log2 < 64 := lg (by decide) (by omega)
    have xy : 0 ≤ x * y ∧ x * y ≤ 2 * 29 := ⟨Int.mul_nonneg x0 y0, Int.mul_le_mul (by omega) (by omega) y0 (by decide)⟩
    simp -implicitDefEqProofs only [runD, evSs_nil, evS, evE, evB, evA, evAV, evO, evC, evI, vw, Mini.start, bind_ok, bind_exc, bind_bad, bind_ite, of_somE, of_noneE, sof_ok, sof_exc, sof_bad, sof_ite, seq_nx, seq_rt, seq_exc, seq_bad, seq_ite, out_nx, out_rt, out_exc, out_ite, nox_ok, truth_bl, dif_true, dif_false, Ck.d, List.map_cons, List.map_nil, List.length_cons, List.length_nil, List.replicate, List.cons_append, List.nil_append, List.append_nil, List.getElem?_cons_zero, List.getElem?_cons_succ, List.set_cons_zero, List.set_cons_succ, Option.map_some, decide_true, decide_false, set2, set_len, asg_nm, asg_tp, asgs_nil, asgs_cons, Option.bind_some, wipeE, b_add, b_sub, k_lt, k_le, k_gt, k_ge, k_eq, k_ne, k_isN, k_isnN, s_lst, s_tup, Bool.and_true, Bool.true_and, if_true, if_false, reduceCtorEq, Nat.reduceAdd, Nat.reduceSub, Nat.reduceLT, Nat.reduceLeDiff, Nat.reduceEqDiff, Bool.and_false, Bool.false_and, Bool.not_true, Bool.not_false, Bool.false_eq_true, okk_bind, okk_ok, okk_nox, okk_out, oks_seq, oks_of, oks_nx, oks_rt, ixc0, ixc1, ixc2, ixc3, nat_c, Int.reduceSub, Int.reduceAdd, Int.reduceEq, Int.reduceLT, Int.reduceLE, Int.reduceMul, Bool.or_false, Bool.false_or, Bool.true_or, Bool.or_true, Bool.or_self, Bool.and_self, List.isEmpty_nil, List.isEmpty_cons, bq1, bq2, bq3, bq4, cond_true, cond_false, eq_self, b_mul (show x.natAbs.log2 + y.natAbs.log2 < 134000000 by omega)]
    generalize x * y = w at *
    rw [evSs_cons, oks_seq]
    refine Oks.mono (N := fun ρ h' => ∃ a b L' z2, ρ = [some (.val (.ref i)), some (.val (.bl g)), z2, some (.own ((C.map coD) ++ [.tup [.int day, rulesD L]])), some (.val (.int (day + 1 + w))), some (.val (rulesD L'))] ∧ h' = h.set i (dc a b) ∧ Dc (r + 21000 * rest.length + 2) a b ∧ Dn 4 2 L' ∧ (g = true → Le L L')) (R := fun _ _ => False) ?_ (fun ρ h' q => ?_) (fun _ _ z => z.elim)
    · have wider : ∀ (a b : Int), Dc (r + 21000 * rest.length + 2 + 20) a b → Okk (call T (n + 6) 35 [rulesD L, .ref i] (h.set i (dc a b))) (Dr h i (r + 21000 * rest.length + 2) fun d => ∃ L', d = rulesD L' ∧ Dn 4 2 L' ∧ Wd L L') := fun a b hd => c_law_wider hT (n + 3) dn (by decide) _ hi hd (by omega)
      have wle : ∀ {L' : List (D × Int)}, Wd L L' → Le L L' := fun wd l p _ _ => wd.share l p
      cases g with
      | true =>
        (try simp -implicitDefEqProofs only [runD, evSs_nil, evS, evE, evB, evA, evAV, evO, evC, evI, vw, Mini.start, bind_ok, bind_exc, bind_bad, bind_ite, of_somE, of_noneE, sof_ok, sof_exc, sof_bad, sof_ite, seq_nx, seq_rt, seq_exc, seq_bad, seq_ite, out_nx, out_rt, out_exc, out_ite, nox_ok, truth_bl, dif_true, dif_false, Ck.d, List.map_cons, List.map_nil, List.length_cons, List.length_nil, List.replicate, List.cons_append, List.nil_append, List.append_nil, List.getElem?_cons_zero, List.getElem?_cons_succ, List.set_cons_zero, List.set_cons_succ, Option.map_some, decide_true, decide_false, set2, set_len, asg_nm, asg_tp, asgs_nil, asgs_cons, Option.bind_some, wipeE, b_add, b_sub, k_lt, k_le, k_gt, k_ge, k_eq, k_ne, k_isN, k_isnN, s_lst, s_tup, Bool.and_true, Bool.true_and, if_true, if_false, reduceCtorEq, Nat.reduceAdd, Nat.reduceSub, Nat.reduceLT, Nat.reduceLeDiff, Nat.reduceEqDiff, Bool.and_false, Bool.false_and, Bool.not_true, Bool.not_false, Bool.false_eq_true, okk_bind, okk_ok, okk_nox, okk_out, oks_seq, oks_of, oks_nx, oks_rt, ixc0, ixc1, ixc2, ixc3, nat_c, Int.reduceSub, Int.reduceAdd, Int.reduceEq, Int.reduceLT, Int.reduceLE, Int.reduceMul, Bool.or_false, Bool.false_or, Bool.true_or, Bool.or_true, Bool.or_self, Bool.and_self, List.isEmpty_nil, List.isEmpty_cons, bq1, bq2, bq3, bq4, cond_true, cond_false, eq_self])
        refine (wider a6 b6 (d6.less (by omega))).mono fun d h' q => ?_
        obtain ⟨a7, b7, rfl, d7, L', rfl, dn', wd⟩ := q
        (try simp -implicitDefEqProofs only [runD, evSs_nil, evS, evE, evB, evA, evAV, evO, evC, evI, vw, Mini.start, bind_ok, bind_exc, bind_bad, bind_ite, of_somE, of_noneE, sof_ok, sof_exc, sof_bad, sof_ite, seq_nx, seq_rt, seq_exc, seq_bad, seq_ite, out_nx, out_rt, out_exc, out_ite, nox_ok, truth_bl, dif_true, dif_false, Ck.d, List.map_cons, List.map_nil, List.length_cons, List.length_nil, List.replicate, List.cons_append, List.nil_append, List.append_nil, List.getElem?_cons_zero, List.getElem?_cons_succ, List.set_cons_zero, List.set_cons_succ, Option.map_some, decide_true, decide_false, set2, set_len, asg_nm, asg_tp, asgs_nil, asgs_cons, Option.bind_some, wipeE, b_add, b_sub, k_lt, k_le, k_gt, k_ge, k_eq, k_ne, k_isN, k_isnN, s_lst, s_tup, Bool.and_true, Bool.true_and, if_true, if_false, reduceCtorEq, Nat.reduceAdd, Nat.reduceSub, Nat.reduceLT, Nat.reduceLeDiff, Nat.reduceEqDiff, Bool.and_false, Bool.false_and, Bool.not_true, Bool.not_false, Bool.false_eq_true, okk_bind, okk_ok, okk_nox, okk_out, oks_seq, oks_of, oks_nx, oks_rt, ixc0, ixc1, ixc2, ixc3, nat_c, Int.reduceSub, Int.reduceAdd, Int.reduceEq, Int.reduceLT, Int.reduceLE, Int.reduceMul, Bool.or_false, Bool.false_or, Bool.true_or, Bool.or_true, Bool.or_self, Bool.and_self, List.isEmpty_nil, List.isEmpty_cons, bq1, bq2, bq3, bq4, cond_true, cond_false, eq_self])
        exact ⟨a7, b7, L', _, rfl, rfl, d7, dn', fun _ => wle wd⟩
      | false =>
        (try simp -implicitDefEqProofs only [runD, evSs_nil, evS, evE, evB, evA, evAV, evO, evC, evI, vw, Mini.start, bind_ok, bind_exc, bind_bad, bind_ite, of_somE, of_noneE, sof_ok, sof_exc, sof_bad, sof_ite, seq_nx, seq_rt, seq_exc, seq_bad, seq_ite, out_nx, out_rt, out_exc, out_ite, nox_ok, truth_bl, dif_true, dif_false, Ck.d, List.map_cons, List.map_nil, List.length_cons, List.length_nil, List.replicate, List.cons_append, List.nil_append, List.append_nil, List.getElem?_cons_zero, List.getElem?_cons_succ, List.set_cons_zero, List.set_cons_succ, Option.map_some, decide_true, decide_false, set2, set_len, asg_nm, asg_tp, asgs_nil, asgs_cons, Option.bind_some, wipeE, b_add, b_sub, k_lt, k_le, k_gt, k_ge, k_eq, k_ne, k_isN, k_isnN, s_lst, s_tup, Bool.and_true, Bool.true_and, if_true, if_false, reduceCtorEq, Nat.reduceAdd, Nat.reduceSub, Nat.reduceLT, Nat.reduceLeDiff, Nat.reduceEqDiff, Bool.and_false, Bool.false_and, Bool.not_true, Bool.not_false, Bool.false_eq_true, okk_bind, okk_ok, okk_nox, okk_out, oks_seq, oks_of, oks_nx, oks_rt, ixc0, ixc1, ixc2, ixc3, nat_c, Int.reduceSub, Int.reduceAdd, Int.reduceEq, Int.reduceLT, Int.reduceLE, Int.reduceMul, Bool.or_false, Bool.false_or, Bool.true_or, Bool.or_true, Bool.or_self, Bool.and_self, List.isEmpty_nil, List.isEmpty_cons, bq1, bq2, bq3, bq4, cond_true, cond_false, eq_self])
        refine (c_rollK hT (n := n + 4) (r + 21000 * rest.length + 20700) hi (d6.less (by omega)) (by omega) (by decide) (by decide)).mono fun d h' q => ?_
        obtain ⟨a7, b7, rfl, d7, v, rfl, v0, v1⟩ := q
        by_cases c : v = 0
        · simp -implicitDefEqProofs only [runD, evSs_nil, evS, evE, evB, evA, evAV, evO, evC, evI, vw, Mini.start, bind_ok, bind_exc, bind_bad, bind_ite, of_somE, of_noneE, sof_ok, sof_exc, sof_bad, sof_ite, seq_nx, seq_rt, seq_exc, seq_bad, seq_ite, out_nx, out_rt, out_exc, out_ite, nox_ok, truth_bl, dif_true, dif_false, Ck.d, List.map_cons, List.map_nil, List.length_cons, List.length_nil, List.replicate, List.cons_append, List.nil_append, List.append_nil, List.getElem?_cons_zero, List.getElem?_cons_succ, List.set_cons_zero, List.set_cons_succ, Option.map_some, decide_true, decide_false, set2, set_len, asg_nm, asg_tp, asgs_nil, asgs_cons, Option.bind_some, wipeE, b_add, b_sub, k_lt, k_le, k_gt, k_ge, k_eq, k_ne, k_isN, k_isnN, s_lst, s_tup, Bool.and_true, Bool.true_and, if_true, if_false, reduceCtorEq, Nat.reduceAdd, Nat.reduceSub, Nat.reduceLT, Nat.reduceLeDiff, Nat.reduceEqDiff, Bool.and_false, Bool.false_and, Bool.not_true, Bool.not_false, Bool.false_eq_true, okk_bind, okk_ok, okk_nox, okk_out, oks_seq, oks_of, oks_nx, oks_rt, ixc0, ixc1, ixc2, ixc3, nat_c, Int.reduceSub, Int.reduceAdd, Int.reduceEq, Int.reduceLT, Int.reduceLE, Int.reduceMul, Bool.or_false, Bool.false_or, Bool.true_or, Bool.or_true, Bool.or_self, Bool.and_self, List.isEmpty_nil, List.isEmpty_cons, bq1, bq2, bq3, bq4, cond_true, cond_false, eq_self, c]
          refine (wider a7 b7 (d7.less (by omega))).mono fun d h' q => ?_
          obtain ⟨a8, b8, rfl, d8, L', rfl, dn', wd⟩ := q
          (try simp -implicitDefEqProofs only [runD, evSs_nil, evS, evE, evB, evA, evAV, evO, evC, evI, vw, Mini.start, bind_ok, bind_exc, bind_bad, bind_ite, of_somE, of_noneE, sof_ok, sof_exc, sof_bad, sof_ite, seq_nx, seq_rt, seq_exc, seq_bad, seq_ite, out_nx, out_rt, out_exc, out_ite, nox_ok, truth_bl, dif_true, dif_false, Ck.d, List.map_cons, List.map_nil, List.length_cons, List.length_nil, List.replicate, List.cons_append, List.nil_append, List.append_nil, List.getElem?_cons_zero, List.getElem?_cons_succ, List.set_cons_zero, List.set_cons_succ, Option.map_some, decide_true, decide_false, set2, set_len, asg_nm, asg_tp, asgs_nil, asgs_cons, Option.bind_some, wipeE, b_add, b_sub, k_lt, k_le, k_gt, k_ge, k_eq, k_ne, k_isN, k_isnN, s_lst, s_tup, Bool.and_true, Bool.true_and, if_true, if_false, reduceCtorEq, Nat.reduceAdd, Nat.reduceSub, Nat.reduceLT, Nat.reduceLeDiff, Nat.reduceEqDiff, Bool.and_false, Bool.false_and, Bool.not_true, Bool.not_false, Bool.false_eq_true, okk_bind, okk_ok, okk_nox, okk_out, oks_seq, oks_of, oks_nx, oks_rt, ixc0, ixc1, ixc2, ixc3, nat_c, Int.reduceSub, Int.reduceAdd, Int.reduceEq, Int.reduceLT, Int.reduceLE, Int.reduceMul, Bool.or_false, Bool.false_or, Bool.true_or, Bool.or_true, Bool.or_self, Bool.and_self, List.isEmpty_nil, List.isEmpty_cons, bq1, bq2, bq3, bq4, cond_true, cond_false, eq_self])
          exact ⟨a8, b8, L', _, rfl, rfl, d8, dn', fun _ => wle wd⟩
        · simp -implicitDefEqProofs only [runD, evSs_nil, evS, evE, evB, evA, evAV, evO, evC, evI, vw, Mini.start, bind_ok, bind_exc, bind_bad, bind_ite, of_somE, of_noneE, sof_ok, sof_exc, sof_bad, sof_ite, seq_nx, seq_rt, seq_exc, seq_bad, seq_ite, out_nx, out_rt, out_exc, out_ite, nox_ok, truth_bl, dif_true, dif_false, Ck.d, List.map_cons, List.map_nil, List.length_cons, List.length_nil, List.replicate, List.cons_append, List.nil_append, List.append_nil, List.getElem?_cons_zero, List.getElem?_cons_succ, List.set_cons_zero, List.set_cons_succ, Option.map_some, decide_true, decide_false, set2, set_len, asg_nm, asg_tp, asgs_nil, asgs_cons, Option.bind_some, wipeE, b_add, b_sub, k_lt, k_le, k_gt, k_ge, k_eq, k_ne, k_isN, k_isnN, s_lst, s_tup, Bool.and_true, Bool.true_and, if_true, if_false, reduceCtorEq, Nat.reduceAdd, Nat.reduceSub, Nat.reduceLT, Nat.reduceLeDiff, Nat.reduceEqDiff, Bool.and_false, Bool.false_and, Bool.not_true, Bool.not_false, Bool.false_eq_true, okk_bind, okk_ok, okk_nox, okk_out, oks_seq, oks_of, oks_nx, oks_rt, ixc0, ixc1, ixc2, ixc3, nat_c, Int.reduceSub, Int.reduceAdd, Int.reduceEq, Int.reduceLT, Int.reduceLE, Int.reduceMul, Bool.or_false, Bool.false_or, Bool.true_or, Bool.or_true, Bool.or_self, Bool.and_self, List.isEmpty_nil, List.isEmpty_cons, bq1, bq2, bq3, bq4, cond_true, cond_false, eq_self, c]
          refine (c_law_rules hT (k := 1) (by decide) n (r + 21000 * rest.length + 2) hi (d7.less (by omega)) (by omega)).mono fun d h' q => ?_
          obtain ⟨a8, b8, rfl, d8, L', rfl, dn'⟩ := q
          (try simp -implicitDefEqProofs only [runD, evSs_nil, evS, evE, evB, evA, evAV, evO, evC, evI, vw, Mini.start, bind_ok, bind_exc, bind_bad, bind_ite, of_somE, of_noneE, sof_ok, sof_exc, sof_bad, sof_ite, seq_nx, seq_rt, seq_exc, seq_bad, seq_ite, out_nx, out_rt, out_exc, out_ite, nox_ok, truth_bl, dif_true, dif_false, Ck.d, List.map_cons, List.map_nil, List.length_cons, List.length_nil, List.replicate, List.cons_append, List.nil_append, List.append_nil, List.getElem?_cons_zero, List.getElem?_cons_succ, List.set_cons_zero, List.set_cons_succ, Option.map_some, decide_true, decide_false, set2, set_len, asg_nm, asg_tp, asgs_nil, asgs_cons, Option.bind_some, wipeE, b_add, b_sub, k_lt, k_le, k_gt, k_ge, k_eq, k_ne, k_isN, k_isnN, s_lst, s_tup, Bool.and_true, Bool.true_and, if_true, if_false, reduceCtorEq, Nat.reduceAdd, Nat.reduceSub, Nat.reduceLT, Nat.reduceLeDiff, Nat.reduceEqDiff, Bool.and_false, Bool.false_and, Bool.not_true, Bool.not_false, Bool.false_eq_true, okk_bind, okk_ok, okk_nox, okk_out, oks_seq, oks_of, oks_nx, oks_rt, ixc0, ixc1, ixc2, ixc3, nat_c, Int.reduceSub, Int.reduceAdd, Int.reduceEq, Int.reduceLT, Int.reduceLE, Int.reduceMul, Bool.or_false, Bool.false_or, Bool.true_or, Bool.or_true, Bool.or_self, Bool.and_self, List.isEmpty_nil, List.isEmpty_cons, bq1, bq2, bq3, bq4, cond_true, cond_false, eq_self])
          exact ⟨a8, b8, L', _, rfl, rfl, d8, dn', fun z => nomatch z⟩
    · obtain ⟨a7, b7, L', z3, rfl, rfl, d7, dn', gl⟩ := q
      have hq2 : ∀ q ∈ C ++ [(day, L)], 0 ≤ q.1 ∧ q.1 < day + 1 + w ∧ Dn 4 2 q.2 := fun q h => by
        rcases List.mem_append.mp h with h | h
        · have := hq q h
          exact ⟨this.1, by omega, this.2.2⟩
        · rw [List.mem_singleton.mp h]
          exact ⟨dd0, by show day < _; omega, dn⟩
      have hp2 : (C ++ [(day, L)]).Pairwise fun p q => p.1 < q.1 := List.pairwise_append.mpr ⟨hp, by simp, fun p hp q hq' => by
        rw [List.mem_singleton.mp hq']
        exact (hq p hp).2.1⟩
      have hg2 : ∀ {L2 : List (D × Int)}, (g = true → Le L L2) → g = true → (∀ q ∈ C ++ [(day, L)], Le q.2 L2) ∧ (C ++ [(day, L)]).Pairwise fun p q => Le p.2 q.2 := fun {L2} k e => by
        refine ⟨fun q h => ?_, List.pairwise_append.mpr ⟨(hg e).2, by simp, fun p hp q hq' => ?_⟩⟩
        · rcases List.mem_append.mp h with h | h
          · exact ((hg e).1 q h).trans (k e)
          · rw [List.mem_singleton.mp h]
            exact k e
        · rw [List.mem_singleton.mp hq']
          exact (hg e).1 p hp
      rw [evSs_cons]; (try simp -implicitDefEqProofs only [runD, evSs_nil, evS, evE, evB, evA, evAV, evO, evC, evI, vw, Mini.start, bind_ok, bind_exc, bind_bad, bind_ite, of_somE, of_noneE, sof_ok, sof_exc, sof_bad, sof_ite, seq_nx, seq_rt, seq_exc, seq_bad, seq_ite, out_nx, out_rt, out_exc, out_ite, nox_ok, truth_bl, dif_true, dif_false, Ck.d, List.map_cons, List.map_nil, List.length_cons, List.length_nil, List.replicate, List.cons_append, List.nil_append, List.append_nil, List.getElem?_cons_zero, List.getElem?_cons_succ, List.set_cons_zero, List.set_cons_succ, Option.map_some, decide_true, decide_false, set2, set_len, asg_nm, asg_tp, asgs_nil, asgs_cons, Option.bind_some, wipeE, b_add, b_sub, k_lt, k_le, k_gt, k_ge, k_eq, k_ne, k_isN, k_isnN, s_lst, s_tup, Bool.and_true, Bool.true_and, if_true, if_false, reduceCtorEq, Nat.reduceAdd, Nat.reduceSub, Nat.reduceLT, Nat.reduceLeDiff, Nat.reduceEqDiff, Bool.and_false, Bool.false_and, Bool.not_true, Bool.not_false, Bool.false_eq_true, okk_bind, okk_ok, okk_nox, okk_out, oks_seq, oks_of, oks_nx, oks_rt, ixc0, ixc1, ixc2, ixc3, nat_c, Int.reduceSub, Int.reduceAdd, Int.reduceEq, Int.reduceLT, Int.reduceLE, Int.reduceMul, Bool.or_false, Bool.false_or, Bool.true_or, Bool.or_true, Bool.or_self, Bool.and_self, List.isEmpty_nil, List.isEmpty_cons, bq1, bq2, bq3, bq4, cond_true, cond_false, eq_self])
      refine (c_rollK hT (n := n + 4) (r + 21000 * rest.length) hi (d7.less (by omega)) (by omega) (by decide) (by decide)).mono fun d h' q => ?_
      obtain ⟨a8, b8, rfl, d8, v, rfl, v0, v1⟩ := q
      by_cases c : v = 0
      · simp -implicitDefEqProofs only [runD, evSs_nil, evS, evE, evB, evA, evAV, evO, evC, evI, vw, Mini.start, bind_ok, bind_exc, bind_bad, bind_ite, of_somE, of_noneE, sof_ok, sof_exc, sof_bad, sof_ite, seq_nx, seq_rt, seq_exc, seq_bad, seq_ite, out_nx, out_rt, out_exc, out_ite, nox_ok, truth_bl, dif_true, dif_false, Ck.d, List.map_cons, List.map_nil, List.length_cons, List.length_nil, List.replicate, List.cons_append, List.nil_append, List.append_nil, List.getElem?_cons_zero, List.getElem?_cons_succ, List.set_cons_zero, List.set_cons_succ, Option.map_some, decide_true, decide_false, set2, set_len, asg_nm, asg_tp, asgs_nil, asgs_cons, Option.bind_some, wipeE, b_add, b_sub, k_lt, k_le, k_gt, k_ge, k_eq, k_ne, k_isN, k_isnN, s_lst, s_tup, Bool.and_true, Bool.true_and, if_true, if_false, reduceCtorEq, Nat.reduceAdd, Nat.reduceSub, Nat.reduceLT, Nat.reduceLeDiff, Nat.reduceEqDiff, Bool.and_false, Bool.false_and, Bool.not_true, Bool.not_false, Bool.false_eq_true, okk_bind, okk_ok, okk_nox, okk_out, oks_seq, oks_of, oks_nx, oks_rt, ixc0, ixc1, ixc2, ixc3, nat_c, Int.reduceSub, Int.reduceAdd, Int.reduceEq, Int.reduceLT, Int.reduceLE, Int.reduceMul, Bool.or_false, Bool.false_or, Bool.true_or, Bool.or_true, Bool.or_self, Bool.and_self, List.isEmpty_nil, List.isEmpty_cons, bq1, bq2, bq3, bq4, cond_true, cond_false, eq_self, c]
        rw [evSs_cons]; (try simp -implicitDefEqProofs only [runD, evSs_nil, evS, evE, evB, evA, evAV, evO, evC, evI, vw, Mini.start, bind_ok, bind_exc, bind_bad, bind_ite, of_somE, of_noneE, sof_ok, sof_exc, sof_bad, sof_ite, seq_nx, seq_rt, seq_exc, seq_bad, seq_ite, out_nx, out_rt, out_exc, out_ite, nox_ok, truth_bl, dif_true, dif_false, Ck.d, List.map_cons, List.map_nil, List.length_cons, List.length_nil, List.replicate, List.cons_append, List.nil_append, List.append_nil, List.getElem?_cons_zero, List.getElem?_cons_succ, List.set_cons_zero, List.set_cons_succ, Option.map_some, decide_true, decide_false, set2, set_len, asg_nm, asg_tp, asgs_nil, asgs_cons, Option.bind_some, wipeE, b_add, b_sub, k_lt, k_le, k_gt, k_ge, k_eq, k_ne, k_isN, k_isnN, s_lst, s_tup, Bool.and_true, Bool.true_and, if_true, if_false, reduceCtorEq, Nat.reduceAdd, Nat.reduceSub, Nat.reduceLT, Nat.reduceLeDiff, Nat.reduceEqDiff, Bool.and_false, Bool.false_and, Bool.not_true, Bool.not_false, Bool.false_eq_true, okk_bind, okk_ok, okk_nox, okk_out, oks_seq, oks_of, oks_nx, oks_rt, ixc0, ixc1, ixc2, ixc3, nat_c, Int.reduceSub, Int.reduceAdd, Int.reduceEq, Int.reduceLT, Int.reduceLE, Int.reduceMul, Bool.or_false, Bool.false_or, Bool.true_or, Bool.or_true, Bool.or_self, Bool.and_self, List.isEmpty_nil, List.isEmpty_cons, bq1, bq2, bq3, bq4, cond_true, cond_false, eq_self])
        exact ⟨a8, b8, C ++ [(day, L)], _, full, _, by rw [List.map_append]; rfl, rfl, d8, by simp; omega, full_dn, by omega, by simp; omega, hq2, hp2, hg2 fun _ => Le.full (dn.isR (by decide) (by decide))⟩
      · simp -implicitDefEqProofs only [runD, evSs_nil, evS, evE, evB, evA, evAV, evO, evC, evI, vw, Mini.start, bind_ok, bind_exc, bind_bad, bind_ite, of_somE, of_noneE, sof_ok, sof_exc, sof_bad, sof_ite, seq_nx, seq_rt, seq_exc, seq_bad, seq_ite, out_nx, out_rt, out_exc, out_ite, nox_ok, truth_bl, dif_true, dif_false, Ck.d, List.map_cons, List.map_nil, List.length_cons, List.length_nil, List.replicate, List.cons_append, List.nil_append, List.append_nil, List.getElem?_cons_zero, List.getElem?_cons_succ, List.set_cons_zero, List.set_cons_succ, Option.map_some, decide_true, decide_false, set2, set_len, asg_nm, asg_tp, asgs_nil, asgs_cons, Option.bind_some, wipeE, b_add, b_sub, k_lt, k_le, k_gt, k_ge, k_eq, k_ne, k_isN, k_isnN, s_lst, s_tup, Bool.and_true, Bool.true_and, if_true, if_false, reduceCtorEq, Nat.reduceAdd, Nat.reduceSub, Nat.reduceLT, Nat.reduceLeDiff, Nat.reduceEqDiff, Bool.and_false, Bool.false_and, Bool.not_true, Bool.not_false, Bool.false_eq_true, okk_bind, okk_ok, okk_nox, okk_out, oks_seq, oks_of, oks_nx, oks_rt, ixc0, ixc1, ixc2, ixc3, nat_c, Int.reduceSub, Int.reduceAdd, Int.reduceEq, Int.reduceLT, Int.reduceLE, Int.reduceMul, Bool.or_false, Bool.false_or, Bool.true_or, Bool.or_true, Bool.or_self, Bool.and_self, List.isEmpty_nil, List.isEmpty_cons, bq1, bq2, bq3, bq4, cond_true, cond_false, eq_self, c]
        exact ⟨a8, b8, C ++ [(day, L)], _, L', _, by rw [List.map_append]; rfl, rfl, d8, by simp; omega, dn', by omega, by simp; omega, hq2, hp2, hg2 gl⟩
end
end Mini

/-! D14: days. -/
namespace Mini
open PySem PySem.Spec L2
theorem onC_cut {A B : Co} {d : Int} (h : ∀ q ∈ B, d < q.1) : onC (A ++ B) d = onC A d := by
  unfold onC
  have : B.filter (fun q => decide (q.1 ≤ d)) = [] := List.filter_eq_nil_iff.mpr fun q hq => by
    have := h q hq
    simp
    omega
  rw [List.filter_append, this, List.append_nil]
theorem let_nil (s t u l p : Int) : letB [] s t u l p = false := by
  have := plc_bd u s t
  show decide (plc u s t < 0) = false
  exact decide_eq_false (by omega)
theorem first_day {C : Co} (hC : IsCo C) (s t u l p : Int) {N : Nat} (hN : ∀ q ∈ C, q.1 < N) : (List.range N).find? (fun d => letB (onC C (d : Nat)) s t u l p) = (dayC C s t u l p).map Int.toNat := by
  unfold dayC
  cases e : C.find? (fun q => letB q.2 s t u l p) with
  | none =>
    rw [List.find?_eq_none] at e
    refine List.find?_eq_none.mpr fun d _ z => ?_
    rcases onC_mem C (d : Nat) with e1 | ⟨q, hq, _, e1⟩
    · rw [e1, let_nil] at z; cases z
    · rw [e1] at z; exact e q hq z
  | some q0 =>
    obtain ⟨hq0, A, B, eC, hA⟩ := List.find?_eq_some_iff_append.mp e
    have m0 : q0 ∈ C := by rw [eC]; simp
    have up := hC.up
    rw [eC] at up
    obtain ⟨u1, u2, u3⟩ := List.pairwise_append.mp up
    obtain ⟨u4, u5⟩ := List.pairwise_cons.mp u2
    have z0 := hC.d0 q0 m0
    have on0 : onC C q0.1 = q0.2 := by
      have : C = (A ++ [q0]) ++ B := by rw [eC]; simp
      rw [this, onC_cut (fun q hq => u4 q hq), onC_add, if_pos (by simp)]
    show _ = some q0.1.toNat
    refine List.find?_range_eq_some.mpr ⟨?_, ?_, fun j hj => ?_⟩
    · show letB (onC C ((q0.1.toNat : Nat) : Int)) s t u l p = true
      rw [show ((q0.1.toNat : Nat) : Int) = q0.1 by omega, on0]
      exact hq0
    · have := hN q0 m0
      exact List.mem_range.mpr (by omega)
    · have : onC C (j : Nat) = onC A (j : Nat) := by
        rw [eC]
        refine onC_cut fun q hq => ?_
        rcases List.mem_cons.mp hq with rfl | hq
        · omega
        · have := u4 q hq
          omega
      rw [this]
      rcases onC_mem A (j : Nat) with e1 | ⟨q, hq, _, e1⟩
      · rw [e1, let_nil]; rfl
      · rw [e1]; exact hA q hq
def pk (f : Int → Bool) : D → Bool
  | .int j => f j
  | _ => false
theorem rng_filter (f : Int → Bool) (n : Nat) : (rngD 0 n).filter (pk f) = (((List.range n).filter fun k => f (k : Nat)).map fun k : Nat => (k : Int)).map .int := by
  unfold rngD
  rw [List.filter_map, List.map_map]
  have : (pk f ∘ fun k : Nat => D.int (0 + (k : Nat))) = fun k => f (k : Nat) := by
    funext k
    show f (0 + (k : Nat)) = f (k : Nat)
    rw [Int.zero_add]
  rw [this]
  refine List.map_congr_left fun k _ => ?_
  simp
theorem x_lastT {h : Hd} (xs : List D) (x : D) : ixD h (.tup (xs ++ [x])) (.int (-1)) = some x := x_last (h := h) xs x
/-- the first step, the last one -/
theorem ends {C : Co} (hC : IsCo C) : ∃ q0 ql, q0 ∈ C ∧ ql ∈ C ∧ (∀ q ∈ C, q.1 ≤ ql.1) ∧ (∀ h : Hd, ixD h (courseD C) (.int 0) = some (coD q0)) ∧ ∀ h : Hd, ixD h (courseD C) (.int (-1)) = some (coD ql) := by
  have l0 := hC.l0
  have up := hC.up
  rcases List.eq_nil_or_concat C with rfl | ⟨A, ql, e⟩
  · simp at l0
  rw [List.concat_eq_append] at e
  match C, l0, e, up with
  | q0 :: r, _, e, up =>
    refine ⟨q0, ql, List.mem_cons_self, by rw [e]; simp, fun q hq => ?_, fun h => by rw [x_tup (by decide) (by simp)]; simp, fun h => ?_⟩
    · rw [e] at hq up
      rcases List.mem_append.mp hq with hq | hq
      · have := (List.pairwise_append.mp up).2.2 q hq ql (by simp)
        omega
      · rw [List.mem_singleton.mp hq]; exact Int.le_refl _
    · rw [e]
      show ixD h (.tup ((A ++ [ql]).map coD)) _ = _
      rw [List.map_append]
      exact x_lastT _ _
theorem ne_oint (o : Option Int) : cmpD .NotEq (oint o) (oint o) = some false := by
  cases o <;> exact ne_self rfl (Nat.zero_le _)
end Mini

/-! D15: the day for all. -/
namespace Mini
open PySem PySem.Spec L2
theorem loopC_mk {α : Type} {g : D → Hd → Out (Option D)} {h : Hd} (mk f : α → D) : ∀ {xs : List α}, (∀ x ∈ xs, g (mk x) h = .ok (some (f x)) h) → loopC g (xs.map mk) h = .ok (xs.map f) h
  | [], _ => rfl
  | x :: r, k => by
    rw [List.map_cons, loopC_cons, k x List.mem_cons_self, bind_ok, loopC_mk mk f fun y hy => k y (List.mem_cons_of_mem _ hy), bind_ok]
    rfl
theorem loopC_mf {α : Type} {g : D → Hd → Out (Option D)} {h : Hd} (mk f : α → D) (p : α → Bool) : ∀ {xs : List α}, (∀ x ∈ xs, g (mk x) h = .ok (bif p x then some (f x) else none) h) → loopC g (xs.map mk) h = .ok ((xs.filter p).map f) h
  | [], _ => rfl
  | x :: r, k => by
    rw [List.map_cons, loopC_cons, k x List.mem_cons_self, bind_ok, loopC_mf mk f p fun y hy => k y (List.mem_cons_of_mem _ hy), bind_ok, List.filter_cons]
    cases p x <;> rfl
theorem on_day {C : Co} (hC : IsCo C) {q : Int × List (D × Int)} (hq : q ∈ C) : onC C q.1 = q.2 := by
  obtain ⟨A, B, eC⟩ := List.append_of_mem hq
  have up := hC.up
  rw [eC] at up
  obtain ⟨u1, u2, u3⟩ := List.pairwise_append.mp up
  obtain ⟨u4, u5⟩ := List.pairwise_cons.mp u2
  have : C = (A ++ [q]) ++ B := by rw [eC]; simp
  rw [this, onC_cut (fun q hq => u4 q hq), onC_add, if_pos (by simp)]
def allIn (L : List (D × Int)) : Bool := K24.all fun q => decide (shareL q.1 q.2 L = 100)
theorem allIn_of {L : List (D × Int)} (h : allIn L = true) {l p : Int} (hk : 0 ≤ l ∧ l ≤ 5 ∧ 0 ≤ p ∧ p ≤ 3) : shareL l p L = 100 :=
  of_decide_eq_true (List.all_eq_true.mp h (l, p) (K24_mem hk))
def shs (L : List (D × Int)) : List Int := K24.map fun q => shareL q.1 q.2 L
theorem min_shares {h : Hd} {L : List (D × Int)} (hL : IsR L) : ∃ m : Int, biD h .min [.lst ((shs L).map .int)] = some (.int m) ∧ decide (m = 100) = allIn L := by
  have pm := sortI_perm (shs L)
  have ri := sortI_rise (shs L)
  have ne : shs L ≠ [] := by simp [shs, K24]
  cases es : sortI (shs L) with
  | nil =>
    rw [es] at pm
    exact (ne pm.symm.eq_nil).elim
  | cons m r =>
    refine ⟨m, by simp only [biD, ints_map, Option.bind_some, es]; rfl, ?_⟩
    rw [es] at pm ri
    have hm : m ∈ shs L := pm.mem_iff.mp List.mem_cons_self
    have low : ∀ y ∈ shs L, m ≤ y := fun y hy => by
      rcases List.mem_cons.mp (pm.mem_iff.mpr hy) with q | q
      · rw [q]; exact Int.le_refl _
      · exact (List.pairwise_cons.mp ri).1 y q
    refine Bool.eq_iff_iff.mpr ⟨fun z => ?_, fun z => ?_⟩
    · have z := of_decide_eq_true z
      refine List.all_eq_true.mpr fun q hq => decide_eq_true ?_
      have := low _ (List.mem_map.mpr ⟨q, hq, rfl⟩)
      have := (shareL_bd hL q.1 q.2).2
      omega
    · obtain ⟨q, hq, rfl⟩ := List.mem_map.mp hm
      exact List.all_eq_true.mp z q hq
def wdS (acc : Option Int) (q : Int × List (D × Int)) : Option Int := bif allIn q.2 then (match acc with | none => some q.1 | some d => some d) else none
def wdC (C : Co) : Option Int := C.foldl wdS none
def tr : Co → Option Int
  | [] => none
  | q :: r => bif (q :: r).all (fun q => allIn q.2) then some q.1 else tr r
theorem wd_tr : ∀ (C : Co) (acc : Option Int), C.foldl wdS acc = bif C.all (fun q => allIn q.2) then (match acc with | none => C.head?.map (·.1) | some d => some d) else tr C
  | [], acc => by cases acc <;> rfl
  | q :: r, acc => by
    rw [List.foldl_cons, wd_tr r, List.all_cons, tr, List.all_cons]
    unfold wdS
    cases allIn q.2 with
    | false =>
      simp only [Bool.false_and, cond_false]
      cases e : r.all (fun q => allIn q.2) with
      | false => rfl
      | true =>
        cases r with
        | nil => rfl
        | cons z zs =>
          unfold tr
          rw [e]
          rfl
    | true =>
      simp only [Bool.true_and, cond_true]
      cases e : r.all (fun q => allIn q.2) with
      | false => cases acc <;> simp [e]
      | true => cases acc <;> rfl
theorem wdC_tr (C : Co) : wdC C = tr C := by
  unfold wdC
  rw [wd_tr]
  cases e : C.all (fun q => allIn q.2) with
  | false => rfl
  | true =>
    cases C with
    | nil => rfl
    | cons q r =>
      unfold tr
      rw [e]
      rfl
theorem tr_some : ∀ {C : Co} {d : Int}, tr C = some d → ∃ q ∈ C, q.1 = d ∧ allIn q.2 = true
  | [], _, h => nomatch h
  | q :: r, d, h => by
    unfold tr at h
    cases e : (q :: r).all (fun q => allIn q.2) with
    | true =>
      rw [e] at h
      cases h
      exact ⟨q, List.mem_cons_self, rfl, List.all_eq_true.mp e q List.mem_cons_self⟩
    | false =>
      rw [e] at h
      obtain ⟨q', h1, h2⟩ := tr_some (C := r) h
      exact ⟨q', List.mem_cons_of_mem _ h1, h2⟩
theorem cut_from {xs : List D} {k : Nat} (h : k ≤ xs.length) : cutD xs (some (k : Int)) none = xs.drop k := by
  unfold cutD HT.sIx
  have e : (if (k : Int) < 0 then ((k : Int) + xs.length).toNat else min (k : Int).toNat xs.length) = k := by
    rw [if_neg (by omega)]
    omega
  simp only [e]
  rw [List.take_of_length_le (by simp)]
section
variable {T : Nat → Option Df} (hT : Exts T) {n : Nat} {h : Hd}
include hT
theorem c_lets_all {L : List (D × Int)} (hL : ∀ q ∈ L, IsC q.1) : call T (n + 7) 55 [rulesD L] h = .ok (.bl (allIn L)) h := by
  rw [callT hT (show T0 55 = some ir_lets_all from rfl)]
  unfold ir_lets_all
  (try simp -implicitDefEqProofs only [runD, evSs_nil, evS, evE, evB, evA, evAV, evO, evC, evI, vw, Mini.start, bind_ok, bind_exc, bind_bad, bind_ite, of_somE, of_noneE, sof_ok, sof_exc, sof_bad, sof_ite, seq_nx, seq_rt, seq_exc, seq_bad, seq_ite, out_nx, out_rt, out_exc, out_ite, nox_ok, truth_bl, dif_true, dif_false, Ck.d, List.map_cons, List.map_nil, List.length_cons, List.length_nil, List.replicate, List.cons_append, List.nil_append, List.append_nil, List.getElem?_cons_zero, List.getElem?_cons_succ, List.set_cons_zero, List.set_cons_succ, Option.map_some, decide_true, decide_false, set2, set_len, asg_nm, asg_tp, asgs_nil, asgs_cons, Option.bind_some, wipeE, b_add, b_sub, k_lt, k_le, k_gt, k_ge, k_eq, k_ne, k_isN, k_isnN, s_lst, s_tup, Bool.and_true, Bool.true_and, if_true, if_false, reduceCtorEq, Nat.reduceAdd, Nat.reduceSub, Nat.reduceLT, Nat.reduceLeDiff, Nat.reduceEqDiff, Bool.and_false, Bool.false_and, Bool.not_true, Bool.not_false, Bool.false_eq_true, okk_bind, okk_ok, okk_nox, okk_out, oks_seq, oks_of, oks_nx, oks_rt, ixc0, ixc1, ixc2, ixc3, nat_c, Int.reduceSub, Int.reduceAdd, Int.reduceEq, Int.reduceLT, Int.reduceLE, Int.reduceMul, Bool.or_false, Bool.false_or, Bool.true_or, Bool.or_true, Bool.or_self, Bool.and_self, List.isEmpty_nil, List.isEmpty_cons, bq1, bq2, bq3, bq4, cond_true, cond_false, eq_self])
  rw [evSs_cons]; simp -implicitDefEqProofs only [runD, evSs_nil, evS, evE, evB, evA, evAV, evO, evC, evI, vw, Mini.start, bind_ok, bind_exc, bind_bad, bind_ite, of_somE, of_noneE, sof_ok, sof_exc, sof_bad, sof_ite, seq_nx, seq_rt, seq_exc, seq_bad, seq_ite, out_nx, out_rt, out_exc, out_ite, nox_ok, truth_bl, dif_true, dif_false, Ck.d, List.map_cons, List.map_nil, List.length_cons, List.length_nil, List.replicate, List.cons_append, List.nil_append, List.append_nil, List.getElem?_cons_zero, List.getElem?_cons_succ, List.set_cons_zero, List.set_cons_succ, Option.map_some, decide_true, decide_false, set2, set_len, asg_nm, asg_tp, asgs_nil, asgs_cons, Option.bind_some, wipeE, b_add, b_sub, k_lt, k_le, k_gt, k_ge, k_eq, k_ne, k_isN, k_isnN, s_lst, s_tup, Bool.and_true, Bool.true_and, if_true, if_false, reduceCtorEq, Nat.reduceAdd, Nat.reduceSub, Nat.reduceLT, Nat.reduceLeDiff, Nat.reduceEqDiff, Bool.and_false, Bool.false_and, Bool.not_true, Bool.not_false, Bool.false_eq_true, okk_bind, okk_ok, okk_nox, okk_out, oks_seq, oks_of, oks_nx, oks_rt, ixc0, ixc1, ixc2, ixc3, nat_c, Int.reduceSub, Int.reduceAdd, Int.reduceEq, Int.reduceLT, Int.reduceLE, Int.reduceMul, Bool.or_false, Bool.false_or, Bool.true_or, Bool.or_true, Bool.or_self, Bool.and_self, List.isEmpty_nil, List.isEmpty_cons, bq1, bq2, bq3, bq4, cond_true, cond_false, eq_self, c_all_kinds hT]
  rw [loopC_map (f := fun y => match y with | .tup [.int l, .int p] => some (.bl (decide (shareL l p L = 100))) | _ => none) (fun y hy => by
    obtain ⟨⟨l, p⟩, hq, rfl⟩ := List.mem_map.mp hy
    simp -implicitDefEqProofs only [runD, evSs_nil, evS, evE, evB, evA, evAV, evO, evC, evI, vw, Mini.start, bind_ok, bind_exc, bind_bad, bind_ite, of_somE, of_noneE, sof_ok, sof_exc, sof_bad, sof_ite, seq_nx, seq_rt, seq_exc, seq_bad, seq_ite, out_nx, out_rt, out_exc, out_ite, nox_ok, truth_bl, dif_true, dif_false, Ck.d, List.map_cons, List.map_nil, List.length_cons, List.length_nil, List.replicate, List.cons_append, List.nil_append, List.append_nil, List.getElem?_cons_zero, List.getElem?_cons_succ, List.set_cons_zero, List.set_cons_succ, Option.map_some, decide_true, decide_false, set2, set_len, asg_nm, asg_tp, asgs_nil, asgs_cons, Option.bind_some, wipeE, b_add, b_sub, k_lt, k_le, k_gt, k_ge, k_eq, k_ne, k_isN, k_isnN, s_lst, s_tup, Bool.and_true, Bool.true_and, if_true, if_false, reduceCtorEq, Nat.reduceAdd, Nat.reduceSub, Nat.reduceLT, Nat.reduceLeDiff, Nat.reduceEqDiff, Bool.and_false, Bool.false_and, Bool.not_true, Bool.not_false, Bool.false_eq_true, okk_bind, okk_ok, okk_nox, okk_out, oks_seq, oks_of, oks_nx, oks_rt, ixc0, ixc1, ixc2, ixc3, nat_c, Int.reduceSub, Int.reduceAdd, Int.reduceEq, Int.reduceLT, Int.reduceLE, Int.reduceMul, Bool.or_false, Bool.false_or, Bool.true_or, Bool.or_true, Bool.or_self, Bool.and_self, List.isEmpty_nil, List.isEmpty_cons, bq1, bq2, bq3, bq4, cond_true, cond_false, eq_self, kd, c_share_of hT hL])]
  have e : (K24.map kd).filterMap (fun y => match y with | .tup [.int l, .int p] => some (D.bl (decide (shareL l p L = 100))) | _ => none) = (K24.map fun q => decide (shareL q.1 q.2 L = 100)).map .bl := by
    rw [List.filterMap_map, List.map_map, ← filterMap_some]
    rfl
  rw [e]
  have hl : ((K24.map fun q => decide (shareL q.1 q.2 L = 100)).map D.bl).length ≤ 1000000 := by simp only [List.length_map]; decide +kernel
  simp -implicitDefEqProofs only [runD, evSs_nil, evS, evE, evB, evA, evAV, evO, evC, evI, vw, Mini.start, bind_ok, bind_exc, bind_bad, bind_ite, of_somE, of_noneE, sof_ok, sof_exc, sof_bad, sof_ite, seq_nx, seq_rt, seq_exc, seq_bad, seq_ite, out_nx, out_rt, out_exc, out_ite, nox_ok, truth_bl, dif_true, dif_false, Ck.d, List.map_cons, List.map_nil, List.length_cons, List.length_nil, List.replicate, List.cons_append, List.nil_append, List.append_nil, List.getElem?_cons_zero, List.getElem?_cons_succ, List.set_cons_zero, List.set_cons_succ, Option.map_some, decide_true, decide_false, set2, set_len, asg_nm, asg_tp, asgs_nil, asgs_cons, Option.bind_some, wipeE, b_add, b_sub, k_lt, k_le, k_gt, k_ge, k_eq, k_ne, k_isN, k_isnN, s_lst, s_tup, Bool.and_true, Bool.true_and, if_true, if_false, reduceCtorEq, Nat.reduceAdd, Nat.reduceSub, Nat.reduceLT, Nat.reduceLeDiff, Nat.reduceEqDiff, Bool.and_false, Bool.false_and, Bool.not_true, Bool.not_false, Bool.false_eq_true, okk_bind, okk_ok, okk_nox, okk_out, oks_seq, oks_of, oks_nx, oks_rt, ixc0, ixc1, ixc2, ixc3, nat_c, Int.reduceSub, Int.reduceAdd, Int.reduceEq, Int.reduceLT, Int.reduceLE, Int.reduceMul, Bool.or_false, Bool.false_or, Bool.true_or, Bool.or_true, Bool.or_self, Bool.and_self, List.isEmpty_nil, List.isEmpty_cons, bq1, bq2, bq3, bq4, cond_true, cond_false, eq_self, hl, all_lst (bls_map _), List.all_map]
  rfl
theorem c_whole_day {C : Co} (hC : IsCo C) : call T (n + 14) 56 [courseD C] h = .ok (oint (tr C)) h := by
  rw [callT hT (show T0 56 = some ir_whole_day from rfl), ← wdC_tr]
  unfold ir_whole_day
  refine Okk.eq ?_
  (try simp -implicitDefEqProofs only [runD, evSs_nil, evS, evE, evB, evA, evAV, evO, evC, evI, vw, Mini.start, bind_ok, bind_exc, bind_bad, bind_ite, of_somE, of_noneE, sof_ok, sof_exc, sof_bad, sof_ite, seq_nx, seq_rt, seq_exc, seq_bad, seq_ite, out_nx, out_rt, out_exc, out_ite, nox_ok, truth_bl, dif_true, dif_false, Ck.d, List.map_cons, List.map_nil, List.length_cons, List.length_nil, List.replicate, List.cons_append, List.nil_append, List.append_nil, List.getElem?_cons_zero, List.getElem?_cons_succ, List.set_cons_zero, List.set_cons_succ, Option.map_some, decide_true, decide_false, set2, set_len, asg_nm, asg_tp, asgs_nil, asgs_cons, Option.bind_some, wipeE, b_add, b_sub, k_lt, k_le, k_gt, k_ge, k_eq, k_ne, k_isN, k_isnN, s_lst, s_tup, Bool.and_true, Bool.true_and, if_true, if_false, reduceCtorEq, Nat.reduceAdd, Nat.reduceSub, Nat.reduceLT, Nat.reduceLeDiff, Nat.reduceEqDiff, Bool.and_false, Bool.false_and, Bool.not_true, Bool.not_false, Bool.false_eq_true, okk_bind, okk_ok, okk_nox, okk_out, oks_seq, oks_of, oks_nx, oks_rt, ixc0, ixc1, ixc2, ixc3, nat_c, Int.reduceSub, Int.reduceAdd, Int.reduceEq, Int.reduceLT, Int.reduceLE, Int.reduceMul, Bool.or_false, Bool.false_or, Bool.true_or, Bool.or_true, Bool.or_self, Bool.and_self, List.isEmpty_nil, List.isEmpty_cons, bq1, bq2, bq3, bq4, cond_true, cond_false, eq_self])
  rw [evSs_cons]; simp -implicitDefEqProofs only [runD, evSs_nil, evS, evE, evB, evA, evAV, evO, evC, evI, vw, Mini.start, bind_ok, bind_exc, bind_bad, bind_ite, of_somE, of_noneE, sof_ok, sof_exc, sof_bad, sof_ite, seq_nx, seq_rt, seq_exc, seq_bad, seq_ite, out_nx, out_rt, out_exc, out_ite, nox_ok, truth_bl, dif_true, dif_false, Ck.d, List.map_cons, List.map_nil, List.length_cons, List.length_nil, List.replicate, List.cons_append, List.nil_append, List.append_nil, List.getElem?_cons_zero, List.getElem?_cons_succ, List.set_cons_zero, List.set_cons_succ, Option.map_some, decide_true, decide_false, set2, set_len, asg_nm, asg_tp, asgs_nil, asgs_cons, Option.bind_some, wipeE, b_add, b_sub, k_lt, k_le, k_gt, k_ge, k_eq, k_ne, k_isN, k_isnN, s_lst, s_tup, Bool.and_true, Bool.true_and, if_true, if_false, reduceCtorEq, Nat.reduceAdd, Nat.reduceSub, Nat.reduceLT, Nat.reduceLeDiff, Nat.reduceEqDiff, Bool.and_false, Bool.false_and, Bool.not_true, Bool.not_false, Bool.false_eq_true, okk_bind, okk_ok, okk_nox, okk_out, oks_seq, oks_of, oks_nx, oks_rt, ixc0, ixc1, ixc2, ixc3, nat_c, Int.reduceSub, Int.reduceAdd, Int.reduceEq, Int.reduceLT, Int.reduceLE, Int.reduceMul, Bool.or_false, Bool.false_or, Bool.true_or, Bool.or_true, Bool.or_self, Bool.and_self, List.isEmpty_nil, List.isEmpty_cons, bq1, bq2, bq3, bq4, cond_true, cond_false, eq_self, c_need_course hT hC]
  rw [evSs_cons]; (try simp -implicitDefEqProofs only [runD, evSs_nil, evS, evE, evB, evA, evAV, evO, evC, evI, vw, Mini.start, bind_ok, bind_exc, bind_bad, bind_ite, of_somE, of_noneE, sof_ok, sof_exc, sof_bad, sof_ite, seq_nx, seq_rt, seq_exc, seq_bad, seq_ite, out_nx, out_rt, out_exc, out_ite, nox_ok, truth_bl, dif_true, dif_false, Ck.d, List.map_cons, List.map_nil, List.length_cons, List.length_nil, List.replicate, List.cons_append, List.nil_append, List.append_nil, List.getElem?_cons_zero, List.getElem?_cons_succ, List.set_cons_zero, List.set_cons_succ, Option.map_some, decide_true, decide_false, set2, set_len, asg_nm, asg_tp, asgs_nil, asgs_cons, Option.bind_some, wipeE, b_add, b_sub, k_lt, k_le, k_gt, k_ge, k_eq, k_ne, k_isN, k_isnN, s_lst, s_tup, Bool.and_true, Bool.true_and, if_true, if_false, reduceCtorEq, Nat.reduceAdd, Nat.reduceSub, Nat.reduceLT, Nat.reduceLeDiff, Nat.reduceEqDiff, Bool.and_false, Bool.false_and, Bool.not_true, Bool.not_false, Bool.false_eq_true, okk_bind, okk_ok, okk_nox, okk_out, oks_seq, oks_of, oks_nx, oks_rt, ixc0, ixc1, ixc2, ixc3, nat_c, Int.reduceSub, Int.reduceAdd, Int.reduceEq, Int.reduceLT, Int.reduceLE, Int.reduceMul, Bool.or_false, Bool.false_or, Bool.true_or, Bool.or_true, Bool.or_self, Bool.and_self, List.isEmpty_nil, List.isEmpty_cons, bq1, bq2, bq3, bq4, cond_true, cond_false, eq_self])
  rw [evSs_cons]; (try simp -implicitDefEqProofs only [runD, evSs_nil, evS, evE, evB, evA, evAV, evO, evC, evI, vw, Mini.start, bind_ok, bind_exc, bind_bad, bind_ite, of_somE, of_noneE, sof_ok, sof_exc, sof_bad, sof_ite, seq_nx, seq_rt, seq_exc, seq_bad, seq_ite, out_nx, out_rt, out_exc, out_ite, nox_ok, truth_bl, dif_true, dif_false, Ck.d, List.map_cons, List.map_nil, List.length_cons, List.length_nil, List.replicate, List.cons_append, List.nil_append, List.append_nil, List.getElem?_cons_zero, List.getElem?_cons_succ, List.set_cons_zero, List.set_cons_succ, Option.map_some, decide_true, decide_false, set2, set_len, asg_nm, asg_tp, asgs_nil, asgs_cons, Option.bind_some, wipeE, b_add, b_sub, k_lt, k_le, k_gt, k_ge, k_eq, k_ne, k_isN, k_isnN, s_lst, s_tup, Bool.and_true, Bool.true_and, if_true, if_false, reduceCtorEq, Nat.reduceAdd, Nat.reduceSub, Nat.reduceLT, Nat.reduceLeDiff, Nat.reduceEqDiff, Bool.and_false, Bool.false_and, Bool.not_true, Bool.not_false, Bool.false_eq_true, okk_bind, okk_ok, okk_nox, okk_out, oks_seq, oks_of, oks_nx, oks_rt, ixc0, ixc1, ixc2, ixc3, nat_c, Int.reduceSub, Int.reduceAdd, Int.reduceEq, Int.reduceLT, Int.reduceLE, Int.reduceMul, Bool.or_false, Bool.false_or, Bool.true_or, Bool.or_true, Bool.or_self, Bool.and_self, List.isEmpty_nil, List.isEmpty_cons, bq1, bq2, bq3, bq4, cond_true, cond_false, eq_self])
  refine forL_by (fun rest ρ h' => h' = h ∧ ∃ A B z w, C = A ++ B ∧ rest = B.map coD ∧ ρ = [some (.val (courseD C)), some (.val (oint (wdC A))), z, w]) (fun ρ h' p => ?_) (fun x rest ρ h' p => ?_) ⟨rfl, [], C, none, none, rfl, rfl, rfl⟩
  · obtain ⟨rfl, A, B, z, w, eC, e2, rfl⟩ := p
    have : B = [] := List.map_eq_nil_iff.mp e2.symm
    subst this
    rw [List.append_nil] at eC
    subst eC
    rw [evSs_cons]; (try simp -implicitDefEqProofs only [runD, evSs_nil, evS, evE, evB, evA, evAV, evO, evC, evI, vw, Mini.start, bind_ok, bind_exc, bind_bad, bind_ite, of_somE, of_noneE, sof_ok, sof_exc, sof_bad, sof_ite, seq_nx, seq_rt, seq_exc, seq_bad, seq_ite, out_nx, out_rt, out_exc, out_ite, nox_ok, truth_bl, dif_true, dif_false, Ck.d, List.map_cons, List.map_nil, List.length_cons, List.length_nil, List.replicate, List.cons_append, List.nil_append, List.append_nil, List.getElem?_cons_zero, List.getElem?_cons_succ, List.set_cons_zero, List.set_cons_succ, Option.map_some, decide_true, decide_false, set2, set_len, asg_nm, asg_tp, asgs_nil, asgs_cons, Option.bind_some, wipeE, b_add, b_sub, k_lt, k_le, k_gt, k_ge, k_eq, k_ne, k_isN, k_isnN, s_lst, s_tup, Bool.and_true, Bool.true_and, if_true, if_false, reduceCtorEq, Nat.reduceAdd, Nat.reduceSub, Nat.reduceLT, Nat.reduceLeDiff, Nat.reduceEqDiff, Bool.and_false, Bool.false_and, Bool.not_true, Bool.not_false, Bool.false_eq_true, okk_bind, okk_ok, okk_nox, okk_out, oks_seq, oks_of, oks_nx, oks_rt, ixc0, ixc1, ixc2, ixc3, nat_c, Int.reduceSub, Int.reduceAdd, Int.reduceEq, Int.reduceLT, Int.reduceLE, Int.reduceMul, Bool.or_false, Bool.false_or, Bool.true_or, Bool.or_true, Bool.or_self, Bool.and_self, List.isEmpty_nil, List.isEmpty_cons, bq1, bq2, bq3, bq4, cond_true, cond_false, eq_self])
    exact ⟨trivial, trivial⟩
  · obtain ⟨rfl, A, B, z, w, eC, e2, rfl⟩ := p
    match B, e2, eC with
    | (b, L) :: B, e2, eC =>
      rw [List.map_cons, List.cons.injEq] at e2
      obtain ⟨rfl, rfl⟩ := e2
      have hL := hC.r (b, L) (by rw [eC]; simp)
      have eo : wdC (A ++ [(b, L)]) = wdS (wdC A) (b, L) := by unfold wdC; rw [List.foldl_append]; rfl
      simp -implicitDefEqProofs only [runD, evSs_nil, evS, evE, evB, evA, evAV, evO, evC, evI, vw, Mini.start, bind_ok, bind_exc, bind_bad, bind_ite, of_somE, of_noneE, sof_ok, sof_exc, sof_bad, sof_ite, seq_nx, seq_rt, seq_exc, seq_bad, seq_ite, out_nx, out_rt, out_exc, out_ite, nox_ok, truth_bl, dif_true, dif_false, Ck.d, List.map_cons, List.map_nil, List.length_cons, List.length_nil, List.replicate, List.cons_append, List.nil_append, List.append_nil, List.getElem?_cons_zero, List.getElem?_cons_succ, List.set_cons_zero, List.set_cons_succ, Option.map_some, decide_true, decide_false, set2, set_len, asg_nm, asg_tp, asgs_nil, asgs_cons, Option.bind_some, wipeE, b_add, b_sub, k_lt, k_le, k_gt, k_ge, k_eq, k_ne, k_isN, k_isnN, s_lst, s_tup, Bool.and_true, Bool.true_and, if_true, if_false, reduceCtorEq, Nat.reduceAdd, Nat.reduceSub, Nat.reduceLT, Nat.reduceLeDiff, Nat.reduceEqDiff, Bool.and_false, Bool.false_and, Bool.not_true, Bool.not_false, Bool.false_eq_true, okk_bind, okk_ok, okk_nox, okk_out, oks_seq, oks_of, oks_nx, oks_rt, ixc0, ixc1, ixc2, ixc3, nat_c, Int.reduceSub, Int.reduceAdd, Int.reduceEq, Int.reduceLT, Int.reduceLE, Int.reduceMul, Bool.or_false, Bool.false_or, Bool.true_or, Bool.or_true, Bool.or_self, Bool.and_self, List.isEmpty_nil, List.isEmpty_cons, bq1, bq2, bq3, bq4, cond_true, cond_false, eq_self, coD]
      rw [evSs_cons]; simp -implicitDefEqProofs only [runD, evSs_nil, evS, evE, evB, evA, evAV, evO, evC, evI, vw, Mini.start, bind_ok, bind_exc, bind_bad, bind_ite, of_somE, of_noneE, sof_ok, sof_exc, sof_bad, sof_ite, seq_nx, seq_rt, seq_exc, seq_bad, seq_ite, out_nx, out_rt, out_exc, out_ite, nox_ok, truth_bl, dif_true, dif_false, Ck.d, List.map_cons, List.map_nil, List.length_cons, List.length_nil, List.replicate, List.cons_append, List.nil_append, List.append_nil, List.getElem?_cons_zero, List.getElem?_cons_succ, List.set_cons_zero, List.set_cons_succ, Option.map_some, decide_true, decide_false, set2, set_len, asg_nm, asg_tp, asgs_nil, asgs_cons, Option.bind_some, wipeE, b_add, b_sub, k_lt, k_le, k_gt, k_ge, k_eq, k_ne, k_isN, k_isnN, s_lst, s_tup, Bool.and_true, Bool.true_and, if_true, if_false, reduceCtorEq, Nat.reduceAdd, Nat.reduceSub, Nat.reduceLT, Nat.reduceLeDiff, Nat.reduceEqDiff, Bool.and_false, Bool.false_and, Bool.not_true, Bool.not_false, Bool.false_eq_true, okk_bind, okk_ok, okk_nox, okk_out, oks_seq, oks_of, oks_nx, oks_rt, ixc0, ixc1, ixc2, ixc3, nat_c, Int.reduceSub, Int.reduceAdd, Int.reduceEq, Int.reduceLT, Int.reduceLE, Int.reduceMul, Bool.or_false, Bool.false_or, Bool.true_or, Bool.or_true, Bool.or_self, Bool.and_self, List.isEmpty_nil, List.isEmpty_cons, bq1, bq2, bq3, bq4, cond_true, cond_false, eq_self, c_lets_all hT (n := n + 6) hL.c]
      unfold wdS at eo
      cases c : allIn L with
      | false =>
        simp only [c, cond_false] at eo
        (try simp -implicitDefEqProofs only [runD, evSs_nil, evS, evE, evB, evA, evAV, evO, evC, evI, vw, Mini.start, bind_ok, bind_exc, bind_bad, bind_ite, of_somE, of_noneE, sof_ok, sof_exc, sof_bad, sof_ite, seq_nx, seq_rt, seq_exc, seq_bad, seq_ite, out_nx, out_rt, out_exc, out_ite, nox_ok, truth_bl, dif_true, dif_false, Ck.d, List.map_cons, List.map_nil, List.length_cons, List.length_nil, List.replicate, List.cons_append, List.nil_append, List.append_nil, List.getElem?_cons_zero, List.getElem?_cons_succ, List.set_cons_zero, List.set_cons_succ, Option.map_some, decide_true, decide_false, set2, set_len, asg_nm, asg_tp, asgs_nil, asgs_cons, Option.bind_some, wipeE, b_add, b_sub, k_lt, k_le, k_gt, k_ge, k_eq, k_ne, k_isN, k_isnN, s_lst, s_tup, Bool.and_true, Bool.true_and, if_true, if_false, reduceCtorEq, Nat.reduceAdd, Nat.reduceSub, Nat.reduceLT, Nat.reduceLeDiff, Nat.reduceEqDiff, Bool.and_false, Bool.false_and, Bool.not_true, Bool.not_false, Bool.false_eq_true, okk_bind, okk_ok, okk_nox, okk_out, oks_seq, oks_of, oks_nx, oks_rt, ixc0, ixc1, ixc2, ixc3, nat_c, Int.reduceSub, Int.reduceAdd, Int.reduceEq, Int.reduceLT, Int.reduceLE, Int.reduceMul, Bool.or_false, Bool.false_or, Bool.true_or, Bool.or_true, Bool.or_self, Bool.and_self, List.isEmpty_nil, List.isEmpty_cons, bq1, bq2, bq3, bq4, cond_true, cond_false, eq_self])
        rw [evSs_cons]; (try simp -implicitDefEqProofs only [runD, evSs_nil, evS, evE, evB, evA, evAV, evO, evC, evI, vw, Mini.start, bind_ok, bind_exc, bind_bad, bind_ite, of_somE, of_noneE, sof_ok, sof_exc, sof_bad, sof_ite, seq_nx, seq_rt, seq_exc, seq_bad, seq_ite, out_nx, out_rt, out_exc, out_ite, nox_ok, truth_bl, dif_true, dif_false, Ck.d, List.map_cons, List.map_nil, List.length_cons, List.length_nil, List.replicate, List.cons_append, List.nil_append, List.append_nil, List.getElem?_cons_zero, List.getElem?_cons_succ, List.set_cons_zero, List.set_cons_succ, Option.map_some, decide_true, decide_false, set2, set_len, asg_nm, asg_tp, asgs_nil, asgs_cons, Option.bind_some, wipeE, b_add, b_sub, k_lt, k_le, k_gt, k_ge, k_eq, k_ne, k_isN, k_isnN, s_lst, s_tup, Bool.and_true, Bool.true_and, if_true, if_false, reduceCtorEq, Nat.reduceAdd, Nat.reduceSub, Nat.reduceLT, Nat.reduceLeDiff, Nat.reduceEqDiff, Bool.and_false, Bool.false_and, Bool.not_true, Bool.not_false, Bool.false_eq_true, okk_bind, okk_ok, okk_nox, okk_out, oks_seq, oks_of, oks_nx, oks_rt, ixc0, ixc1, ixc2, ixc3, nat_c, Int.reduceSub, Int.reduceAdd, Int.reduceEq, Int.reduceLT, Int.reduceLE, Int.reduceMul, Bool.or_false, Bool.false_or, Bool.true_or, Bool.or_true, Bool.or_self, Bool.and_self, List.isEmpty_nil, List.isEmpty_cons, bq1, bq2, bq3, bq4, cond_true, cond_false, eq_self])
        exact ⟨trivial, A ++ [(b, L)], B, _, _, by rw [eC]; simp, rfl, by rw [eo]; try rfl⟩
      | true =>
        simp only [c, cond_true] at eo
        (try simp -implicitDefEqProofs only [runD, evSs_nil, evS, evE, evB, evA, evAV, evO, evC, evI, vw, Mini.start, bind_ok, bind_exc, bind_bad, bind_ite, of_somE, of_noneE, sof_ok, sof_exc, sof_bad, sof_ite, seq_nx, seq_rt, seq_exc, seq_bad, seq_ite, out_nx, out_rt, out_exc, out_ite, nox_ok, truth_bl, dif_true, dif_false, Ck.d, List.map_cons, List.map_nil, List.length_cons, List.length_nil, List.replicate, List.cons_append, List.nil_append, List.append_nil, List.getElem?_cons_zero, List.getElem?_cons_succ, List.set_cons_zero, List.set_cons_succ, Option.map_some, decide_true, decide_false, set2, set_len, asg_nm, asg_tp, asgs_nil, asgs_cons, Option.bind_some, wipeE, b_add, b_sub, k_lt, k_le, k_gt, k_ge, k_eq, k_ne, k_isN, k_isnN, s_lst, s_tup, Bool.and_true, Bool.true_and, if_true, if_false, reduceCtorEq, Nat.reduceAdd, Nat.reduceSub, Nat.reduceLT, Nat.reduceLeDiff, Nat.reduceEqDiff, Bool.and_false, Bool.false_and, Bool.not_true, Bool.not_false, Bool.false_eq_true, okk_bind, okk_ok, okk_nox, okk_out, oks_seq, oks_of, oks_nx, oks_rt, ixc0, ixc1, ixc2, ixc3, nat_c, Int.reduceSub, Int.reduceAdd, Int.reduceEq, Int.reduceLT, Int.reduceLE, Int.reduceMul, Bool.or_false, Bool.false_or, Bool.true_or, Bool.or_true, Bool.or_self, Bool.and_self, List.isEmpty_nil, List.isEmpty_cons, bq1, bq2, bq3, bq4, cond_true, cond_false, eq_self])
        cases ew : wdC A with
        | none =>
          rw [ew] at eo
          rw [evSs_cons]; simp -implicitDefEqProofs only [runD, evSs_nil, evS, evE, evB, evA, evAV, evO, evC, evI, vw, Mini.start, bind_ok, bind_exc, bind_bad, bind_ite, of_somE, of_noneE, sof_ok, sof_exc, sof_bad, sof_ite, seq_nx, seq_rt, seq_exc, seq_bad, seq_ite, out_nx, out_rt, out_exc, out_ite, nox_ok, truth_bl, dif_true, dif_false, Ck.d, List.map_cons, List.map_nil, List.length_cons, List.length_nil, List.replicate, List.cons_append, List.nil_append, List.append_nil, List.getElem?_cons_zero, List.getElem?_cons_succ, List.set_cons_zero, List.set_cons_succ, Option.map_some, decide_true, decide_false, set2, set_len, asg_nm, asg_tp, asgs_nil, asgs_cons, Option.bind_some, wipeE, b_add, b_sub, k_lt, k_le, k_gt, k_ge, k_eq, k_ne, k_isN, k_isnN, s_lst, s_tup, Bool.and_true, Bool.true_and, if_true, if_false, reduceCtorEq, Nat.reduceAdd, Nat.reduceSub, Nat.reduceLT, Nat.reduceLeDiff, Nat.reduceEqDiff, Bool.and_false, Bool.false_and, Bool.not_true, Bool.not_false, Bool.false_eq_true, okk_bind, okk_ok, okk_nox, okk_out, oks_seq, oks_of, oks_nx, oks_rt, ixc0, ixc1, ixc2, ixc3, nat_c, Int.reduceSub, Int.reduceAdd, Int.reduceEq, Int.reduceLT, Int.reduceLE, Int.reduceMul, Bool.or_false, Bool.false_or, Bool.true_or, Bool.or_true, Bool.or_self, Bool.and_self, List.isEmpty_nil, List.isEmpty_cons, bq1, bq2, bq3, bq4, cond_true, cond_false, eq_self, oint]
          rw [evSs_cons]; (try simp -implicitDefEqProofs only [runD, evSs_nil, evS, evE, evB, evA, evAV, evO, evC, evI, vw, Mini.start, bind_ok, bind_exc, bind_bad, bind_ite, of_somE, of_noneE, sof_ok, sof_exc, sof_bad, sof_ite, seq_nx, seq_rt, seq_exc, seq_bad, seq_ite, out_nx, out_rt, out_exc, out_ite, nox_ok, truth_bl, dif_true, dif_false, Ck.d, List.map_cons, List.map_nil, List.length_cons, List.length_nil, List.replicate, List.cons_append, List.nil_append, List.append_nil, List.getElem?_cons_zero, List.getElem?_cons_succ, List.set_cons_zero, List.set_cons_succ, Option.map_some, decide_true, decide_false, set2, set_len, asg_nm, asg_tp, asgs_nil, asgs_cons, Option.bind_some, wipeE, b_add, b_sub, k_lt, k_le, k_gt, k_ge, k_eq, k_ne, k_isN, k_isnN, s_lst, s_tup, Bool.and_true, Bool.true_and, if_true, if_false, reduceCtorEq, Nat.reduceAdd, Nat.reduceSub, Nat.reduceLT, Nat.reduceLeDiff, Nat.reduceEqDiff, Bool.and_false, Bool.false_and, Bool.not_true, Bool.not_false, Bool.false_eq_true, okk_bind, okk_ok, okk_nox, okk_out, oks_seq, oks_of, oks_nx, oks_rt, ixc0, ixc1, ixc2, ixc3, nat_c, Int.reduceSub, Int.reduceAdd, Int.reduceEq, Int.reduceLT, Int.reduceLE, Int.reduceMul, Bool.or_false, Bool.false_or, Bool.true_or, Bool.or_true, Bool.or_self, Bool.and_self, List.isEmpty_nil, List.isEmpty_cons, bq1, bq2, bq3, bq4, cond_true, cond_false, eq_self])
          exact ⟨trivial, A ++ [(b, L)], B, _, _, by rw [eC]; simp, rfl, by rw [eo]; try rfl⟩
        | some d =>
          rw [ew] at eo
          rw [evSs_cons]; simp -implicitDefEqProofs only [runD, evSs_nil, evS, evE, evB, evA, evAV, evO, evC, evI, vw, Mini.start, bind_ok, bind_exc, bind_bad, bind_ite, of_somE, of_noneE, sof_ok, sof_exc, sof_bad, sof_ite, seq_nx, seq_rt, seq_exc, seq_bad, seq_ite, out_nx, out_rt, out_exc, out_ite, nox_ok, truth_bl, dif_true, dif_false, Ck.d, List.map_cons, List.map_nil, List.length_cons, List.length_nil, List.replicate, List.cons_append, List.nil_append, List.append_nil, List.getElem?_cons_zero, List.getElem?_cons_succ, List.set_cons_zero, List.set_cons_succ, Option.map_some, decide_true, decide_false, set2, set_len, asg_nm, asg_tp, asgs_nil, asgs_cons, Option.bind_some, wipeE, b_add, b_sub, k_lt, k_le, k_gt, k_ge, k_eq, k_ne, k_isN, k_isnN, s_lst, s_tup, Bool.and_true, Bool.true_and, if_true, if_false, reduceCtorEq, Nat.reduceAdd, Nat.reduceSub, Nat.reduceLT, Nat.reduceLeDiff, Nat.reduceEqDiff, Bool.and_false, Bool.false_and, Bool.not_true, Bool.not_false, Bool.false_eq_true, okk_bind, okk_ok, okk_nox, okk_out, oks_seq, oks_of, oks_nx, oks_rt, ixc0, ixc1, ixc2, ixc3, nat_c, Int.reduceSub, Int.reduceAdd, Int.reduceEq, Int.reduceLT, Int.reduceLE, Int.reduceMul, Bool.or_false, Bool.false_or, Bool.true_or, Bool.or_true, Bool.or_self, Bool.and_self, List.isEmpty_nil, List.isEmpty_cons, bq1, bq2, bq3, bq4, cond_true, cond_false, eq_self, oint]
          exact ⟨trivial, A ++ [(b, L)], B, _, _, by rw [eC]; simp, rfl, by rw [eo]; try rfl⟩
end
end Mini

/-! D16: losers. -/
namespace Mini
open PySem PySem.Spec L2
abbrev Us := Int × Int × Int
def usr (x : Us) : D := .tup [.int x.1, .int x.2.1, .int x.2.2]
def U (n : Nat) : List Us := (List.range n).flatMap fun k : Nat => K24.map fun q => ((k : Int), q.1, q.2)
theorem U_succ (n : Nat) : U (n + 1) = U n ++ K24.map fun q => ((n : Int), q.1, q.2) := by
  unfold U
  rw [List.range_succ, List.flatMap_append]
  simp
theorem U_len (n : Nat) : (U n).length = 24 * n := by
  induction n with
  | zero => rfl
  | succ n ih =>
    rw [U_succ, List.length_append, ih, List.length_map]
    have : K24.length = 24 := by simp [K24]
    omega
theorem U_mem {n : Nat} {x : Us} : x ∈ U n ↔ 0 ≤ x.1 ∧ x.1 < n ∧ (x.2.1, x.2.2) ∈ K24 := by
  unfold U
  rw [List.mem_flatMap]
  constructor
  · rintro ⟨k, hk, h⟩
    obtain ⟨q, hq, rfl⟩ := List.mem_map.mp h
    have := List.mem_range.mp hk
    exact ⟨by simp only; omega, by simp only; omega, hq⟩
  · rintro ⟨h0, h1, h2⟩
    refine ⟨x.1.toNat, List.mem_range.mpr (by omega), List.mem_map.mpr ⟨_, h2, ?_⟩⟩
    refine Prod.ext ?_ rfl
    simp only
    omega
theorem U_ok {n : Nat} {x : Us} (h : x ∈ U n) (hn : n ≤ 100) : IsU x.1 x.2.1 x.2.2 := by
  obtain ⟨h0, h1, h2⟩ := U_mem.mp h
  have := kd_pf h2
  simp only at this
  exact ⟨h0, by omega, this.1, this.2.1, this.2.2.1, this.2.2.2⟩
def letX (A : List (D × Int)) (s t : Int) (x : Us) : Bool := letB A s t x.1 x.2.1 x.2.2
def losB (A B : List (D × Int)) (s t : Int) (x : Us) : Bool := letX A s t x && !letX B s t x
def losP (A B : List (D × Int)) (s t : Int) : Option Us := (U 100).find? (losB A B s t)
def ousr : Option Us → D
  | some x => usr x
  | none => .non
theorem kind_row (f : Int × Int → D) : K24.map f = K24.map fun q => f (q.1, q.2) := rfl
def fdU (p : Us → Bool) : D → Option D
  | .tup [.int u, .int l, .int q] => bif p (u, l, q) then some (.tup [.int u, .int l, .int q]) else none
  | _ => none
theorem fdU_find (p : Us → Bool) (xs : List Us) : (xs.map usr).findSome? (fdU p) = (xs.find? p).map usr := by
  induction xs with
  | nil => rfl
  | cons x r ih =>
    rw [List.map_cons, List.findSome?_cons, List.find?_cons]
    have e : fdU p (usr x) = bif p x then some (usr x) else none := rfl
    rw [e]
    cases p x with
    | true => rfl
    | false => exact ih
section
variable {T : Nat → Option Df} (hT : Exts T) {n : Nat} {h : Hd}
include hT
theorem c_users_from : call T (n + 2) 39 [.int 0, .int 100] h = .ok (.lst ((U 100).map usr)) h := by
  rw [callT hT (show T0 39 = some ir_users_from from rfl)]
  unfold ir_users_from
  refine Okk.eq ?_
  (try simp -implicitDefEqProofs only [runD, evSs_nil, evS, evE, evB, evA, evAV, evO, evC, evI, vw, Mini.start, bind_ok, bind_exc, bind_bad, bind_ite, of_somE, of_noneE, sof_ok, sof_exc, sof_bad, sof_ite, seq_nx, seq_rt, seq_exc, seq_bad, seq_ite, out_nx, out_rt, out_exc, out_ite, nox_ok, truth_bl, dif_true, dif_false, Ck.d, List.map_cons, List.map_nil, List.length_cons, List.length_nil, List.replicate, List.cons_append, List.nil_append, List.append_nil, List.getElem?_cons_zero, List.getElem?_cons_succ, List.set_cons_zero, List.set_cons_succ, Option.map_some, decide_true, decide_false, set2, set_len, asg_nm, asg_tp, asgs_nil, asgs_cons, Option.bind_some, wipeE, b_add, b_sub, k_lt, k_le, k_gt, k_ge, k_eq, k_ne, k_isN, k_isnN, s_lst, s_tup, Bool.and_true, Bool.true_and, if_true, if_false, reduceCtorEq, Nat.reduceAdd, Nat.reduceSub, Nat.reduceLT, Nat.reduceLeDiff, Nat.reduceEqDiff, Bool.and_false, Bool.false_and, Bool.not_true, Bool.not_false, Bool.false_eq_true, okk_bind, okk_ok, okk_nox, okk_out, oks_seq, oks_of, oks_nx, oks_rt, ixc0, ixc1, ixc2, ixc3, nat_c, Int.reduceSub, Int.reduceAdd, Int.reduceEq, Int.reduceLT, Int.reduceLE, Int.reduceMul, Bool.or_false, Bool.false_or, Bool.true_or, Bool.or_true, Bool.or_self, Bool.and_self, List.isEmpty_nil, List.isEmpty_cons, bq1, bq2, bq3, bq4, cond_true, cond_false, eq_self])
  rw [evSs_cons]; (try simp -implicitDefEqProofs only [runD, evSs_nil, evS, evE, evB, evA, evAV, evO, evC, evI, vw, Mini.start, bind_ok, bind_exc, bind_bad, bind_ite, of_somE, of_noneE, sof_ok, sof_exc, sof_bad, sof_ite, seq_nx, seq_rt, seq_exc, seq_bad, seq_ite, out_nx, out_rt, out_exc, out_ite, nox_ok, truth_bl, dif_true, dif_false, Ck.d, List.map_cons, List.map_nil, List.length_cons, List.length_nil, List.replicate, List.cons_append, List.nil_append, List.append_nil, List.getElem?_cons_zero, List.getElem?_cons_succ, List.set_cons_zero, List.set_cons_succ, Option.map_some, decide_true, decide_false, set2, set_len, asg_nm, asg_tp, asgs_nil, asgs_cons, Option.bind_some, wipeE, b_add, b_sub, k_lt, k_le, k_gt, k_ge, k_eq, k_ne, k_isN, k_isnN, s_lst, s_tup, Bool.and_true, Bool.true_and, if_true, if_false, reduceCtorEq, Nat.reduceAdd, Nat.reduceSub, Nat.reduceLT, Nat.reduceLeDiff, Nat.reduceEqDiff, Bool.and_false, Bool.false_and, Bool.not_true, Bool.not_false, Bool.false_eq_true, okk_bind, okk_ok, okk_nox, okk_out, oks_seq, oks_of, oks_nx, oks_rt, ixc0, ixc1, ixc2, ixc3, nat_c, Int.reduceSub, Int.reduceAdd, Int.reduceEq, Int.reduceLT, Int.reduceLE, Int.reduceMul, Bool.or_false, Bool.false_or, Bool.true_or, Bool.or_true, Bool.or_self, Bool.and_self, List.isEmpty_nil, List.isEmpty_cons, bq1, bq2, bq3, bq4, cond_true, cond_false, eq_self])
  rw [evSs_cons]; simp -implicitDefEqProofs only [runD, evSs_nil, evS, evE, evB, evA, evAV, evO, evC, evI, vw, Mini.start, bind_ok, bind_exc, bind_bad, bind_ite, of_somE, of_noneE, sof_ok, sof_exc, sof_bad, sof_ite, seq_nx, seq_rt, seq_exc, seq_bad, seq_ite, out_nx, out_rt, out_exc, out_ite, nox_ok, truth_bl, dif_true, dif_false, Ck.d, List.map_cons, List.map_nil, List.length_cons, List.length_nil, List.replicate, List.cons_append, List.nil_append, List.append_nil, List.getElem?_cons_zero, List.getElem?_cons_succ, List.set_cons_zero, List.set_cons_succ, Option.map_some, decide_true, decide_false, set2, set_len, asg_nm, asg_tp, asgs_nil, asgs_cons, Option.bind_some, wipeE, b_add, b_sub, k_lt, k_le, k_gt, k_ge, k_eq, k_ne, k_isN, k_isnN, s_lst, s_tup, Bool.and_true, Bool.true_and, if_true, if_false, reduceCtorEq, Nat.reduceAdd, Nat.reduceSub, Nat.reduceLT, Nat.reduceLeDiff, Nat.reduceEqDiff, Bool.and_false, Bool.false_and, Bool.not_true, Bool.not_false, Bool.false_eq_true, okk_bind, okk_ok, okk_nox, okk_out, oks_seq, oks_of, oks_nx, oks_rt, ixc0, ixc1, ixc2, ixc3, nat_c, Int.reduceSub, Int.reduceAdd, Int.reduceEq, Int.reduceLT, Int.reduceLE, Int.reduceMul, Bool.or_false, Bool.false_or, Bool.true_or, Bool.or_true, Bool.or_self, Bool.and_self, List.isEmpty_nil, List.isEmpty_cons, bq1, bq2, bq3, bq4, cond_true, cond_false, eq_self, show biD h .min [.int 100, .int 101] = some (.int 100) from rfl, show small 0 = true by decide, show small 100 = true by decide, show (Int.toNat 100) = 100 from rfl]
  refine forL_by (fun rest ρ h' => h' = h ∧ ∃ (j : Nat) (z3 z4 z5 : Option Sl), j + rest.length = 100 ∧ rest = (List.range' j rest.length).map (fun k => D.int ((0 : Int) + (k : Nat))) ∧ ρ = [some (.val (.int 0)), some (.val (.int 100)), some (.val (.lst ((U j).map usr))), z3, z4, z5]) (fun ρ h' p => ?_) (fun x r ρ h' p => ?_) ⟨rfl, 0, none, none, none, by simp [rngD], by simp [rngD, List.range_eq_range'], rfl⟩
  · obtain ⟨rfl, j, z3, z4, z5, p1, _, rfl⟩ := p
    have : j = 100 := by simpa using p1
    subst this
    rw [evSs_cons]; (try simp -implicitDefEqProofs only [runD, evSs_nil, evS, evE, evB, evA, evAV, evO, evC, evI, vw, Mini.start, bind_ok, bind_exc, bind_bad, bind_ite, of_somE, of_noneE, sof_ok, sof_exc, sof_bad, sof_ite, seq_nx, seq_rt, seq_exc, seq_bad, seq_ite, out_nx, out_rt, out_exc, out_ite, nox_ok, truth_bl, dif_true, dif_false, Ck.d, List.map_cons, List.map_nil, List.length_cons, List.length_nil, List.replicate, List.cons_append, List.nil_append, List.append_nil, List.getElem?_cons_zero, List.getElem?_cons_succ, List.set_cons_zero, List.set_cons_succ, Option.map_some, decide_true, decide_false, set2, set_len, asg_nm, asg_tp, asgs_nil, asgs_cons, Option.bind_some, wipeE, b_add, b_sub, k_lt, k_le, k_gt, k_ge, k_eq, k_ne, k_isN, k_isnN, s_lst, s_tup, Bool.and_true, Bool.true_and, if_true, if_false, reduceCtorEq, Nat.reduceAdd, Nat.reduceSub, Nat.reduceLT, Nat.reduceLeDiff, Nat.reduceEqDiff, Bool.and_false, Bool.false_and, Bool.not_true, Bool.not_false, Bool.false_eq_true, okk_bind, okk_ok, okk_nox, okk_out, oks_seq, oks_of, oks_nx, oks_rt, ixc0, ixc1, ixc2, ixc3, nat_c, Int.reduceSub, Int.reduceAdd, Int.reduceEq, Int.reduceLT, Int.reduceLE, Int.reduceMul, Bool.or_false, Bool.false_or, Bool.true_or, Bool.or_true, Bool.or_self, Bool.and_self, List.isEmpty_nil, List.isEmpty_cons, bq1, bq2, bq3, bq4, cond_true, cond_false, eq_self])
    exact ⟨trivial, trivial⟩
  · obtain ⟨rfl, j, z3, z4, z5, p1, p2, rfl⟩ := p
    simp only [List.length_cons, List.range'_succ, List.map_cons, List.cons.injEq] at p1 p2
    obtain ⟨rfl, p2⟩ := p2
    (try simp -implicitDefEqProofs only [runD, evSs_nil, evS, evE, evB, evA, evAV, evO, evC, evI, vw, Mini.start, bind_ok, bind_exc, bind_bad, bind_ite, of_somE, of_noneE, sof_ok, sof_exc, sof_bad, sof_ite, seq_nx, seq_rt, seq_exc, seq_bad, seq_ite, out_nx, out_rt, out_exc, out_ite, nox_ok, truth_bl, dif_true, dif_false, Ck.d, List.map_cons, List.map_nil, List.length_cons, List.length_nil, List.replicate, List.cons_append, List.nil_append, List.append_nil, List.getElem?_cons_zero, List.getElem?_cons_succ, List.set_cons_zero, List.set_cons_succ, Option.map_some, decide_true, decide_false, set2, set_len, asg_nm, asg_tp, asgs_nil, asgs_cons, Option.bind_some, wipeE, b_add, b_sub, k_lt, k_le, k_gt, k_ge, k_eq, k_ne, k_isN, k_isnN, s_lst, s_tup, Bool.and_true, Bool.true_and, if_true, if_false, reduceCtorEq, Nat.reduceAdd, Nat.reduceSub, Nat.reduceLT, Nat.reduceLeDiff, Nat.reduceEqDiff, Bool.and_false, Bool.false_and, Bool.not_true, Bool.not_false, Bool.false_eq_true, okk_bind, okk_ok, okk_nox, okk_out, oks_seq, oks_of, oks_nx, oks_rt, ixc0, ixc1, ixc2, ixc3, nat_c, Int.reduceSub, Int.reduceAdd, Int.reduceEq, Int.reduceLT, Int.reduceLE, Int.reduceMul, Bool.or_false, Bool.false_or, Bool.true_or, Bool.or_true, Bool.or_self, Bool.and_self, List.isEmpty_nil, List.isEmpty_cons, bq1, bq2, bq3, bq4, cond_true, cond_false, eq_self])
    rw [evSs_cons]; simp -implicitDefEqProofs only [runD, evSs_nil, evS, evE, evB, evA, evAV, evO, evC, evI, vw, Mini.start, bind_ok, bind_exc, bind_bad, bind_ite, of_somE, of_noneE, sof_ok, sof_exc, sof_bad, sof_ite, seq_nx, seq_rt, seq_exc, seq_bad, seq_ite, out_nx, out_rt, out_exc, out_ite, nox_ok, truth_bl, dif_true, dif_false, Ck.d, List.map_cons, List.map_nil, List.length_cons, List.length_nil, List.replicate, List.cons_append, List.nil_append, List.append_nil, List.getElem?_cons_zero, List.getElem?_cons_succ, List.set_cons_zero, List.set_cons_succ, Option.map_some, decide_true, decide_false, set2, set_len, asg_nm, asg_tp, asgs_nil, asgs_cons, Option.bind_some, wipeE, b_add, b_sub, k_lt, k_le, k_gt, k_ge, k_eq, k_ne, k_isN, k_isnN, s_lst, s_tup, Bool.and_true, Bool.true_and, if_true, if_false, reduceCtorEq, Nat.reduceAdd, Nat.reduceSub, Nat.reduceLT, Nat.reduceLeDiff, Nat.reduceEqDiff, Bool.and_false, Bool.false_and, Bool.not_true, Bool.not_false, Bool.false_eq_true, okk_bind, okk_ok, okk_nox, okk_out, oks_seq, oks_of, oks_nx, oks_rt, ixc0, ixc1, ixc2, ixc3, nat_c, Int.reduceSub, Int.reduceAdd, Int.reduceEq, Int.reduceLT, Int.reduceLE, Int.reduceMul, Bool.or_false, Bool.false_or, Bool.true_or, Bool.or_true, Bool.or_self, Bool.and_self, List.isEmpty_nil, List.isEmpty_cons, bq1, bq2, bq3, bq4, cond_true, cond_false, eq_self, c_all_kinds hT]
    rw [loopC_mk kd (fun q => usr ((j : Int), q.1, q.2)) (fun q hq => by simp -implicitDefEqProofs only [runD, evSs_nil, evS, evE, evB, evA, evAV, evO, evC, evI, vw, Mini.start, bind_ok, bind_exc, bind_bad, bind_ite, of_somE, of_noneE, sof_ok, sof_exc, sof_bad, sof_ite, seq_nx, seq_rt, seq_exc, seq_bad, seq_ite, out_nx, out_rt, out_exc, out_ite, nox_ok, truth_bl, dif_true, dif_false, Ck.d, List.map_cons, List.map_nil, List.length_cons, List.length_nil, List.replicate, List.cons_append, List.nil_append, List.append_nil, List.getElem?_cons_zero, List.getElem?_cons_succ, List.set_cons_zero, List.set_cons_succ, Option.map_some, decide_true, decide_false, set2, set_len, asg_nm, asg_tp, asgs_nil, asgs_cons, Option.bind_some, wipeE, b_add, b_sub, k_lt, k_le, k_gt, k_ge, k_eq, k_ne, k_isN, k_isnN, s_lst, s_tup, Bool.and_true, Bool.true_and, if_true, if_false, reduceCtorEq, Nat.reduceAdd, Nat.reduceSub, Nat.reduceLT, Nat.reduceLeDiff, Nat.reduceEqDiff, Bool.and_false, Bool.false_and, Bool.not_true, Bool.not_false, Bool.false_eq_true, okk_bind, okk_ok, okk_nox, okk_out, oks_seq, oks_of, oks_nx, oks_rt, ixc0, ixc1, ixc2, ixc3, nat_c, Int.reduceSub, Int.reduceAdd, Int.reduceEq, Int.reduceLT, Int.reduceLE, Int.reduceMul, Bool.or_false, Bool.false_or, Bool.true_or, Bool.or_true, Bool.or_self, Bool.and_self, List.isEmpty_nil, List.isEmpty_cons, bq1, bq2, bq3, bq4, cond_true, cond_false, eq_self, kd, Int.zero_add]; rfl)]
    have ul := U_len j
    have hl : (K24.map fun q => usr ((j : Int), q.1, q.2)).length ≤ 1000000 := by rw [List.length_map]; decide +kernel
    have hl2 : ((U j).map usr).length + (K24.map fun q => usr ((j : Int), q.1, q.2)).length ≤ 1000000 := by
      have : K24.length = 24 := by simp [K24]
      simp only [List.length_map]
      omega
    simp -implicitDefEqProofs only [runD, evSs_nil, evS, evE, evB, evA, evAV, evO, evC, evI, vw, Mini.start, bind_ok, bind_exc, bind_bad, bind_ite, of_somE, of_noneE, sof_ok, sof_exc, sof_bad, sof_ite, seq_nx, seq_rt, seq_exc, seq_bad, seq_ite, out_nx, out_rt, out_exc, out_ite, nox_ok, truth_bl, dif_true, dif_false, Ck.d, List.map_cons, List.map_nil, List.length_cons, List.length_nil, List.replicate, List.cons_append, List.nil_append, List.append_nil, List.getElem?_cons_zero, List.getElem?_cons_succ, List.set_cons_zero, List.set_cons_succ, Option.map_some, decide_true, decide_false, set2, set_len, asg_nm, asg_tp, asgs_nil, asgs_cons, Option.bind_some, wipeE, b_add, b_sub, k_lt, k_le, k_gt, k_ge, k_eq, k_ne, k_isN, k_isnN, s_lst, s_tup, Bool.and_true, Bool.true_and, if_true, if_false, reduceCtorEq, Nat.reduceAdd, Nat.reduceSub, Nat.reduceLT, Nat.reduceLeDiff, Nat.reduceEqDiff, Bool.and_false, Bool.false_and, Bool.not_true, Bool.not_false, Bool.false_eq_true, okk_bind, okk_ok, okk_nox, okk_out, oks_seq, oks_of, oks_nx, oks_rt, ixc0, ixc1, ixc2, ixc3, nat_c, Int.reduceSub, Int.reduceAdd, Int.reduceEq, Int.reduceLT, Int.reduceLE, Int.reduceMul, Bool.or_false, Bool.false_or, Bool.true_or, Bool.or_true, Bool.or_self, Bool.and_self, List.isEmpty_nil, List.isEmpty_cons, bq1, bq2, bq3, bq4, cond_true, cond_false, eq_self, hl, b_lst hl2]
    exact ⟨trivial, j + 1, _, _, _, by omega, p2, by rw [U_succ, List.map_append, List.map_map]; rfl⟩
theorem c_law_users : call T (n + 2) 42 [.int 0, .int 99] h = .ok (.lst ((U 100).map usr)) h := by
  rw [callT hT (show T0 42 = some ir_law_users from rfl)]
  unfold ir_law_users
  refine Okk.eq ?_
  (try simp -implicitDefEqProofs only [runD, evSs_nil, evS, evE, evB, evA, evAV, evO, evC, evI, vw, Mini.start, bind_ok, bind_exc, bind_bad, bind_ite, of_somE, of_noneE, sof_ok, sof_exc, sof_bad, sof_ite, seq_nx, seq_rt, seq_exc, seq_bad, seq_ite, out_nx, out_rt, out_exc, out_ite, nox_ok, truth_bl, dif_true, dif_false, Ck.d, List.map_cons, List.map_nil, List.length_cons, List.length_nil, List.replicate, List.cons_append, List.nil_append, List.append_nil, List.getElem?_cons_zero, List.getElem?_cons_succ, List.set_cons_zero, List.set_cons_succ, Option.map_some, decide_true, decide_false, set2, set_len, asg_nm, asg_tp, asgs_nil, asgs_cons, Option.bind_some, wipeE, b_add, b_sub, k_lt, k_le, k_gt, k_ge, k_eq, k_ne, k_isN, k_isnN, s_lst, s_tup, Bool.and_true, Bool.true_and, if_true, if_false, reduceCtorEq, Nat.reduceAdd, Nat.reduceSub, Nat.reduceLT, Nat.reduceLeDiff, Nat.reduceEqDiff, Bool.and_false, Bool.false_and, Bool.not_true, Bool.not_false, Bool.false_eq_true, okk_bind, okk_ok, okk_nox, okk_out, oks_seq, oks_of, oks_nx, oks_rt, ixc0, ixc1, ixc2, ixc3, nat_c, Int.reduceSub, Int.reduceAdd, Int.reduceEq, Int.reduceLT, Int.reduceLE, Int.reduceMul, Bool.or_false, Bool.false_or, Bool.true_or, Bool.or_true, Bool.or_self, Bool.and_self, List.isEmpty_nil, List.isEmpty_cons, bq1, bq2, bq3, bq4, cond_true, cond_false, eq_self])
  rw [evSs_cons]; (try simp -implicitDefEqProofs only [runD, evSs_nil, evS, evE, evB, evA, evAV, evO, evC, evI, vw, Mini.start, bind_ok, bind_exc, bind_bad, bind_ite, of_somE, of_noneE, sof_ok, sof_exc, sof_bad, sof_ite, seq_nx, seq_rt, seq_exc, seq_bad, seq_ite, out_nx, out_rt, out_exc, out_ite, nox_ok, truth_bl, dif_true, dif_false, Ck.d, List.map_cons, List.map_nil, List.length_cons, List.length_nil, List.replicate, List.cons_append, List.nil_append, List.append_nil, List.getElem?_cons_zero, List.getElem?_cons_succ, List.set_cons_zero, List.set_cons_succ, Option.map_some, decide_true, decide_false, set2, set_len, asg_nm, asg_tp, asgs_nil, asgs_cons, Option.bind_some, wipeE, b_add, b_sub, k_lt, k_le, k_gt, k_ge, k_eq, k_ne, k_isN, k_isnN, s_lst, s_tup, Bool.and_true, Bool.true_and, if_true, if_false, reduceCtorEq, Nat.reduceAdd, Nat.reduceSub, Nat.reduceLT, Nat.reduceLeDiff, Nat.reduceEqDiff, Bool.and_false, Bool.false_and, Bool.not_true, Bool.not_false, Bool.false_eq_true, okk_bind, okk_ok, okk_nox, okk_out, oks_seq, oks_of, oks_nx, oks_rt, ixc0, ixc1, ixc2, ixc3, nat_c, Int.reduceSub, Int.reduceAdd, Int.reduceEq, Int.reduceLT, Int.reduceLE, Int.reduceMul, Bool.or_false, Bool.false_or, Bool.true_or, Bool.or_true, Bool.or_self, Bool.and_self, List.isEmpty_nil, List.isEmpty_cons, bq1, bq2, bq3, bq4, cond_true, cond_false, eq_self])
  rw [evSs_cons]; simp -implicitDefEqProofs only [runD, evSs_nil, evS, evE, evB, evA, evAV, evO, evC, evI, vw, Mini.start, bind_ok, bind_exc, bind_bad, bind_ite, of_somE, of_noneE, sof_ok, sof_exc, sof_bad, sof_ite, seq_nx, seq_rt, seq_exc, seq_bad, seq_ite, out_nx, out_rt, out_exc, out_ite, nox_ok, truth_bl, dif_true, dif_false, Ck.d, List.map_cons, List.map_nil, List.length_cons, List.length_nil, List.replicate, List.cons_append, List.nil_append, List.append_nil, List.getElem?_cons_zero, List.getElem?_cons_succ, List.set_cons_zero, List.set_cons_succ, Option.map_some, decide_true, decide_false, set2, set_len, asg_nm, asg_tp, asgs_nil, asgs_cons, Option.bind_some, wipeE, b_add, b_sub, k_lt, k_le, k_gt, k_ge, k_eq, k_ne, k_isN, k_isnN, s_lst, s_tup, Bool.and_true, Bool.true_and, if_true, if_false, reduceCtorEq, Nat.reduceAdd, Nat.reduceSub, Nat.reduceLT, Nat.reduceLeDiff, Nat.reduceEqDiff, Bool.and_false, Bool.false_and, Bool.not_true, Bool.not_false, Bool.false_eq_true, okk_bind, okk_ok, okk_nox, okk_out, oks_seq, oks_of, oks_nx, oks_rt, ixc0, ixc1, ixc2, ixc3, nat_c, Int.reduceSub, Int.reduceAdd, Int.reduceEq, Int.reduceLT, Int.reduceLE, Int.reduceMul, Bool.or_false, Bool.false_or, Bool.true_or, Bool.or_true, Bool.or_self, Bool.and_self, List.isEmpty_nil, List.isEmpty_cons, bq1, bq2, bq3, bq4, cond_true, cond_false, eq_self, show small 0 = true by decide, show small 100 = true by decide, show (Int.toNat 100) = 100 from rfl]
  refine forL_by (fun rest ρ h' => h' = h ∧ ∃ (j : Nat) (z3 z4 : Option Sl), j + rest.length = 100 ∧ rest = (List.range' j rest.length).map (fun k => D.int ((0 : Int) + (k : Nat))) ∧ ρ = [some (.val (.int 0)), some (.val (.int 99)), some (.val (.lst ((U j).map usr))), z3, z4]) (fun ρ h' p => ?_) (fun x r ρ h' p => ?_) ⟨rfl, 0, none, none, by simp [rngD], by simp [rngD, List.range_eq_range'], rfl⟩
  · obtain ⟨rfl, j, z3, z4, p1, _, rfl⟩ := p
    have : j = 100 := by simpa using p1
    subst this
    rw [evSs_cons]; (try simp -implicitDefEqProofs only [runD, evSs_nil, evS, evE, evB, evA, evAV, evO, evC, evI, vw, Mini.start, bind_ok, bind_exc, bind_bad, bind_ite, of_somE, of_noneE, sof_ok, sof_exc, sof_bad, sof_ite, seq_nx, seq_rt, seq_exc, seq_bad, seq_ite, out_nx, out_rt, out_exc, out_ite, nox_ok, truth_bl, dif_true, dif_false, Ck.d, List.map_cons, List.map_nil, List.length_cons, List.length_nil, List.replicate, List.cons_append, List.nil_append, List.append_nil, List.getElem?_cons_zero, List.getElem?_cons_succ, List.set_cons_zero, List.set_cons_succ, Option.map_some, decide_true, decide_false, set2, set_len, asg_nm, asg_tp, asgs_nil, asgs_cons, Option.bind_some, wipeE, b_add, b_sub, k_lt, k_le, k_gt, k_ge, k_eq, k_ne, k_isN, k_isnN, s_lst, s_tup, Bool.and_true, Bool.true_and, if_true, if_false, reduceCtorEq, Nat.reduceAdd, Nat.reduceSub, Nat.reduceLT, Nat.reduceLeDiff, Nat.reduceEqDiff, Bool.and_false, Bool.false_and, Bool.not_true, Bool.not_false, Bool.false_eq_true, okk_bind, okk_ok, okk_nox, okk_out, oks_seq, oks_of, oks_nx, oks_rt, ixc0, ixc1, ixc2, ixc3, nat_c, Int.reduceSub, Int.reduceAdd, Int.reduceEq, Int.reduceLT, Int.reduceLE, Int.reduceMul, Bool.or_false, Bool.false_or, Bool.true_or, Bool.or_true, Bool.or_self, Bool.and_self, List.isEmpty_nil, List.isEmpty_cons, bq1, bq2, bq3, bq4, cond_true, cond_false, eq_self])
    exact ⟨trivial, trivial⟩
  · obtain ⟨rfl, j, z3, z4, p1, p2, rfl⟩ := p
    simp only [List.length_cons, List.range'_succ, List.map_cons, List.cons.injEq] at p1 p2
    obtain ⟨rfl, p2⟩ := p2
    (try simp -implicitDefEqProofs only [runD, evSs_nil, evS, evE, evB, evA, evAV, evO, evC, evI, vw, Mini.start, bind_ok, bind_exc, bind_bad, bind_ite, of_somE, of_noneE, sof_ok, sof_exc, sof_bad, sof_ite, seq_nx, seq_rt, seq_exc, seq_bad, seq_ite, out_nx, out_rt, out_exc, out_ite, nox_ok, truth_bl, dif_true, dif_false, Ck.d, List.map_cons, List.map_nil, List.length_cons, List.length_nil, List.replicate, List.cons_append, List.nil_append, List.append_nil, List.getElem?_cons_zero, List.getElem?_cons_succ, List.set_cons_zero, List.set_cons_succ, Option.map_some, decide_true, decide_false, set2, set_len, asg_nm, asg_tp, asgs_nil, asgs_cons, Option.bind_some, wipeE, b_add, b_sub, k_lt, k_le, k_gt, k_ge, k_eq, k_ne, k_isN, k_isnN, s_lst, s_tup, Bool.and_true, Bool.true_and, if_true, if_false, reduceCtorEq, Nat.reduceAdd, Nat.reduceSub, Nat.reduceLT, Nat.reduceLeDiff, Nat.reduceEqDiff, Bool.and_false, Bool.false_and, Bool.not_true, Bool.not_false, Bool.false_eq_true, okk_bind, okk_ok, okk_nox, okk_out, oks_seq, oks_of, oks_nx, oks_rt, ixc0, ixc1, ixc2, ixc3, nat_c, Int.reduceSub, Int.reduceAdd, Int.reduceEq, Int.reduceLT, Int.reduceLE, Int.reduceMul, Bool.or_false, Bool.false_or, Bool.true_or, Bool.or_true, Bool.or_self, Bool.and_self, List.isEmpty_nil, List.isEmpty_cons, bq1, bq2, bq3, bq4, cond_true, cond_false, eq_self])
    rw [evSs_cons]; simp -implicitDefEqProofs only [runD, evSs_nil, evS, evE, evB, evA, evAV, evO, evC, evI, vw, Mini.start, bind_ok, bind_exc, bind_bad, bind_ite, of_somE, of_noneE, sof_ok, sof_exc, sof_bad, sof_ite, seq_nx, seq_rt, seq_exc, seq_bad, seq_ite, out_nx, out_rt, out_exc, out_ite, nox_ok, truth_bl, dif_true, dif_false, Ck.d, List.map_cons, List.map_nil, List.length_cons, List.length_nil, List.replicate, List.cons_append, List.nil_append, List.append_nil, List.getElem?_cons_zero, List.getElem?_cons_succ, List.set_cons_zero, List.set_cons_succ, Option.map_some, decide_true, decide_false, set2, set_len, asg_nm, asg_tp, asgs_nil, asgs_cons, Option.bind_some, wipeE, b_add, b_sub, k_lt, k_le, k_gt, k_ge, k_eq, k_ne, k_isN, k_isnN, s_lst, s_tup, Bool.and_true, Bool.true_and, if_true, if_false, reduceCtorEq, Nat.reduceAdd, Nat.reduceSub, Nat.reduceLT, Nat.reduceLeDiff, Nat.reduceEqDiff, Bool.and_false, Bool.false_and, Bool.not_true, Bool.not_false, Bool.false_eq_true, okk_bind, okk_ok, okk_nox, okk_out, oks_seq, oks_of, oks_nx, oks_rt, ixc0, ixc1, ixc2, ixc3, nat_c, Int.reduceSub, Int.reduceAdd, Int.reduceEq, Int.reduceLT, Int.reduceLE, Int.reduceMul, Bool.or_false, Bool.false_or, Bool.true_or, Bool.or_true, Bool.or_self, Bool.and_self, List.isEmpty_nil, List.isEmpty_cons, bq1, bq2, bq3, bq4, cond_true, cond_false, eq_self, c_law_kinds hT]
    rw [loopC_mk kd (fun q => usr ((j : Int), q.1, q.2)) (fun q hq => by simp -implicitDefEqProofs only [runD, evSs_nil, evS, evE, evB, evA, evAV, evO, evC, evI, vw, Mini.start, bind_ok, bind_exc, bind_bad, bind_ite, of_somE, of_noneE, sof_ok, sof_exc, sof_bad, sof_ite, seq_nx, seq_rt, seq_exc, seq_bad, seq_ite, out_nx, out_rt, out_exc, out_ite, nox_ok, truth_bl, dif_true, dif_false, Ck.d, List.map_cons, List.map_nil, List.length_cons, List.length_nil, List.replicate, List.cons_append, List.nil_append, List.append_nil, List.getElem?_cons_zero, List.getElem?_cons_succ, List.set_cons_zero, List.set_cons_succ, Option.map_some, decide_true, decide_false, set2, set_len, asg_nm, asg_tp, asgs_nil, asgs_cons, Option.bind_some, wipeE, b_add, b_sub, k_lt, k_le, k_gt, k_ge, k_eq, k_ne, k_isN, k_isnN, s_lst, s_tup, Bool.and_true, Bool.true_and, if_true, if_false, reduceCtorEq, Nat.reduceAdd, Nat.reduceSub, Nat.reduceLT, Nat.reduceLeDiff, Nat.reduceEqDiff, Bool.and_false, Bool.false_and, Bool.not_true, Bool.not_false, Bool.false_eq_true, okk_bind, okk_ok, okk_nox, okk_out, oks_seq, oks_of, oks_nx, oks_rt, ixc0, ixc1, ixc2, ixc3, nat_c, Int.reduceSub, Int.reduceAdd, Int.reduceEq, Int.reduceLT, Int.reduceLE, Int.reduceMul, Bool.or_false, Bool.false_or, Bool.true_or, Bool.or_true, Bool.or_self, Bool.and_self, List.isEmpty_nil, List.isEmpty_cons, bq1, bq2, bq3, bq4, cond_true, cond_false, eq_self, kd, Int.zero_add, b_tup (xs := [.int (j : Int)]) (ys := [.int q.1, .int q.2]) (show 1 + 2 ≤ 1000000 by decide)]; rfl)]
    have ul := U_len j
    have hl : (K24.map fun q => usr ((j : Int), q.1, q.2)).length ≤ 1000000 := by rw [List.length_map]; decide +kernel
    have hl2 : ((U j).map usr).length + (K24.map fun q => usr ((j : Int), q.1, q.2)).length ≤ 1000000 := by
      have : K24.length = 24 := by simp [K24]
      simp only [List.length_map]
      omega
    simp -implicitDefEqProofs only [runD, evSs_nil, evS, evE, evB, evA, evAV, evO, evC, evI, vw, Mini.start, bind_ok, bind_exc, bind_bad, bind_ite, of_somE, of_noneE, sof_ok, sof_exc, sof_bad, sof_ite, seq_nx, seq_rt, seq_exc, seq_bad, seq_ite, out_nx, out_rt, out_exc, out_ite, nox_ok, truth_bl, dif_true, dif_false, Ck.d, List.map_cons, List.map_nil, List.length_cons, List.length_nil, List.replicate, List.cons_append, List.nil_append, List.append_nil, List.getElem?_cons_zero, List.getElem?_cons_succ, List.set_cons_zero, List.set_cons_succ, Option.map_some, decide_true, decide_false, set2, set_len, asg_nm, asg_tp, asgs_nil, asgs_cons, Option.bind_some, wipeE, b_add, b_sub, k_lt, k_le, k_gt, k_ge, k_eq, k_ne, k_isN, k_isnN, s_lst, s_tup, Bool.and_true, Bool.true_and, if_true, if_false, reduceCtorEq, Nat.reduceAdd, Nat.reduceSub, Nat.reduceLT, Nat.reduceLeDiff, Nat.reduceEqDiff, Bool.and_false, Bool.false_and, Bool.not_true, Bool.not_false, Bool.false_eq_true, okk_bind, okk_ok, okk_nox, okk_out, oks_seq, oks_of, oks_nx, oks_rt, ixc0, ixc1, ixc2, ixc3, nat_c, Int.reduceSub, Int.reduceAdd, Int.reduceEq, Int.reduceLT, Int.reduceLE, Int.reduceMul, Bool.or_false, Bool.false_or, Bool.true_or, Bool.or_true, Bool.or_self, Bool.and_self, List.isEmpty_nil, List.isEmpty_cons, bq1, bq2, bq3, bq4, cond_true, cond_false, eq_self, hl, b_lst hl2]
    exact ⟨trivial, j + 1, _, _, by omega, p2, by rw [U_succ, List.map_append, List.map_map]; rfl⟩
theorem c_loser_of {A B : List (D × Int)} (hA : ∀ q ∈ A, IsC q.1) (hB : ∀ q ∈ B, IsC q.1) {s t : Int} (hd : IsDl s t) : call T (n + 8) 40 [rulesD A, rulesD B, .tup [.int s, .int t]] h = .ok (ousr (losP A B s t)) h := by
  rw [callT hT (show T0 40 = some ir_loser_of from rfl)]
  unfold ir_loser_of
  refine Okk.eq ?_
  (try simp -implicitDefEqProofs only [runD, evSs_nil, evS, evE, evB, evA, evAV, evO, evC, evI, vw, Mini.start, bind_ok, bind_exc, bind_bad, bind_ite, of_somE, of_noneE, sof_ok, sof_exc, sof_bad, sof_ite, seq_nx, seq_rt, seq_exc, seq_bad, seq_ite, out_nx, out_rt, out_exc, out_ite, nox_ok, truth_bl, dif_true, dif_false, Ck.d, List.map_cons, List.map_nil, List.length_cons, List.length_nil, List.replicate, List.cons_append, List.nil_append, List.append_nil, List.getElem?_cons_zero, List.getElem?_cons_succ, List.set_cons_zero, List.set_cons_succ, Option.map_some, decide_true, decide_false, set2, set_len, asg_nm, asg_tp, asgs_nil, asgs_cons, Option.bind_some, wipeE, b_add, b_sub, k_lt, k_le, k_gt, k_ge, k_eq, k_ne, k_isN, k_isnN, s_lst, s_tup, Bool.and_true, Bool.true_and, if_true, if_false, reduceCtorEq, Nat.reduceAdd, Nat.reduceSub, Nat.reduceLT, Nat.reduceLeDiff, Nat.reduceEqDiff, Bool.and_false, Bool.false_and, Bool.not_true, Bool.not_false, Bool.false_eq_true, okk_bind, okk_ok, okk_nox, okk_out, oks_seq, oks_of, oks_nx, oks_rt, ixc0, ixc1, ixc2, ixc3, nat_c, Int.reduceSub, Int.reduceAdd, Int.reduceEq, Int.reduceLT, Int.reduceLE, Int.reduceMul, Bool.or_false, Bool.false_or, Bool.true_or, Bool.or_true, Bool.or_self, Bool.and_self, List.isEmpty_nil, List.isEmpty_cons, bq1, bq2, bq3, bq4, cond_true, cond_false, eq_self])
  rw [evSs_cons]; simp -implicitDefEqProofs only [runD, evSs_nil, evS, evE, evB, evA, evAV, evO, evC, evI, vw, Mini.start, bind_ok, bind_exc, bind_bad, bind_ite, of_somE, of_noneE, sof_ok, sof_exc, sof_bad, sof_ite, seq_nx, seq_rt, seq_exc, seq_bad, seq_ite, out_nx, out_rt, out_exc, out_ite, nox_ok, truth_bl, dif_true, dif_false, Ck.d, List.map_cons, List.map_nil, List.length_cons, List.length_nil, List.replicate, List.cons_append, List.nil_append, List.append_nil, List.getElem?_cons_zero, List.getElem?_cons_succ, List.set_cons_zero, List.set_cons_succ, Option.map_some, decide_true, decide_false, set2, set_len, asg_nm, asg_tp, asgs_nil, asgs_cons, Option.bind_some, wipeE, b_add, b_sub, k_lt, k_le, k_gt, k_ge, k_eq, k_ne, k_isN, k_isnN, s_lst, s_tup, Bool.and_true, Bool.true_and, if_true, if_false, reduceCtorEq, Nat.reduceAdd, Nat.reduceSub, Nat.reduceLT, Nat.reduceLeDiff, Nat.reduceEqDiff, Bool.and_false, Bool.false_and, Bool.not_true, Bool.not_false, Bool.false_eq_true, okk_bind, okk_ok, okk_nox, okk_out, oks_seq, oks_of, oks_nx, oks_rt, ixc0, ixc1, ixc2, ixc3, nat_c, Int.reduceSub, Int.reduceAdd, Int.reduceEq, Int.reduceLT, Int.reduceLE, Int.reduceMul, Bool.or_false, Bool.false_or, Bool.true_or, Bool.or_true, Bool.or_self, Bool.and_self, List.isEmpty_nil, List.isEmpty_cons, bq1, bq2, bq3, bq4, cond_true, cond_false, eq_self, c_users_from hT]
  have fu := fdU_find (losB A B s t) (U 100)
  refine oks_find (fdU (losB A B s t)) (fun ρ => ∃ z, ρ = [some (.val (rulesD A)), some (.val (rulesD B)), some (.val (.tup [.int s, .int t])), z]) (fun y hy ρ hρ => ?_) ⟨_, rfl⟩ ?_ ?_
  · obtain ⟨z, rfl⟩ := hρ
    obtain ⟨⟨u, l, p⟩, hx, rfl⟩ := List.mem_map.mp hy
    have hu := U_ok hx (Nat.le_refl _)
    simp only at hu
    simp -implicitDefEqProofs only [runD, evSs_nil, evS, evE, evB, evA, evAV, evO, evC, evI, vw, Mini.start, bind_ok, bind_exc, bind_bad, bind_ite, of_somE, of_noneE, sof_ok, sof_exc, sof_bad, sof_ite, seq_nx, seq_rt, seq_exc, seq_bad, seq_ite, out_nx, out_rt, out_exc, out_ite, nox_ok, truth_bl, dif_true, dif_false, Ck.d, List.map_cons, List.map_nil, List.length_cons, List.length_nil, List.replicate, List.cons_append, List.nil_append, List.append_nil, List.getElem?_cons_zero, List.getElem?_cons_succ, List.set_cons_zero, List.set_cons_succ, Option.map_some, decide_true, decide_false, set2, set_len, asg_nm, asg_tp, asgs_nil, asgs_cons, Option.bind_some, wipeE, b_add, b_sub, k_lt, k_le, k_gt, k_ge, k_eq, k_ne, k_isN, k_isnN, s_lst, s_tup, Bool.and_true, Bool.true_and, if_true, if_false, reduceCtorEq, Nat.reduceAdd, Nat.reduceSub, Nat.reduceLT, Nat.reduceLeDiff, Nat.reduceEqDiff, Bool.and_false, Bool.false_and, Bool.not_true, Bool.not_false, Bool.false_eq_true, okk_bind, okk_ok, okk_nox, okk_out, oks_seq, oks_of, oks_nx, oks_rt, ixc0, ixc1, ixc2, ixc3, nat_c, Int.reduceSub, Int.reduceAdd, Int.reduceEq, Int.reduceLT, Int.reduceLE, Int.reduceMul, Bool.or_false, Bool.false_or, Bool.true_or, Bool.or_true, Bool.or_self, Bool.and_self, List.isEmpty_nil, List.isEmpty_cons, bq1, bq2, bq3, bq4, cond_true, cond_false, eq_self, usr]
    rw [evSs_cons]; simp -implicitDefEqProofs only [runD, evSs_nil, evS, evE, evB, evA, evAV, evO, evC, evI, vw, Mini.start, bind_ok, bind_exc, bind_bad, bind_ite, of_somE, of_noneE, sof_ok, sof_exc, sof_bad, sof_ite, seq_nx, seq_rt, seq_exc, seq_bad, seq_ite, out_nx, out_rt, out_exc, out_ite, nox_ok, truth_bl, dif_true, dif_false, Ck.d, List.map_cons, List.map_nil, List.length_cons, List.length_nil, List.replicate, List.cons_append, List.nil_append, List.append_nil, List.getElem?_cons_zero, List.getElem?_cons_succ, List.set_cons_zero, List.set_cons_succ, Option.map_some, decide_true, decide_false, set2, set_len, asg_nm, asg_tp, asgs_nil, asgs_cons, Option.bind_some, wipeE, b_add, b_sub, k_lt, k_le, k_gt, k_ge, k_eq, k_ne, k_isN, k_isnN, s_lst, s_tup, Bool.and_true, Bool.true_and, if_true, if_false, reduceCtorEq, Nat.reduceAdd, Nat.reduceSub, Nat.reduceLT, Nat.reduceLeDiff, Nat.reduceEqDiff, Bool.and_false, Bool.false_and, Bool.not_true, Bool.not_false, Bool.false_eq_true, okk_bind, okk_ok, okk_nox, okk_out, oks_seq, oks_of, oks_nx, oks_rt, ixc0, ixc1, ixc2, ixc3, nat_c, Int.reduceSub, Int.reduceAdd, Int.reduceEq, Int.reduceLT, Int.reduceLE, Int.reduceMul, Bool.or_false, Bool.false_or, Bool.true_or, Bool.or_true, Bool.or_self, Bool.and_self, List.isEmpty_nil, List.isEmpty_cons, bq1, bq2, bq3, bq4, cond_true, cond_false, eq_self, c_lets hT (n := n) hA hd hu.u0 hu.u1, c_lets hT (n := n) hB hd hu.u0 hu.u1, fdU, losB, letX]
    cases letB A s t u l p with
    | true =>
      (try simp -implicitDefEqProofs only [runD, evSs_nil, evS, evE, evB, evA, evAV, evO, evC, evI, vw, Mini.start, bind_ok, bind_exc, bind_bad, bind_ite, of_somE, of_noneE, sof_ok, sof_exc, sof_bad, sof_ite, seq_nx, seq_rt, seq_exc, seq_bad, seq_ite, out_nx, out_rt, out_exc, out_ite, nox_ok, truth_bl, dif_true, dif_false, Ck.d, List.map_cons, List.map_nil, List.length_cons, List.length_nil, List.replicate, List.cons_append, List.nil_append, List.append_nil, List.getElem?_cons_zero, List.getElem?_cons_succ, List.set_cons_zero, List.set_cons_succ, Option.map_some, decide_true, decide_false, set2, set_len, asg_nm, asg_tp, asgs_nil, asgs_cons, Option.bind_some, wipeE, b_add, b_sub, k_lt, k_le, k_gt, k_ge, k_eq, k_ne, k_isN, k_isnN, s_lst, s_tup, Bool.and_true, Bool.true_and, if_true, if_false, reduceCtorEq, Nat.reduceAdd, Nat.reduceSub, Nat.reduceLT, Nat.reduceLeDiff, Nat.reduceEqDiff, Bool.and_false, Bool.false_and, Bool.not_true, Bool.not_false, Bool.false_eq_true, okk_bind, okk_ok, okk_nox, okk_out, oks_seq, oks_of, oks_nx, oks_rt, ixc0, ixc1, ixc2, ixc3, nat_c, Int.reduceSub, Int.reduceAdd, Int.reduceEq, Int.reduceLT, Int.reduceLE, Int.reduceMul, Bool.or_false, Bool.false_or, Bool.true_or, Bool.or_true, Bool.or_self, Bool.and_self, List.isEmpty_nil, List.isEmpty_cons, bq1, bq2, bq3, bq4, cond_true, cond_false, eq_self])
      cases letB B s t u l p with
      | true =>
        (try simp -implicitDefEqProofs only [runD, evSs_nil, evS, evE, evB, evA, evAV, evO, evC, evI, vw, Mini.start, bind_ok, bind_exc, bind_bad, bind_ite, of_somE, of_noneE, sof_ok, sof_exc, sof_bad, sof_ite, seq_nx, seq_rt, seq_exc, seq_bad, seq_ite, out_nx, out_rt, out_exc, out_ite, nox_ok, truth_bl, dif_true, dif_false, Ck.d, List.map_cons, List.map_nil, List.length_cons, List.length_nil, List.replicate, List.cons_append, List.nil_append, List.append_nil, List.getElem?_cons_zero, List.getElem?_cons_succ, List.set_cons_zero, List.set_cons_succ, Option.map_some, decide_true, decide_false, set2, set_len, asg_nm, asg_tp, asgs_nil, asgs_cons, Option.bind_some, wipeE, b_add, b_sub, k_lt, k_le, k_gt, k_ge, k_eq, k_ne, k_isN, k_isnN, s_lst, s_tup, Bool.and_true, Bool.true_and, if_true, if_false, reduceCtorEq, Nat.reduceAdd, Nat.reduceSub, Nat.reduceLT, Nat.reduceLeDiff, Nat.reduceEqDiff, Bool.and_false, Bool.false_and, Bool.not_true, Bool.not_false, Bool.false_eq_true, okk_bind, okk_ok, okk_nox, okk_out, oks_seq, oks_of, oks_nx, oks_rt, ixc0, ixc1, ixc2, ixc3, nat_c, Int.reduceSub, Int.reduceAdd, Int.reduceEq, Int.reduceLT, Int.reduceLE, Int.reduceMul, Bool.or_false, Bool.false_or, Bool.true_or, Bool.or_true, Bool.or_self, Bool.and_self, List.isEmpty_nil, List.isEmpty_cons, bq1, bq2, bq3, bq4, cond_true, cond_false, eq_self])
        exact ⟨trivial, trivial, _, rfl⟩
      | false =>
        (try simp -implicitDefEqProofs only [runD, evSs_nil, evS, evE, evB, evA, evAV, evO, evC, evI, vw, Mini.start, bind_ok, bind_exc, bind_bad, bind_ite, of_somE, of_noneE, sof_ok, sof_exc, sof_bad, sof_ite, seq_nx, seq_rt, seq_exc, seq_bad, seq_ite, out_nx, out_rt, out_exc, out_ite, nox_ok, truth_bl, dif_true, dif_false, Ck.d, List.map_cons, List.map_nil, List.length_cons, List.length_nil, List.replicate, List.cons_append, List.nil_append, List.append_nil, List.getElem?_cons_zero, List.getElem?_cons_succ, List.set_cons_zero, List.set_cons_succ, Option.map_some, decide_true, decide_false, set2, set_len, asg_nm, asg_tp, asgs_nil, asgs_cons, Option.bind_some, wipeE, b_add, b_sub, k_lt, k_le, k_gt, k_ge, k_eq, k_ne, k_isN, k_isnN, s_lst, s_tup, Bool.and_true, Bool.true_and, if_true, if_false, reduceCtorEq, Nat.reduceAdd, Nat.reduceSub, Nat.reduceLT, Nat.reduceLeDiff, Nat.reduceEqDiff, Bool.and_false, Bool.false_and, Bool.not_true, Bool.not_false, Bool.false_eq_true, okk_bind, okk_ok, okk_nox, okk_out, oks_seq, oks_of, oks_nx, oks_rt, ixc0, ixc1, ixc2, ixc3, nat_c, Int.reduceSub, Int.reduceAdd, Int.reduceEq, Int.reduceLT, Int.reduceLE, Int.reduceMul, Bool.or_false, Bool.false_or, Bool.true_or, Bool.or_true, Bool.or_self, Bool.and_self, List.isEmpty_nil, List.isEmpty_cons, bq1, bq2, bq3, bq4, cond_true, cond_false, eq_self])
        rw [evSs_cons]; (try simp -implicitDefEqProofs only [runD, evSs_nil, evS, evE, evB, evA, evAV, evO, evC, evI, vw, Mini.start, bind_ok, bind_exc, bind_bad, bind_ite, of_somE, of_noneE, sof_ok, sof_exc, sof_bad, sof_ite, seq_nx, seq_rt, seq_exc, seq_bad, seq_ite, out_nx, out_rt, out_exc, out_ite, nox_ok, truth_bl, dif_true, dif_false, Ck.d, List.map_cons, List.map_nil, List.length_cons, List.length_nil, List.replicate, List.cons_append, List.nil_append, List.append_nil, List.getElem?_cons_zero, List.getElem?_cons_succ, List.set_cons_zero, List.set_cons_succ, Option.map_some, decide_true, decide_false, set2, set_len, asg_nm, asg_tp, asgs_nil, asgs_cons, Option.bind_some, wipeE, b_add, b_sub, k_lt, k_le, k_gt, k_ge, k_eq, k_ne, k_isN, k_isnN, s_lst, s_tup, Bool.and_true, Bool.true_and, if_true, if_false, reduceCtorEq, Nat.reduceAdd, Nat.reduceSub, Nat.reduceLT, Nat.reduceLeDiff, Nat.reduceEqDiff, Bool.and_false, Bool.false_and, Bool.not_true, Bool.not_false, Bool.false_eq_true, okk_bind, okk_ok, okk_nox, okk_out, oks_seq, oks_of, oks_nx, oks_rt, ixc0, ixc1, ixc2, ixc3, nat_c, Int.reduceSub, Int.reduceAdd, Int.reduceEq, Int.reduceLT, Int.reduceLE, Int.reduceMul, Bool.or_false, Bool.false_or, Bool.true_or, Bool.or_true, Bool.or_self, Bool.and_self, List.isEmpty_nil, List.isEmpty_cons, bq1, bq2, bq3, bq4, cond_true, cond_false, eq_self])
        exact ⟨trivial, trivial⟩
    | false =>
      (try simp -implicitDefEqProofs only [runD, evSs_nil, evS, evE, evB, evA, evAV, evO, evC, evI, vw, Mini.start, bind_ok, bind_exc, bind_bad, bind_ite, of_somE, of_noneE, sof_ok, sof_exc, sof_bad, sof_ite, seq_nx, seq_rt, seq_exc, seq_bad, seq_ite, out_nx, out_rt, out_exc, out_ite, nox_ok, truth_bl, dif_true, dif_false, Ck.d, List.map_cons, List.map_nil, List.length_cons, List.length_nil, List.replicate, List.cons_append, List.nil_append, List.append_nil, List.getElem?_cons_zero, List.getElem?_cons_succ, List.set_cons_zero, List.set_cons_succ, Option.map_some, decide_true, decide_false, set2, set_len, asg_nm, asg_tp, asgs_nil, asgs_cons, Option.bind_some, wipeE, b_add, b_sub, k_lt, k_le, k_gt, k_ge, k_eq, k_ne, k_isN, k_isnN, s_lst, s_tup, Bool.and_true, Bool.true_and, if_true, if_false, reduceCtorEq, Nat.reduceAdd, Nat.reduceSub, Nat.reduceLT, Nat.reduceLeDiff, Nat.reduceEqDiff, Bool.and_false, Bool.false_and, Bool.not_true, Bool.not_false, Bool.false_eq_true, okk_bind, okk_ok, okk_nox, okk_out, oks_seq, oks_of, oks_nx, oks_rt, ixc0, ixc1, ixc2, ixc3, nat_c, Int.reduceSub, Int.reduceAdd, Int.reduceEq, Int.reduceLT, Int.reduceLE, Int.reduceMul, Bool.or_false, Bool.false_or, Bool.true_or, Bool.or_true, Bool.or_self, Bool.and_self, List.isEmpty_nil, List.isEmpty_cons, bq1, bq2, bq3, bq4, cond_true, cond_false, eq_self])
      exact ⟨trivial, trivial, _, rfl⟩
  · intro d hd
    rw [fu] at hd
    obtain ⟨x, hx, rfl⟩ := Option.map_eq_some_iff.mp hd
    exact ⟨by rw [losP, hx]; rfl, rfl⟩
  · intro hd ρ hρ
    obtain ⟨z, rfl⟩ := hρ
    rw [fu] at hd
    have : losP A B s t = none := Option.map_eq_none_iff.mp hd
    rw [this]
    rw [evSs_cons]; (try simp -implicitDefEqProofs only [runD, evSs_nil, evS, evE, evB, evA, evAV, evO, evC, evI, vw, Mini.start, bind_ok, bind_exc, bind_bad, bind_ite, of_somE, of_noneE, sof_ok, sof_exc, sof_bad, sof_ite, seq_nx, seq_rt, seq_exc, seq_bad, seq_ite, out_nx, out_rt, out_exc, out_ite, nox_ok, truth_bl, dif_true, dif_false, Ck.d, List.map_cons, List.map_nil, List.length_cons, List.length_nil, List.replicate, List.cons_append, List.nil_append, List.append_nil, List.getElem?_cons_zero, List.getElem?_cons_succ, List.set_cons_zero, List.set_cons_succ, Option.map_some, decide_true, decide_false, set2, set_len, asg_nm, asg_tp, asgs_nil, asgs_cons, Option.bind_some, wipeE, b_add, b_sub, k_lt, k_le, k_gt, k_ge, k_eq, k_ne, k_isN, k_isnN, s_lst, s_tup, Bool.and_true, Bool.true_and, if_true, if_false, reduceCtorEq, Nat.reduceAdd, Nat.reduceSub, Nat.reduceLT, Nat.reduceLeDiff, Nat.reduceEqDiff, Bool.and_false, Bool.false_and, Bool.not_true, Bool.not_false, Bool.false_eq_true, okk_bind, okk_ok, okk_nox, okk_out, oks_seq, oks_of, oks_nx, oks_rt, ixc0, ixc1, ixc2, ixc3, nat_c, Int.reduceSub, Int.reduceAdd, Int.reduceEq, Int.reduceLT, Int.reduceLE, Int.reduceMul, Bool.or_false, Bool.false_or, Bool.true_or, Bool.or_true, Bool.or_self, Bool.and_self, List.isEmpty_nil, List.isEmpty_cons, bq1, bq2, bq3, bq4, cond_true, cond_false, eq_self])
    exact ⟨rfl, trivial⟩
/-- who loses, and when -/
def losF (s t : Int) (p : (Int × List (D × Int)) × (Int × List (D × Int))) : Option (Int × Us) := (losP p.1.2 p.2.2 s t).map fun x => (p.2.1, x)
def lostC (C : Co) (s t : Int) : Option (Int × Us) := (C.zip (C.drop 1)).findSome? (losF s t)
def olost : Option (Int × Us) → D
  | some (d, x) => .tup [.int d, usr x]
  | none => .non
theorem c_lost {C : Co} (hC : IsCo C) {s t : Int} (hd : IsDl s t) : call T (n + 14) 54 [courseD C, .tup [.int s, .int t]] h = .ok (olost (lostC C s t)) h := by
  rw [callT hT (show T0 54 = some ir_lost from rfl)]
  unfold ir_lost
  refine Okk.eq ?_
  (try simp -implicitDefEqProofs only [runD, evSs_nil, evS, evE, evB, evA, evAV, evO, evC, evI, vw, Mini.start, bind_ok, bind_exc, bind_bad, bind_ite, of_somE, of_noneE, sof_ok, sof_exc, sof_bad, sof_ite, seq_nx, seq_rt, seq_exc, seq_bad, seq_ite, out_nx, out_rt, out_exc, out_ite, nox_ok, truth_bl, dif_true, dif_false, Ck.d, List.map_cons, List.map_nil, List.length_cons, List.length_nil, List.replicate, List.cons_append, List.nil_append, List.append_nil, List.getElem?_cons_zero, List.getElem?_cons_succ, List.set_cons_zero, List.set_cons_succ, Option.map_some, decide_true, decide_false, set2, set_len, asg_nm, asg_tp, asgs_nil, asgs_cons, Option.bind_some, wipeE, b_add, b_sub, k_lt, k_le, k_gt, k_ge, k_eq, k_ne, k_isN, k_isnN, s_lst, s_tup, Bool.and_true, Bool.true_and, if_true, if_false, reduceCtorEq, Nat.reduceAdd, Nat.reduceSub, Nat.reduceLT, Nat.reduceLeDiff, Nat.reduceEqDiff, Bool.and_false, Bool.false_and, Bool.not_true, Bool.not_false, Bool.false_eq_true, okk_bind, okk_ok, okk_nox, okk_out, oks_seq, oks_of, oks_nx, oks_rt, ixc0, ixc1, ixc2, ixc3, nat_c, Int.reduceSub, Int.reduceAdd, Int.reduceEq, Int.reduceLT, Int.reduceLE, Int.reduceMul, Bool.or_false, Bool.false_or, Bool.true_or, Bool.or_true, Bool.or_self, Bool.and_self, List.isEmpty_nil, List.isEmpty_cons, bq1, bq2, bq3, bq4, cond_true, cond_false, eq_self])
  rw [evSs_cons]; simp -implicitDefEqProofs only [runD, evSs_nil, evS, evE, evB, evA, evAV, evO, evC, evI, vw, Mini.start, bind_ok, bind_exc, bind_bad, bind_ite, of_somE, of_noneE, sof_ok, sof_exc, sof_bad, sof_ite, seq_nx, seq_rt, seq_exc, seq_bad, seq_ite, out_nx, out_rt, out_exc, out_ite, nox_ok, truth_bl, dif_true, dif_false, Ck.d, List.map_cons, List.map_nil, List.length_cons, List.length_nil, List.replicate, List.cons_append, List.nil_append, List.append_nil, List.getElem?_cons_zero, List.getElem?_cons_succ, List.set_cons_zero, List.set_cons_succ, Option.map_some, decide_true, decide_false, set2, set_len, asg_nm, asg_tp, asgs_nil, asgs_cons, Option.bind_some, wipeE, b_add, b_sub, k_lt, k_le, k_gt, k_ge, k_eq, k_ne, k_isN, k_isnN, s_lst, s_tup, Bool.and_true, Bool.true_and, if_true, if_false, reduceCtorEq, Nat.reduceAdd, Nat.reduceSub, Nat.reduceLT, Nat.reduceLeDiff, Nat.reduceEqDiff, Bool.and_false, Bool.false_and, Bool.not_true, Bool.not_false, Bool.false_eq_true, okk_bind, okk_ok, okk_nox, okk_out, oks_seq, oks_of, oks_nx, oks_rt, ixc0, ixc1, ixc2, ixc3, nat_c, Int.reduceSub, Int.reduceAdd, Int.reduceEq, Int.reduceLT, Int.reduceLE, Int.reduceMul, Bool.or_false, Bool.false_or, Bool.true_or, Bool.or_true, Bool.or_self, Bool.and_self, List.isEmpty_nil, List.isEmpty_cons, bq1, bq2, bq3, bq4, cond_true, cond_false, eq_self, c_need_course hT hC]
  rw [evSs_cons]; simp -implicitDefEqProofs only [runD, evSs_nil, evS, evE, evB, evA, evAV, evO, evC, evI, vw, Mini.start, bind_ok, bind_exc, bind_bad, bind_ite, of_somE, of_noneE, sof_ok, sof_exc, sof_bad, sof_ite, seq_nx, seq_rt, seq_exc, seq_bad, seq_ite, out_nx, out_rt, out_exc, out_ite, nox_ok, truth_bl, dif_true, dif_false, Ck.d, List.map_cons, List.map_nil, List.length_cons, List.length_nil, List.replicate, List.cons_append, List.nil_append, List.append_nil, List.getElem?_cons_zero, List.getElem?_cons_succ, List.set_cons_zero, List.set_cons_succ, Option.map_some, decide_true, decide_false, set2, set_len, asg_nm, asg_tp, asgs_nil, asgs_cons, Option.bind_some, wipeE, b_add, b_sub, k_lt, k_le, k_gt, k_ge, k_eq, k_ne, k_isN, k_isnN, s_lst, s_tup, Bool.and_true, Bool.true_and, if_true, if_false, reduceCtorEq, Nat.reduceAdd, Nat.reduceSub, Nat.reduceLT, Nat.reduceLeDiff, Nat.reduceEqDiff, Bool.and_false, Bool.false_and, Bool.not_true, Bool.not_false, Bool.false_eq_true, okk_bind, okk_ok, okk_nox, okk_out, oks_seq, oks_of, oks_nx, oks_rt, ixc0, ixc1, ixc2, ixc3, nat_c, Int.reduceSub, Int.reduceAdd, Int.reduceEq, Int.reduceLT, Int.reduceLE, Int.reduceMul, Bool.or_false, Bool.false_or, Bool.true_or, Bool.or_true, Bool.or_self, Bool.and_self, List.isEmpty_nil, List.isEmpty_cons, bq1, bq2, bq3, bq4, cond_true, cond_false, eq_self, c_need_deal hT hd]
  rw [evSs_cons]; simp -implicitDefEqProofs only [runD, evSs_nil, evS, evE, evB, evA, evAV, evO, evC, evI, vw, Mini.start, bind_ok, bind_exc, bind_bad, bind_ite, of_somE, of_noneE, sof_ok, sof_exc, sof_bad, sof_ite, seq_nx, seq_rt, seq_exc, seq_bad, seq_ite, out_nx, out_rt, out_exc, out_ite, nox_ok, truth_bl, dif_true, dif_false, Ck.d, List.map_cons, List.map_nil, List.length_cons, List.length_nil, List.replicate, List.cons_append, List.nil_append, List.append_nil, List.getElem?_cons_zero, List.getElem?_cons_succ, List.set_cons_zero, List.set_cons_succ, Option.map_some, decide_true, decide_false, set2, set_len, asg_nm, asg_tp, asgs_nil, asgs_cons, Option.bind_some, wipeE, b_add, b_sub, k_lt, k_le, k_gt, k_ge, k_eq, k_ne, k_isN, k_isnN, s_lst, s_tup, Bool.and_true, Bool.true_and, if_true, if_false, reduceCtorEq, Nat.reduceAdd, Nat.reduceSub, Nat.reduceLT, Nat.reduceLeDiff, Nat.reduceEqDiff, Bool.and_false, Bool.false_and, Bool.not_true, Bool.not_false, Bool.false_eq_true, okk_bind, okk_ok, okk_nox, okk_out, oks_seq, oks_of, oks_nx, oks_rt, ixc0, ixc1, ixc2, ixc3, nat_c, Int.reduceSub, Int.reduceAdd, Int.reduceEq, Int.reduceLT, Int.reduceLE, Int.reduceMul, Bool.or_false, Bool.false_or, Bool.true_or, Bool.or_true, Bool.or_self, Bool.and_self, List.isEmpty_nil, List.isEmpty_cons, bq1, bq2, bq3, bq4, cond_true, cond_false, eq_self, slD, cut_tail']
  have ez : ((C.map coD).zip ((C.map coD).drop 1)).map (fun p => D.tup [p.1, p.2]) = (C.zip (C.drop 1)).map fun p => D.tup [coD p.1, coD p.2] := by
    rw [← List.map_drop, List.zip_map, List.map_map]
    rfl
  have hz : ∀ p ∈ C.zip (C.drop 1), IsR p.1.2 ∧ IsR p.2.2 := fun p hp => by
    have := adj hC.up p hp
    exact ⟨hC.r _ this.2.1, hC.r _ this.2.2⟩
  rw [ez]
  unfold lostC
  generalize C.zip (C.drop 1) = Z at *
  refine forL_by (fun rest ρ h' => h' = h ∧ ∃ A B z2 z3 z4 z5 z6, Z = A ++ B ∧ rest = B.map (fun p => D.tup [coD p.1, coD p.2]) ∧ Z.findSome? (losF s t) = B.findSome? (losF s t) ∧ ρ = [some (.val (courseD C)), some (.val (.tup [.int s, .int t])), z2, z3, z4, z5, z6]) (fun ρ h' pp => ?_) (fun x rest ρ h' pp => ?_) ⟨rfl, [], Z, none, none, none, none, none, rfl, rfl, rfl, rfl⟩
  · obtain ⟨rfl, A, B, z2, z3, z4, z5, z6, eC, e2, e3, rfl⟩ := pp
    have : B = [] := List.map_eq_nil_iff.mp e2.symm
    subst this
    rw [e3]
    rw [evSs_cons]; (try simp -implicitDefEqProofs only [runD, evSs_nil, evS, evE, evB, evA, evAV, evO, evC, evI, vw, Mini.start, bind_ok, bind_exc, bind_bad, bind_ite, of_somE, of_noneE, sof_ok, sof_exc, sof_bad, sof_ite, seq_nx, seq_rt, seq_exc, seq_bad, seq_ite, out_nx, out_rt, out_exc, out_ite, nox_ok, truth_bl, dif_true, dif_false, Ck.d, List.map_cons, List.map_nil, List.length_cons, List.length_nil, List.replicate, List.cons_append, List.nil_append, List.append_nil, List.getElem?_cons_zero, List.getElem?_cons_succ, List.set_cons_zero, List.set_cons_succ, Option.map_some, decide_true, decide_false, set2, set_len, asg_nm, asg_tp, asgs_nil, asgs_cons, Option.bind_some, wipeE, b_add, b_sub, k_lt, k_le, k_gt, k_ge, k_eq, k_ne, k_isN, k_isnN, s_lst, s_tup, Bool.and_true, Bool.true_and, if_true, if_false, reduceCtorEq, Nat.reduceAdd, Nat.reduceSub, Nat.reduceLT, Nat.reduceLeDiff, Nat.reduceEqDiff, Bool.and_false, Bool.false_and, Bool.not_true, Bool.not_false, Bool.false_eq_true, okk_bind, okk_ok, okk_nox, okk_out, oks_seq, oks_of, oks_nx, oks_rt, ixc0, ixc1, ixc2, ixc3, nat_c, Int.reduceSub, Int.reduceAdd, Int.reduceEq, Int.reduceLT, Int.reduceLE, Int.reduceMul, Bool.or_false, Bool.false_or, Bool.true_or, Bool.or_true, Bool.or_self, Bool.and_self, List.isEmpty_nil, List.isEmpty_cons, bq1, bq2, bq3, bq4, cond_true, cond_false, eq_self])
    exact ⟨rfl, trivial⟩
  · obtain ⟨rfl, A, B, z2, z3, z4, z5, z6, eC, e2, e3, rfl⟩ := pp
    match B, e2, eC, e3 with
    | ((a, L), (b, M)) :: B, e2, eC, e3 =>
      rw [List.map_cons, List.cons.injEq] at e2
      obtain ⟨rfl, rfl⟩ := e2
      obtain ⟨hL, hM⟩ := hz ((a, L), (b, M)) (by rw [eC]; simp)
      rw [List.findSome?_cons] at e3
      have ef : losF s t ((a, L), (b, M)) = (losP L M s t).map fun x => (b, x) := rfl
      rw [ef] at e3
      simp -implicitDefEqProofs only [runD, evSs_nil, evS, evE, evB, evA, evAV, evO, evC, evI, vw, Mini.start, bind_ok, bind_exc, bind_bad, bind_ite, of_somE, of_noneE, sof_ok, sof_exc, sof_bad, sof_ite, seq_nx, seq_rt, seq_exc, seq_bad, seq_ite, out_nx, out_rt, out_exc, out_ite, nox_ok, truth_bl, dif_true, dif_false, Ck.d, List.map_cons, List.map_nil, List.length_cons, List.length_nil, List.replicate, List.cons_append, List.nil_append, List.append_nil, List.getElem?_cons_zero, List.getElem?_cons_succ, List.set_cons_zero, List.set_cons_succ, Option.map_some, decide_true, decide_false, set2, set_len, asg_nm, asg_tp, asgs_nil, asgs_cons, Option.bind_some, wipeE, b_add, b_sub, k_lt, k_le, k_gt, k_ge, k_eq, k_ne, k_isN, k_isnN, s_lst, s_tup, Bool.and_true, Bool.true_and, if_true, if_false, reduceCtorEq, Nat.reduceAdd, Nat.reduceSub, Nat.reduceLT, Nat.reduceLeDiff, Nat.reduceEqDiff, Bool.and_false, Bool.false_and, Bool.not_true, Bool.not_false, Bool.false_eq_true, okk_bind, okk_ok, okk_nox, okk_out, oks_seq, oks_of, oks_nx, oks_rt, ixc0, ixc1, ixc2, ixc3, nat_c, Int.reduceSub, Int.reduceAdd, Int.reduceEq, Int.reduceLT, Int.reduceLE, Int.reduceMul, Bool.or_false, Bool.false_or, Bool.true_or, Bool.or_true, Bool.or_self, Bool.and_self, List.isEmpty_nil, List.isEmpty_cons, bq1, bq2, bq3, bq4, cond_true, cond_false, eq_self, coD]
      rw [evSs_cons]; simp -implicitDefEqProofs only [runD, evSs_nil, evS, evE, evB, evA, evAV, evO, evC, evI, vw, Mini.start, bind_ok, bind_exc, bind_bad, bind_ite, of_somE, of_noneE, sof_ok, sof_exc, sof_bad, sof_ite, seq_nx, seq_rt, seq_exc, seq_bad, seq_ite, out_nx, out_rt, out_exc, out_ite, nox_ok, truth_bl, dif_true, dif_false, Ck.d, List.map_cons, List.map_nil, List.length_cons, List.length_nil, List.replicate, List.cons_append, List.nil_append, List.append_nil, List.getElem?_cons_zero, List.getElem?_cons_succ, List.set_cons_zero, List.set_cons_succ, Option.map_some, decide_true, decide_false, set2, set_len, asg_nm, asg_tp, asgs_nil, asgs_cons, Option.bind_some, wipeE, b_add, b_sub, k_lt, k_le, k_gt, k_ge, k_eq, k_ne, k_isN, k_isnN, s_lst, s_tup, Bool.and_true, Bool.true_and, if_true, if_false, reduceCtorEq, Nat.reduceAdd, Nat.reduceSub, Nat.reduceLT, Nat.reduceLeDiff, Nat.reduceEqDiff, Bool.and_false, Bool.false_and, Bool.not_true, Bool.not_false, Bool.false_eq_true, okk_bind, okk_ok, okk_nox, okk_out, oks_seq, oks_of, oks_nx, oks_rt, ixc0, ixc1, ixc2, ixc3, nat_c, Int.reduceSub, Int.reduceAdd, Int.reduceEq, Int.reduceLT, Int.reduceLE, Int.reduceMul, Bool.or_false, Bool.false_or, Bool.true_or, Bool.or_true, Bool.or_self, Bool.and_self, List.isEmpty_nil, List.isEmpty_cons, bq1, bq2, bq3, bq4, cond_true, cond_false, eq_self, c_loser_of hT (n := n + 5) hL.c hM.c hd]
      cases e : losP L M s t with
      | some x =>
        rw [e] at e3
        rw [evSs_cons]; simp -implicitDefEqProofs only [runD, evSs_nil, evS, evE, evB, evA, evAV, evO, evC, evI, vw, Mini.start, bind_ok, bind_exc, bind_bad, bind_ite, of_somE, of_noneE, sof_ok, sof_exc, sof_bad, sof_ite, seq_nx, seq_rt, seq_exc, seq_bad, seq_ite, out_nx, out_rt, out_exc, out_ite, nox_ok, truth_bl, dif_true, dif_false, Ck.d, List.map_cons, List.map_nil, List.length_cons, List.length_nil, List.replicate, List.cons_append, List.nil_append, List.append_nil, List.getElem?_cons_zero, List.getElem?_cons_succ, List.set_cons_zero, List.set_cons_succ, Option.map_some, decide_true, decide_false, set2, set_len, asg_nm, asg_tp, asgs_nil, asgs_cons, Option.bind_some, wipeE, b_add, b_sub, k_lt, k_le, k_gt, k_ge, k_eq, k_ne, k_isN, k_isnN, s_lst, s_tup, Bool.and_true, Bool.true_and, if_true, if_false, reduceCtorEq, Nat.reduceAdd, Nat.reduceSub, Nat.reduceLT, Nat.reduceLeDiff, Nat.reduceEqDiff, Bool.and_false, Bool.false_and, Bool.not_true, Bool.not_false, Bool.false_eq_true, okk_bind, okk_ok, okk_nox, okk_out, oks_seq, oks_of, oks_nx, oks_rt, ixc0, ixc1, ixc2, ixc3, nat_c, Int.reduceSub, Int.reduceAdd, Int.reduceEq, Int.reduceLT, Int.reduceLE, Int.reduceMul, Bool.or_false, Bool.false_or, Bool.true_or, Bool.or_true, Bool.or_self, Bool.and_self, List.isEmpty_nil, List.isEmpty_cons, bq1, bq2, bq3, bq4, cond_true, cond_false, eq_self, ousr, usr]
        rw [evSs_cons]; (try simp -implicitDefEqProofs only [runD, evSs_nil, evS, evE, evB, evA, evAV, evO, evC, evI, vw, Mini.start, bind_ok, bind_exc, bind_bad, bind_ite, of_somE, of_noneE, sof_ok, sof_exc, sof_bad, sof_ite, seq_nx, seq_rt, seq_exc, seq_bad, seq_ite, out_nx, out_rt, out_exc, out_ite, nox_ok, truth_bl, dif_true, dif_false, Ck.d, List.map_cons, List.map_nil, List.length_cons, List.length_nil, List.replicate, List.cons_append, List.nil_append, List.append_nil, List.getElem?_cons_zero, List.getElem?_cons_succ, List.set_cons_zero, List.set_cons_succ, Option.map_some, decide_true, decide_false, set2, set_len, asg_nm, asg_tp, asgs_nil, asgs_cons, Option.bind_some, wipeE, b_add, b_sub, k_lt, k_le, k_gt, k_ge, k_eq, k_ne, k_isN, k_isnN, s_lst, s_tup, Bool.and_true, Bool.true_and, if_true, if_false, reduceCtorEq, Nat.reduceAdd, Nat.reduceSub, Nat.reduceLT, Nat.reduceLeDiff, Nat.reduceEqDiff, Bool.and_false, Bool.false_and, Bool.not_true, Bool.not_false, Bool.false_eq_true, okk_bind, okk_ok, okk_nox, okk_out, oks_seq, oks_of, oks_nx, oks_rt, ixc0, ixc1, ixc2, ixc3, nat_c, Int.reduceSub, Int.reduceAdd, Int.reduceEq, Int.reduceLT, Int.reduceLE, Int.reduceMul, Bool.or_false, Bool.false_or, Bool.true_or, Bool.or_true, Bool.or_self, Bool.and_self, List.isEmpty_nil, List.isEmpty_cons, bq1, bq2, bq3, bq4, cond_true, cond_false, eq_self])
        rw [e3]
        exact ⟨rfl, trivial⟩
      | none =>
        rw [e] at e3
        rw [evSs_cons]; simp -implicitDefEqProofs only [runD, evSs_nil, evS, evE, evB, evA, evAV, evO, evC, evI, vw, Mini.start, bind_ok, bind_exc, bind_bad, bind_ite, of_somE, of_noneE, sof_ok, sof_exc, sof_bad, sof_ite, seq_nx, seq_rt, seq_exc, seq_bad, seq_ite, out_nx, out_rt, out_exc, out_ite, nox_ok, truth_bl, dif_true, dif_false, Ck.d, List.map_cons, List.map_nil, List.length_cons, List.length_nil, List.replicate, List.cons_append, List.nil_append, List.append_nil, List.getElem?_cons_zero, List.getElem?_cons_succ, List.set_cons_zero, List.set_cons_succ, Option.map_some, decide_true, decide_false, set2, set_len, asg_nm, asg_tp, asgs_nil, asgs_cons, Option.bind_some, wipeE, b_add, b_sub, k_lt, k_le, k_gt, k_ge, k_eq, k_ne, k_isN, k_isnN, s_lst, s_tup, Bool.and_true, Bool.true_and, if_true, if_false, reduceCtorEq, Nat.reduceAdd, Nat.reduceSub, Nat.reduceLT, Nat.reduceLeDiff, Nat.reduceEqDiff, Bool.and_false, Bool.false_and, Bool.not_true, Bool.not_false, Bool.false_eq_true, okk_bind, okk_ok, okk_nox, okk_out, oks_seq, oks_of, oks_nx, oks_rt, ixc0, ixc1, ixc2, ixc3, nat_c, Int.reduceSub, Int.reduceAdd, Int.reduceEq, Int.reduceLT, Int.reduceLE, Int.reduceMul, Bool.or_false, Bool.false_or, Bool.true_or, Bool.or_true, Bool.or_self, Bool.and_self, List.isEmpty_nil, List.isEmpty_cons, bq1, bq2, bq3, bq4, cond_true, cond_false, eq_self, ousr]
        exact ⟨trivial, A ++ [((a, L), (b, M))], B, _, _, _, _, _, by rw [eC]; simp, rfl, e3, rfl⟩
end
end Mini

namespace Row_k61
open PySem PySem.Spec PyProof.Rows L2 Mini
def ir_law : Df := ⟨1, 15, (.cons (.forr (.nm 1) (.seq (.call 10 (.cons (.var 0) (.cons (.k (.int 2)) .nil)))) (.cons (.set 2 (.cmp .Eq (.call 9 (.cons (.var 1) (.cons (.k (.int 2)) .nil))) (.k (.int 0)))) (.cons (.unp (.tp [(.nm 7), (.nm 8)]) (.tup (.cons (.call 52 (.cons (.var 1) (.cons (.var 2) .nil))) (.cons (.call 11 (.cons (.var 1) .nil)) .nil)))) (.cons (.set 3 (.k .non)) (.cons (.forr (.nm 4) (.rng2 (.k (.int 1)) (.bi .len (.cons (.var 7) .nil))) (.cons (.unp (.tp [(.nm 13), (.nm 14)]) (.tup (.cons (.ix (.ix (.var 7) (.bin .Sub (.var 4) (.k (.int 1)))) (.k (.int 1))) (.cons (.ix (.ix (.var 7) (.var 4)) (.k (.int 1))) .nil)))) (.cons (.set 9 (.comp [("_law_user_here", 10)] (.nm 10) (.seq (.call 42 (.cons (.k (.int 0)) (.cons (.k (.int 99)) .nil)))) (.yes (.boo .And (.cons (.call 34 (.cons (.var 13) (.cons (.var 8) (.cons (.var 10) .nil)))) (.cons (.not (.call 34 (.cons (.var 14) (.cons (.var 8) (.cons (.var 10) .nil))))) .nil)))) (.var 10))) (.cons (.ife (.boo .And (.cons (.cmp .Is (.var 3) (.k .non)) (.cons (.cmp .NotEq (.var 9) (.lst .nil)) .nil))) (.cons (.set 3 (.tup (.cons (.ix (.ix (.var 7) (.var 4)) (.k (.int 0))) (.cons (.ix (.var 9) (.k (.int 0))) .nil)))) .nil) .nil) .nil)))) (.cons (.set 5 (.call 54 (.cons (.var 7) (.cons (.var 8) .nil)))) (.cons (.ife (.boo .Or (.cons (.cmp .NotEq (.var 5) (.var 3)) (.cons (.boo .And (.cons (.var 2) (.cons (.cmp .IsNot (.var 5) (.k .non)) .nil))) .nil))) (.cons (.ret (.k (.bl false))) .nil) .nil) (.cons (.forr (.nm 6) (.rng1 (.k (.int 6))) (.cons (.set 10 (.call 12 (.cons (.var 1) .nil))) (.cons (.set 11 (.call 51 (.cons (.var 7) (.cons (.var 8) (.cons (.var 10) .nil))))) (.cons (.set 12 (.bin .Add (.ix (.ix (.var 7) (.neg (.k (.int 1)))) (.k (.int 0))) (.call 9 (.cons (.var 1) (.cons (.k (.int 50)) .nil))))) (.cons (.ife (.boo .And (.cons (.cmp .Is (.var 5) (.k .non)) (.cons (.cmp .IsNot (.var 11) (.k .non)) (.cons (.not (.call 31 (.cons (.call 50 (.cons (.var 7) (.cons (.var 12) .nil))) (.cons (.var 8) (.cons (.var 10) .nil))))) .nil)))) (.cons (.ret (.k (.bl false))) .nil) .nil) (.cons (.ife (.boo .And (.cons (.cmp .IsNot (.var 5) (.k .non)) (.cons (.call 31 (.cons (.call 50 (.cons (.var 7) (.cons (.ix (.var 5) (.k (.int 0))) .nil))) (.cons (.var 8) (.cons (.ix (.var 5) (.k (.int 1))) .nil)))) .nil))) (.cons (.ret (.k (.bl false))) .nil) .nil) .nil)))))) .nil)))))))) (.cons (.ret (.k (.bl true))) .nil))⟩
def T (g : Nat) : Option Df := if g = 0 then some ir_law else T0 g
theorem ext : Exts T := fun g f e => by
  unfold T
  split
  · rename_i h
    subst h
    cases e
  · exact e
theorem call0 {n : Nat} {ds : List D} {h : Hd} : Mini.call T (n + 1) 0 ds h = runD (Mini.call T n) ir_law ds h := rfl
end Row_k61

namespace Row_k61
open PySem PySem.Spec L2 Mini
theorem chain_last {α : Type} {f : α → Bool} : ∀ {C : List α}, (∀ z ∈ C.zip (C.drop 1), f z.1 = true → f z.2 = true) → ∀ q ∈ C, f q = true → ∀ l, C.getLast? = some l → f l = true
  | [], _, q, hq, _, _, _ => by simp at hq
  | [x], _, q, hq, h, l, e => by
    simp at hq e
    subst hq
    subst e
    exact h
  | x :: y :: r, hz, q, hq, h, l, e => by
    rw [List.getLast?_cons_cons] at e
    have hz2 : ∀ z ∈ (y :: r).zip ((y :: r).drop 1), f z.1 = true → f z.2 = true := fun z m => hz z (by simp at m ⊢; exact .inr m)
    rcases List.mem_cons.mp hq with rfl | hq
    · exact chain_last hz2 y List.mem_cons_self (hz (q, y) (by simp) h) l e
    · exact chain_last hz2 q hq h l e
theorem plc_mod (u s t : Int) : plc (u % 100) s t = plc u s t := by
  unfold plc
  rw [Int.add_emod, Int.mul_emod, Int.emod_emod_of_dvd u (by decide : (100 : Int) ∣ 100), ← Int.mul_emod, ← Int.add_emod]
theorem los_none {A B : List (D × Int)} {s t u l p : Int} (h : losP A B s t = none) (hu : IsU u l p) (hA : letB A s t u l p = true) : letB B s t u l p = true := by
  have hm : (u % 100, l, p) ∈ U 100 := U_mem.mpr ⟨by simp only; omega, by simp only; omega, K24_mem ⟨hu.l0, hu.l1, hu.p0, hu.p1⟩⟩
  have := List.find?_eq_none.mp h _ hm
  unfold losB letX letB at this
  unfold letB at hA ⊢
  simp only [plc_mod] at this
  rw [hA] at this
  simpa using this
theorem los_some {A B : List (D × Int)} {s t : Int} {x : Us} (h : losP A B s t = some x) : x ∈ U 100 ∧ letB B s t x.1 x.2.1 x.2.2 = false := by
  refine ⟨List.mem_of_find?_eq_some h, ?_⟩
  have := List.find?_some h
  unfold losB letX at this
  rw [Bool.and_eq_true] at this
  simpa using this.2
theorem los_le {A B : List (D × Int)} (h : Le A B) (s t : Int) : losP A B s t = none := by
  refine List.find?_eq_none.mpr fun x hx z => ?_
  have hu := U_ok hx (Nat.le_refl _)
  unfold losB letX letB at z
  rw [Bool.and_eq_true] at z
  have z1 := of_decide_eq_true z.1
  have z2 : ¬ (plc x.1 s t < shareL x.2.1 x.2.2 B) := by simpa using z.2
  have := h x.2.1 x.2.2 hu.p0 hu.p1
  omega
theorem ends2 {C : Co} (hC : IsCo C) : ∃ A ql, C = A ++ [ql] ∧ ∀ h : Hd, ixD h (courseD C) (.int (-1)) = some (coD ql) := by
  rcases List.eq_nil_or_concat C with rfl | ⟨A, ql, e⟩
  · have := hC.l0
    simp at this
  · rw [List.concat_eq_append] at e
    refine ⟨A, ql, e, fun h => ?_⟩
    rw [e]
    show ixD h (.tup ((A ++ [ql]).map coD)) _ = _
    rw [List.map_append]
    exact x_lastT _ _
theorem ne_olost (o : Option (Int × Us)) : cmpD .NotEq (olost o) (olost o) = some false := by
  cases o with
  | none => exact ne_self rfl (Nat.zero_le _)
  | some x => exact ne_self rfl (show 2 ≤ 60 by decide)
theorem main (ns : List Int) (hl : ns.length ≤ 63) (hb : ∀ z ∈ ns, PySem.Builtin.Int.intBits z ≤ 1048576) : ∃ h', Mini.call T 40 0 [.lst (ns.map .int)] [] = .ok (.bl true) h' := by
  have hs : Scr ns := ⟨hl, fun z hz => natAbs_of_bits (hb z hz)⟩
  rw [call0]
  unfold ir_law
  refine law_by ext hs 2 (by decide) (by decide) fun i h c ρ hi hc hρ e0 e1 => ?_
  match ρ, hρ, e0, e1 with
  | [s0, s1, s2, s3, s4, s5, s6, s7, s8, s9, s10, s11, s12, s13, s14], _, e0, e1 =>
    cases e0
    cases e1
    have d0 : Dc 1000000 c 0 := ⟨hc, by decide, by decide⟩
    (try simp -implicitDefEqProofs only [runD, evSs_nil, evS, evE, evB, evA, evAV, evO, evC, evI, vw, Mini.start, bind_ok, bind_exc, bind_bad, bind_ite, of_somE, of_noneE, sof_ok, sof_exc, sof_bad, sof_ite, seq_nx, seq_rt, seq_exc, seq_bad, seq_ite, out_nx, out_rt, out_exc, out_ite, nox_ok, truth_bl, dif_true, dif_false, Ck.d, List.map_cons, List.map_nil, List.length_cons, List.length_nil, List.replicate, List.cons_append, List.nil_append, List.append_nil, List.getElem?_cons_zero, List.getElem?_cons_succ, List.set_cons_zero, List.set_cons_succ, Option.map_some, decide_true, decide_false, set2, set_len, asg_nm, asg_tp, asgs_nil, asgs_cons, Option.bind_some, wipeE, b_add, b_sub, k_lt, k_le, k_gt, k_ge, k_eq, k_ne, k_isN, k_isnN, s_lst, s_tup, Bool.and_true, Bool.true_and, if_true, if_false, reduceCtorEq, Nat.reduceAdd, Nat.reduceSub, Nat.reduceLT, Nat.reduceLeDiff, Nat.reduceEqDiff, Bool.and_false, Bool.false_and, Bool.not_true, Bool.not_false, Bool.false_eq_true, okk_bind, okk_ok, okk_nox, okk_out, oks_seq, oks_of, oks_nx, oks_rt, ixc0, ixc1, ixc2, ixc3, nat_c, Int.reduceSub, Int.reduceAdd, Int.reduceEq, Int.reduceLT, Int.reduceLE, Int.reduceMul, Bool.or_false, Bool.false_or, Bool.true_or, Bool.or_true, Bool.or_self, Bool.and_self, List.isEmpty_nil, List.isEmpty_cons, bq1, bq2, bq3, bq4, cond_true, cond_false, eq_self])
    rw [evSs_cons]; (try simp -implicitDefEqProofs only [runD, evSs_nil, evS, evE, evB, evA, evAV, evO, evC, evI, vw, Mini.start, bind_ok, bind_exc, bind_bad, bind_ite, of_somE, of_noneE, sof_ok, sof_exc, sof_bad, sof_ite, seq_nx, seq_rt, seq_exc, seq_bad, seq_ite, out_nx, out_rt, out_exc, out_ite, nox_ok, truth_bl, dif_true, dif_false, Ck.d, List.map_cons, List.map_nil, List.length_cons, List.length_nil, List.replicate, List.cons_append, List.nil_append, List.append_nil, List.getElem?_cons_zero, List.getElem?_cons_succ, List.set_cons_zero, List.set_cons_succ, Option.map_some, decide_true, decide_false, set2, set_len, asg_nm, asg_tp, asgs_nil, asgs_cons, Option.bind_some, wipeE, b_add, b_sub, k_lt, k_le, k_gt, k_ge, k_eq, k_ne, k_isN, k_isnN, s_lst, s_tup, Bool.and_true, Bool.true_and, if_true, if_false, reduceCtorEq, Nat.reduceAdd, Nat.reduceSub, Nat.reduceLT, Nat.reduceLeDiff, Nat.reduceEqDiff, Bool.and_false, Bool.false_and, Bool.not_true, Bool.not_false, Bool.false_eq_true, okk_bind, okk_ok, okk_nox, okk_out, oks_seq, oks_of, oks_nx, oks_rt, ixc0, ixc1, ixc2, ixc3, nat_c, Int.reduceSub, Int.reduceAdd, Int.reduceEq, Int.reduceLT, Int.reduceLE, Int.reduceMul, Bool.or_false, Bool.false_or, Bool.true_or, Bool.or_true, Bool.or_self, Bool.and_self, List.isEmpty_nil, List.isEmpty_cons, bq1, bq2, bq3, bq4, cond_true, cond_false, eq_self])
    refine (c_rollK ext (n := 37) 900000 hi (d0.less (by decide)) (by decide) (by decide) (by decide)).mono fun d h' q => ?_
    obtain ⟨a0, b0, rfl, d00, x, rfl, x0, x1⟩ := q
    (try simp -implicitDefEqProofs only [runD, evSs_nil, evS, evE, evB, evA, evAV, evO, evC, evI, vw, Mini.start, bind_ok, bind_exc, bind_bad, bind_ite, of_somE, of_noneE, sof_ok, sof_exc, sof_bad, sof_ite, seq_nx, seq_rt, seq_exc, seq_bad, seq_ite, out_nx, out_rt, out_exc, out_ite, nox_ok, truth_bl, dif_true, dif_false, Ck.d, List.map_cons, List.map_nil, List.length_cons, List.length_nil, List.replicate, List.cons_append, List.nil_append, List.append_nil, List.getElem?_cons_zero, List.getElem?_cons_succ, List.set_cons_zero, List.set_cons_succ, Option.map_some, decide_true, decide_false, set2, set_len, asg_nm, asg_tp, asgs_nil, asgs_cons, Option.bind_some, wipeE, b_add, b_sub, k_lt, k_le, k_gt, k_ge, k_eq, k_ne, k_isN, k_isnN, s_lst, s_tup, Bool.and_true, Bool.true_and, if_true, if_false, reduceCtorEq, Nat.reduceAdd, Nat.reduceSub, Nat.reduceLT, Nat.reduceLeDiff, Nat.reduceEqDiff, Bool.and_false, Bool.false_and, Bool.not_true, Bool.not_false, Bool.false_eq_true, okk_bind, okk_ok, okk_nox, okk_out, oks_seq, oks_of, oks_nx, oks_rt, ixc0, ixc1, ixc2, ixc3, nat_c, Int.reduceSub, Int.reduceAdd, Int.reduceEq, Int.reduceLT, Int.reduceLE, Int.reduceMul, Bool.or_false, Bool.false_or, Bool.true_or, Bool.or_true, Bool.or_self, Bool.and_self, List.isEmpty_nil, List.isEmpty_cons, bq1, bq2, bq3, bq4, cond_true, cond_false, eq_self])
    generalize decide (x = 0) = g
    rw [evSs_cons]; (try simp -implicitDefEqProofs only [runD, evSs_nil, evS, evE, evB, evA, evAV, evO, evC, evI, vw, Mini.start, bind_ok, bind_exc, bind_bad, bind_ite, of_somE, of_noneE, sof_ok, sof_exc, sof_bad, sof_ite, seq_nx, seq_rt, seq_exc, seq_bad, seq_ite, out_nx, out_rt, out_exc, out_ite, nox_ok, truth_bl, dif_true, dif_false, Ck.d, List.map_cons, List.map_nil, List.length_cons, List.length_nil, List.replicate, List.cons_append, List.nil_append, List.append_nil, List.getElem?_cons_zero, List.getElem?_cons_succ, List.set_cons_zero, List.set_cons_succ, Option.map_some, decide_true, decide_false, set2, set_len, asg_nm, asg_tp, asgs_nil, asgs_cons, Option.bind_some, wipeE, b_add, b_sub, k_lt, k_le, k_gt, k_ge, k_eq, k_ne, k_isN, k_isnN, s_lst, s_tup, Bool.and_true, Bool.true_and, if_true, if_false, reduceCtorEq, Nat.reduceAdd, Nat.reduceSub, Nat.reduceLT, Nat.reduceLeDiff, Nat.reduceEqDiff, Bool.and_false, Bool.false_and, Bool.not_true, Bool.not_false, Bool.false_eq_true, okk_bind, okk_ok, okk_nox, okk_out, oks_seq, oks_of, oks_nx, oks_rt, ixc0, ixc1, ixc2, ixc3, nat_c, Int.reduceSub, Int.reduceAdd, Int.reduceEq, Int.reduceLT, Int.reduceLE, Int.reduceMul, Bool.or_false, Bool.false_or, Bool.true_or, Bool.or_true, Bool.or_self, Bool.and_self, List.isEmpty_nil, List.isEmpty_cons, bq1, bq2, bq3, bq4, cond_true, cond_false, eq_self])
    refine (c_law_course ext (n := 32) g 300000 hi (d00.less (by decide)) (by decide)).mono fun d h' q => ?_
    obtain ⟨a1, b1, rfl, d1, C, rfl, hC5⟩ := q
    have hC := hC5.co
    (try simp -implicitDefEqProofs only [runD, evSs_nil, evS, evE, evB, evA, evAV, evO, evC, evI, vw, Mini.start, bind_ok, bind_exc, bind_bad, bind_ite, of_somE, of_noneE, sof_ok, sof_exc, sof_bad, sof_ite, seq_nx, seq_rt, seq_exc, seq_bad, seq_ite, out_nx, out_rt, out_exc, out_ite, nox_ok, truth_bl, dif_true, dif_false, Ck.d, List.map_cons, List.map_nil, List.length_cons, List.length_nil, List.replicate, List.cons_append, List.nil_append, List.append_nil, List.getElem?_cons_zero, List.getElem?_cons_succ, List.set_cons_zero, List.set_cons_succ, Option.map_some, decide_true, decide_false, set2, set_len, asg_nm, asg_tp, asgs_nil, asgs_cons, Option.bind_some, wipeE, b_add, b_sub, k_lt, k_le, k_gt, k_ge, k_eq, k_ne, k_isN, k_isnN, s_lst, s_tup, Bool.and_true, Bool.true_and, if_true, if_false, reduceCtorEq, Nat.reduceAdd, Nat.reduceSub, Nat.reduceLT, Nat.reduceLeDiff, Nat.reduceEqDiff, Bool.and_false, Bool.false_and, Bool.not_true, Bool.not_false, Bool.false_eq_true, okk_bind, okk_ok, okk_nox, okk_out, oks_seq, oks_of, oks_nx, oks_rt, ixc0, ixc1, ixc2, ixc3, nat_c, Int.reduceSub, Int.reduceAdd, Int.reduceEq, Int.reduceLT, Int.reduceLE, Int.reduceMul, Bool.or_false, Bool.false_or, Bool.true_or, Bool.or_true, Bool.or_self, Bool.and_self, List.isEmpty_nil, List.isEmpty_cons, bq1, bq2, bq3, bq4, cond_true, cond_false, eq_self])
    obtain ⟨d, h', ez, a2, b2, rfl, d2, s, t, rfl, dl⟩ := (c_law_deal ext (n := 36) (h := h) (i := i) (a := a1) (b := b1) 200000 hi (d1.less (by decide)) (by decide)).get
    simp -implicitDefEqProofs only [runD, evSs_nil, evS, evE, evB, evA, evAV, evO, evC, evI, vw, Mini.start, bind_ok, bind_exc, bind_bad, bind_ite, of_somE, of_noneE, sof_ok, sof_exc, sof_bad, sof_ite, seq_nx, seq_rt, seq_exc, seq_bad, seq_ite, out_nx, out_rt, out_exc, out_ite, nox_ok, truth_bl, dif_true, dif_false, Ck.d, List.map_cons, List.map_nil, List.length_cons, List.length_nil, List.replicate, List.cons_append, List.nil_append, List.append_nil, List.getElem?_cons_zero, List.getElem?_cons_succ, List.set_cons_zero, List.set_cons_succ, Option.map_some, decide_true, decide_false, set2, set_len, asg_nm, asg_tp, asgs_nil, asgs_cons, Option.bind_some, wipeE, b_add, b_sub, k_lt, k_le, k_gt, k_ge, k_eq, k_ne, k_isN, k_isnN, s_lst, s_tup, Bool.and_true, Bool.true_and, if_true, if_false, reduceCtorEq, Nat.reduceAdd, Nat.reduceSub, Nat.reduceLT, Nat.reduceLeDiff, Nat.reduceEqDiff, Bool.and_false, Bool.false_and, Bool.not_true, Bool.not_false, Bool.false_eq_true, okk_bind, okk_ok, okk_nox, okk_out, oks_seq, oks_of, oks_nx, oks_rt, ixc0, ixc1, ixc2, ixc3, nat_c, Int.reduceSub, Int.reduceAdd, Int.reduceEq, Int.reduceLT, Int.reduceLE, Int.reduceMul, Bool.or_false, Bool.false_or, Bool.true_or, Bool.or_true, Bool.or_self, Bool.and_self, List.isEmpty_nil, List.isEmpty_cons, bq1, bq2, bq3, bq4, cond_true, cond_false, eq_self, ez]
    rw [evSs_cons]; (try simp -implicitDefEqProofs only [runD, evSs_nil, evS, evE, evB, evA, evAV, evO, evC, evI, vw, Mini.start, bind_ok, bind_exc, bind_bad, bind_ite, of_somE, of_noneE, sof_ok, sof_exc, sof_bad, sof_ite, seq_nx, seq_rt, seq_exc, seq_bad, seq_ite, out_nx, out_rt, out_exc, out_ite, nox_ok, truth_bl, dif_true, dif_false, Ck.d, List.map_cons, List.map_nil, List.length_cons, List.length_nil, List.replicate, List.cons_append, List.nil_append, List.append_nil, List.getElem?_cons_zero, List.getElem?_cons_succ, List.set_cons_zero, List.set_cons_succ, Option.map_some, decide_true, decide_false, set2, set_len, asg_nm, asg_tp, asgs_nil, asgs_cons, Option.bind_some, wipeE, b_add, b_sub, k_lt, k_le, k_gt, k_ge, k_eq, k_ne, k_isN, k_isnN, s_lst, s_tup, Bool.and_true, Bool.true_and, if_true, if_false, reduceCtorEq, Nat.reduceAdd, Nat.reduceSub, Nat.reduceLT, Nat.reduceLeDiff, Nat.reduceEqDiff, Bool.and_false, Bool.false_and, Bool.not_true, Bool.not_false, Bool.false_eq_true, okk_bind, okk_ok, okk_nox, okk_out, oks_seq, oks_of, oks_nx, oks_rt, ixc0, ixc1, ixc2, ixc3, nat_c, Int.reduceSub, Int.reduceAdd, Int.reduceEq, Int.reduceLT, Int.reduceLE, Int.reduceMul, Bool.or_false, Bool.false_or, Bool.true_or, Bool.or_true, Bool.or_self, Bool.and_self, List.isEmpty_nil, List.isEmpty_cons, bq1, bq2, bq3, bq4, cond_true, cond_false, eq_self])
    have l0 := hC.l0
    have l1 := hC.l1
    have en : ((C.map coD).length : Int) = C.length := by rw [List.length_map]
    have sm : small (C.length : Int) = true := by simp [small]; omega
    have zl : (C.zip (C.drop 1)).length = C.length - 1 := by rw [List.length_zip, List.length_drop]; omega
    rw [evSs_cons]; simp -implicitDefEqProofs only [runD, evSs_nil, evS, evE, evB, evA, evAV, evO, evC, evI, vw, Mini.start, bind_ok, bind_exc, bind_bad, bind_ite, of_somE, of_noneE, sof_ok, sof_exc, sof_bad, sof_ite, seq_nx, seq_rt, seq_exc, seq_bad, seq_ite, out_nx, out_rt, out_exc, out_ite, nox_ok, truth_bl, dif_true, dif_false, Ck.d, List.map_cons, List.map_nil, List.length_cons, List.length_nil, List.replicate, List.cons_append, List.nil_append, List.append_nil, List.getElem?_cons_zero, List.getElem?_cons_succ, List.set_cons_zero, List.set_cons_succ, Option.map_some, decide_true, decide_false, set2, set_len, asg_nm, asg_tp, asgs_nil, asgs_cons, Option.bind_some, wipeE, b_add, b_sub, k_lt, k_le, k_gt, k_ge, k_eq, k_ne, k_isN, k_isnN, s_lst, s_tup, Bool.and_true, Bool.true_and, if_true, if_false, reduceCtorEq, Nat.reduceAdd, Nat.reduceSub, Nat.reduceLT, Nat.reduceLeDiff, Nat.reduceEqDiff, Bool.and_false, Bool.false_and, Bool.not_true, Bool.not_false, Bool.false_eq_true, okk_bind, okk_ok, okk_nox, okk_out, oks_seq, oks_of, oks_nx, oks_rt, ixc0, ixc1, ixc2, ixc3, nat_c, Int.reduceSub, Int.reduceAdd, Int.reduceEq, Int.reduceLT, Int.reduceLE, Int.reduceMul, Bool.or_false, Bool.false_or, Bool.true_or, Bool.or_true, Bool.or_self, Bool.and_self, List.isEmpty_nil, List.isEmpty_cons, bq1, bq2, bq3, bq4, cond_true, cond_false, eq_self, len_tup, en, sm, show small 1 = true by decide]
    refine forL_by (fun rest ρ h' => h' = h.set i (dc a2 b2) ∧ ∃ (j : Nat) (z4 z9 z13 z14 : Option Sl), j + rest.length = C.length - 1 ∧ rest = (List.range' j rest.length).map (fun k => D.int ((1 : Int) + (k : Nat))) ∧
      ρ = [some (.val (.lst (ns.map .int))), some (.val (.ref i)), some (.val (.bl g)), some (.val (olost (((C.zip (C.drop 1)).take j).findSome? (losF s t)))), z4, s5, s6, some (.val (courseD C)), some (.val (.tup [.int s, .int t])), z9, s10, s11, s12, z13, z14]) (fun ρ h' p => ?_) (fun x r ρ h' p => ?_)
      ⟨rfl, 0, s4, s9, s13, s14, by simp only [rngD, List.length_map, List.length_range]; omega, by simp [rngD, List.range_eq_range'], rfl⟩
    · obtain ⟨rfl, j, z4, z9, z13, z14, p1, _, rfl⟩ := p
      rw [List.length_nil, Nat.add_zero] at p1
      rw [List.take_of_length_le (by omega)]
      have ef : (C.zip (C.drop 1)).findSome? (losF s t) = lostC C s t := rfl
      rw [ef]
      rw [evSs_cons]; simp -implicitDefEqProofs only [runD, evSs_nil, evS, evE, evB, evA, evAV, evO, evC, evI, vw, Mini.start, bind_ok, bind_exc, bind_bad, bind_ite, of_somE, of_noneE, sof_ok, sof_exc, sof_bad, sof_ite, seq_nx, seq_rt, seq_exc, seq_bad, seq_ite, out_nx, out_rt, out_exc, out_ite, nox_ok, truth_bl, dif_true, dif_false, Ck.d, List.map_cons, List.map_nil, List.length_cons, List.length_nil, List.replicate, List.cons_append, List.nil_append, List.append_nil, List.getElem?_cons_zero, List.getElem?_cons_succ, List.set_cons_zero, List.set_cons_succ, Option.map_some, decide_true, decide_false, set2, set_len, asg_nm, asg_tp, asgs_nil, asgs_cons, Option.bind_some, wipeE, b_add, b_sub, k_lt, k_le, k_gt, k_ge, k_eq, k_ne, k_isN, k_isnN, s_lst, s_tup, Bool.and_true, Bool.true_and, if_true, if_false, reduceCtorEq, Nat.reduceAdd, Nat.reduceSub, Nat.reduceLT, Nat.reduceLeDiff, Nat.reduceEqDiff, Bool.and_false, Bool.false_and, Bool.not_true, Bool.not_false, Bool.false_eq_true, okk_bind, okk_ok, okk_nox, okk_out, oks_seq, oks_of, oks_nx, oks_rt, ixc0, ixc1, ixc2, ixc3, nat_c, Int.reduceSub, Int.reduceAdd, Int.reduceEq, Int.reduceLT, Int.reduceLE, Int.reduceMul, Bool.or_false, Bool.false_or, Bool.true_or, Bool.or_true, Bool.or_self, Bool.and_self, List.isEmpty_nil, List.isEmpty_cons, bq1, bq2, bq3, bq4, cond_true, cond_false, eq_self, c_lost ext (n := 25) hC dl]
      have gn : g = true → lostC C s t = none := fun e => by
        unfold lostC
        refine List.findSome?_eq_none_iff.mpr fun z hz => ?_
        have := (adj (hC5.up e) z hz).1
        unfold losF
        rw [los_le this]
        rfl
      have cond : evE (Mini.call T 39) (.boo .Or (.cons (.cmp .NotEq (.var 5) (.var 3)) (.cons (.boo .And (.cons (.var 2) (.cons (.cmp .IsNot (.var 5) (.k .non)) .nil))) .nil))) [some (.val (.lst (ns.map .int))), some (.val (.ref i)), some (.val (.bl g)), some (.val (olost (lostC C s t))), z4, some (.val (olost (lostC C s t))), s6, some (.val (courseD C)), some (.val (.tup [.int s, .int t])), z9, s10, s11, s12, z13, z14] (h.set i (dc a2 b2)) = .ok (.bl false) (h.set i (dc a2 b2)) := by
        simp -implicitDefEqProofs only [runD, evSs_nil, evS, evE, evB, evA, evAV, evO, evC, evI, vw, Mini.start, bind_ok, bind_exc, bind_bad, bind_ite, of_somE, of_noneE, sof_ok, sof_exc, sof_bad, sof_ite, seq_nx, seq_rt, seq_exc, seq_bad, seq_ite, out_nx, out_rt, out_exc, out_ite, nox_ok, truth_bl, dif_true, dif_false, Ck.d, List.map_cons, List.map_nil, List.length_cons, List.length_nil, List.replicate, List.cons_append, List.nil_append, List.append_nil, List.getElem?_cons_zero, List.getElem?_cons_succ, List.set_cons_zero, List.set_cons_succ, Option.map_some, decide_true, decide_false, set2, set_len, asg_nm, asg_tp, asgs_nil, asgs_cons, Option.bind_some, wipeE, b_add, b_sub, k_lt, k_le, k_gt, k_ge, k_eq, k_ne, k_isN, k_isnN, s_lst, s_tup, Bool.and_true, Bool.true_and, if_true, if_false, reduceCtorEq, Nat.reduceAdd, Nat.reduceSub, Nat.reduceLT, Nat.reduceLeDiff, Nat.reduceEqDiff, Bool.and_false, Bool.false_and, Bool.not_true, Bool.not_false, Bool.false_eq_true, okk_bind, okk_ok, okk_nox, okk_out, oks_seq, oks_of, oks_nx, oks_rt, ixc0, ixc1, ixc2, ixc3, nat_c, Int.reduceSub, Int.reduceAdd, Int.reduceEq, Int.reduceLT, Int.reduceLE, Int.reduceMul, Bool.or_false, Bool.false_or, Bool.true_or, Bool.or_true, Bool.or_self, Bool.and_self, List.isEmpty_nil, List.isEmpty_cons, bq1, bq2, bq3, bq4, cond_true, cond_false, eq_self, ne_olost]
        cases g with
        | false => (try simp -implicitDefEqProofs only [runD, evSs_nil, evS, evE, evB, evA, evAV, evO, evC, evI, vw, Mini.start, bind_ok, bind_exc, bind_bad, bind_ite, of_somE, of_noneE, sof_ok, sof_exc, sof_bad, sof_ite, seq_nx, seq_rt, seq_exc, seq_bad, seq_ite, out_nx, out_rt, out_exc, out_ite, nox_ok, truth_bl, dif_true, dif_false, Ck.d, List.map_cons, List.map_nil, List.length_cons, List.length_nil, List.replicate, List.cons_append, List.nil_append, List.append_nil, List.getElem?_cons_zero, List.getElem?_cons_succ, List.set_cons_zero, List.set_cons_succ, Option.map_some, decide_true, decide_false, set2, set_len, asg_nm, asg_tp, asgs_nil, asgs_cons, Option.bind_some, wipeE, b_add, b_sub, k_lt, k_le, k_gt, k_ge, k_eq, k_ne, k_isN, k_isnN, s_lst, s_tup, Bool.and_true, Bool.true_and, if_true, if_false, reduceCtorEq, Nat.reduceAdd, Nat.reduceSub, Nat.reduceLT, Nat.reduceLeDiff, Nat.reduceEqDiff, Bool.and_false, Bool.false_and, Bool.not_true, Bool.not_false, Bool.false_eq_true, okk_bind, okk_ok, okk_nox, okk_out, oks_seq, oks_of, oks_nx, oks_rt, ixc0, ixc1, ixc2, ixc3, nat_c, Int.reduceSub, Int.reduceAdd, Int.reduceEq, Int.reduceLT, Int.reduceLE, Int.reduceMul, Bool.or_false, Bool.false_or, Bool.true_or, Bool.or_true, Bool.or_self, Bool.and_self, List.isEmpty_nil, List.isEmpty_cons, bq1, bq2, bq3, bq4, cond_true, cond_false, eq_self])
        | true =>
          rw [gn rfl]
          simp -implicitDefEqProofs only [runD, evSs_nil, evS, evE, evB, evA, evAV, evO, evC, evI, vw, Mini.start, bind_ok, bind_exc, bind_bad, bind_ite, of_somE, of_noneE, sof_ok, sof_exc, sof_bad, sof_ite, seq_nx, seq_rt, seq_exc, seq_bad, seq_ite, out_nx, out_rt, out_exc, out_ite, nox_ok, truth_bl, dif_true, dif_false, Ck.d, List.map_cons, List.map_nil, List.length_cons, List.length_nil, List.replicate, List.cons_append, List.nil_append, List.append_nil, List.getElem?_cons_zero, List.getElem?_cons_succ, List.set_cons_zero, List.set_cons_succ, Option.map_some, decide_true, decide_false, set2, set_len, asg_nm, asg_tp, asgs_nil, asgs_cons, Option.bind_some, wipeE, b_add, b_sub, k_lt, k_le, k_gt, k_ge, k_eq, k_ne, k_isN, k_isnN, s_lst, s_tup, Bool.and_true, Bool.true_and, if_true, if_false, reduceCtorEq, Nat.reduceAdd, Nat.reduceSub, Nat.reduceLT, Nat.reduceLeDiff, Nat.reduceEqDiff, Bool.and_false, Bool.false_and, Bool.not_true, Bool.not_false, Bool.false_eq_true, okk_bind, okk_ok, okk_nox, okk_out, oks_seq, oks_of, oks_nx, oks_rt, ixc0, ixc1, ixc2, ixc3, nat_c, Int.reduceSub, Int.reduceAdd, Int.reduceEq, Int.reduceLT, Int.reduceLE, Int.reduceMul, Bool.or_false, Bool.false_or, Bool.true_or, Bool.or_true, Bool.or_self, Bool.and_self, List.isEmpty_nil, List.isEmpty_cons, bq1, bq2, bq3, bq4, cond_true, cond_false, eq_self, olost]
      rw [evSs_cons]; simp -implicitDefEqProofs only [runD, evSs_nil, evS, evE, evB, evA, evAV, evO, evC, evI, vw, Mini.start, bind_ok, bind_exc, bind_bad, bind_ite, of_somE, of_noneE, sof_ok, sof_exc, sof_bad, sof_ite, seq_nx, seq_rt, seq_exc, seq_bad, seq_ite, out_nx, out_rt, out_exc, out_ite, nox_ok, truth_bl, dif_true, dif_false, Ck.d, List.map_cons, List.map_nil, List.length_cons, List.length_nil, List.replicate, List.cons_append, List.nil_append, List.append_nil, List.getElem?_cons_zero, List.getElem?_cons_succ, List.set_cons_zero, List.set_cons_succ, Option.map_some, decide_true, decide_false, set2, set_len, asg_nm, asg_tp, asgs_nil, asgs_cons, Option.bind_some, wipeE, b_add, b_sub, k_lt, k_le, k_gt, k_ge, k_eq, k_ne, k_isN, k_isnN, s_lst, s_tup, Bool.and_true, Bool.true_and, if_true, if_false, reduceCtorEq, Nat.reduceAdd, Nat.reduceSub, Nat.reduceLT, Nat.reduceLeDiff, Nat.reduceEqDiff, Bool.and_false, Bool.false_and, Bool.not_true, Bool.not_false, Bool.false_eq_true, okk_bind, okk_ok, okk_nox, okk_out, oks_seq, oks_of, oks_nx, oks_rt, ixc0, ixc1, ixc2, ixc3, nat_c, Int.reduceSub, Int.reduceAdd, Int.reduceEq, Int.reduceLT, Int.reduceLE, Int.reduceMul, Bool.or_false, Bool.false_or, Bool.true_or, Bool.or_true, Bool.or_self, Bool.and_self, List.isEmpty_nil, List.isEmpty_cons, bq1, bq2, bq3, bq4, cond_true, cond_false, eq_self, ↓cond]
      rw [evSs_cons]; simp -implicitDefEqProofs only [runD, evSs_nil, evS, evE, evB, evA, evAV, evO, evC, evI, vw, Mini.start, bind_ok, bind_exc, bind_bad, bind_ite, of_somE, of_noneE, sof_ok, sof_exc, sof_bad, sof_ite, seq_nx, seq_rt, seq_exc, seq_bad, seq_ite, out_nx, out_rt, out_exc, out_ite, nox_ok, truth_bl, dif_true, dif_false, Ck.d, List.map_cons, List.map_nil, List.length_cons, List.length_nil, List.replicate, List.cons_append, List.nil_append, List.append_nil, List.getElem?_cons_zero, List.getElem?_cons_succ, List.set_cons_zero, List.set_cons_succ, Option.map_some, decide_true, decide_false, set2, set_len, asg_nm, asg_tp, asgs_nil, asgs_cons, Option.bind_some, wipeE, b_add, b_sub, k_lt, k_le, k_gt, k_ge, k_eq, k_ne, k_isN, k_isnN, s_lst, s_tup, Bool.and_true, Bool.true_and, if_true, if_false, reduceCtorEq, Nat.reduceAdd, Nat.reduceSub, Nat.reduceLT, Nat.reduceLeDiff, Nat.reduceEqDiff, Bool.and_false, Bool.false_and, Bool.not_true, Bool.not_false, Bool.false_eq_true, okk_bind, okk_ok, okk_nox, okk_out, oks_seq, oks_of, oks_nx, oks_rt, ixc0, ixc1, ixc2, ixc3, nat_c, Int.reduceSub, Int.reduceAdd, Int.reduceEq, Int.reduceLT, Int.reduceLE, Int.reduceMul, Bool.or_false, Bool.false_or, Bool.true_or, Bool.or_true, Bool.or_self, Bool.and_self, List.isEmpty_nil, List.isEmpty_cons, bq1, bq2, bq3, bq4, cond_true, cond_false, eq_self, show small 6 = true by decide]
      obtain ⟨A, ql, eC, f1⟩ := ends2 hC
      have ml : ql ∈ C := by rw [eC]; simp
      have g1 : ∀ h : Hd, ixD h (coD ql) (.int 0) = some (.int ql.1) := fun _ => rfl
      refine forL_by (fun r ρ h' => ∃ a b z6 z10 z11 z12, ρ = [some (.val (.lst (ns.map .int))), some (.val (.ref i)), some (.val (.bl g)), some (.val (olost (lostC C s t))), z4, some (.val (olost (lostC C s t))), z6, some (.val (courseD C)), some (.val (.tup [.int s, .int t])), z9, z10, z11, z12, z13, z14] ∧ h' = h.set i (dc a b) ∧ Dc (5 * r.length) a b) (fun ρ h' p => ?_) (fun x r ρ h' p => ?_) ⟨a2, b2, _, _, _, _, rfl, rfl, d2.less (by simp [rngD])⟩
      · obtain ⟨a, b, z6, z10, z11, z12, rfl, rfl, _⟩ := p
        exact ⟨rfl, rfl, _, rfl⟩
      · obtain ⟨a, b, z6, z10, z11, z12, rfl, rfl, d3⟩ := p
        (try simp -implicitDefEqProofs only [runD, evSs_nil, evS, evE, evB, evA, evAV, evO, evC, evI, vw, Mini.start, bind_ok, bind_exc, bind_bad, bind_ite, of_somE, of_noneE, sof_ok, sof_exc, sof_bad, sof_ite, seq_nx, seq_rt, seq_exc, seq_bad, seq_ite, out_nx, out_rt, out_exc, out_ite, nox_ok, truth_bl, dif_true, dif_false, Ck.d, List.map_cons, List.map_nil, List.length_cons, List.length_nil, List.replicate, List.cons_append, List.nil_append, List.append_nil, List.getElem?_cons_zero, List.getElem?_cons_succ, List.set_cons_zero, List.set_cons_succ, Option.map_some, decide_true, decide_false, set2, set_len, asg_nm, asg_tp, asgs_nil, asgs_cons, Option.bind_some, wipeE, b_add, b_sub, k_lt, k_le, k_gt, k_ge, k_eq, k_ne, k_isN, k_isnN, s_lst, s_tup, Bool.and_true, Bool.true_and, if_true, if_false, reduceCtorEq, Nat.reduceAdd, Nat.reduceSub, Nat.reduceLT, Nat.reduceLeDiff, Nat.reduceEqDiff, Bool.and_false, Bool.false_and, Bool.not_true, Bool.not_false, Bool.false_eq_true, okk_bind, okk_ok, okk_nox, okk_out, oks_seq, oks_of, oks_nx, oks_rt, ixc0, ixc1, ixc2, ixc3, nat_c, Int.reduceSub, Int.reduceAdd, Int.reduceEq, Int.reduceLT, Int.reduceLE, Int.reduceMul, Bool.or_false, Bool.false_or, Bool.true_or, Bool.or_true, Bool.or_self, Bool.and_self, List.isEmpty_nil, List.isEmpty_cons, bq1, bq2, bq3, bq4, cond_true, cond_false, eq_self])
        rw [evSs_cons]; (try simp -implicitDefEqProofs only [runD, evSs_nil, evS, evE, evB, evA, evAV, evO, evC, evI, vw, Mini.start, bind_ok, bind_exc, bind_bad, bind_ite, of_somE, of_noneE, sof_ok, sof_exc, sof_bad, sof_ite, seq_nx, seq_rt, seq_exc, seq_bad, seq_ite, out_nx, out_rt, out_exc, out_ite, nox_ok, truth_bl, dif_true, dif_false, Ck.d, List.map_cons, List.map_nil, List.length_cons, List.length_nil, List.replicate, List.cons_append, List.nil_append, List.append_nil, List.getElem?_cons_zero, List.getElem?_cons_succ, List.set_cons_zero, List.set_cons_succ, Option.map_some, decide_true, decide_false, set2, set_len, asg_nm, asg_tp, asgs_nil, asgs_cons, Option.bind_some, wipeE, b_add, b_sub, k_lt, k_le, k_gt, k_ge, k_eq, k_ne, k_isN, k_isnN, s_lst, s_tup, Bool.and_true, Bool.true_and, if_true, if_false, reduceCtorEq, Nat.reduceAdd, Nat.reduceSub, Nat.reduceLT, Nat.reduceLeDiff, Nat.reduceEqDiff, Bool.and_false, Bool.false_and, Bool.not_true, Bool.not_false, Bool.false_eq_true, okk_bind, okk_ok, okk_nox, okk_out, oks_seq, oks_of, oks_nx, oks_rt, ixc0, ixc1, ixc2, ixc3, nat_c, Int.reduceSub, Int.reduceAdd, Int.reduceEq, Int.reduceLT, Int.reduceLE, Int.reduceMul, Bool.or_false, Bool.false_or, Bool.true_or, Bool.or_true, Bool.or_self, Bool.and_self, List.isEmpty_nil, List.isEmpty_cons, bq1, bq2, bq3, bq4, cond_true, cond_false, eq_self])
        refine (c_law_user ext (n := 36) (5 * r.length + 1) hi (d3.less (by simp only [List.length_cons]; omega)) (by omega)).mono fun d h' q => ?_
        obtain ⟨a6, b6, rfl, d6, u, l, p, rfl, hu⟩ := q
        (try simp -implicitDefEqProofs only [runD, evSs_nil, evS, evE, evB, evA, evAV, evO, evC, evI, vw, Mini.start, bind_ok, bind_exc, bind_bad, bind_ite, of_somE, of_noneE, sof_ok, sof_exc, sof_bad, sof_ite, seq_nx, seq_rt, seq_exc, seq_bad, seq_ite, out_nx, out_rt, out_exc, out_ite, nox_ok, truth_bl, dif_true, dif_false, Ck.d, List.map_cons, List.map_nil, List.length_cons, List.length_nil, List.replicate, List.cons_append, List.nil_append, List.append_nil, List.getElem?_cons_zero, List.getElem?_cons_succ, List.set_cons_zero, List.set_cons_succ, Option.map_some, decide_true, decide_false, set2, set_len, asg_nm, asg_tp, asgs_nil, asgs_cons, Option.bind_some, wipeE, b_add, b_sub, k_lt, k_le, k_gt, k_ge, k_eq, k_ne, k_isN, k_isnN, s_lst, s_tup, Bool.and_true, Bool.true_and, if_true, if_false, reduceCtorEq, Nat.reduceAdd, Nat.reduceSub, Nat.reduceLT, Nat.reduceLeDiff, Nat.reduceEqDiff, Bool.and_false, Bool.false_and, Bool.not_true, Bool.not_false, Bool.false_eq_true, okk_bind, okk_ok, okk_nox, okk_out, oks_seq, oks_of, oks_nx, oks_rt, ixc0, ixc1, ixc2, ixc3, nat_c, Int.reduceSub, Int.reduceAdd, Int.reduceEq, Int.reduceLT, Int.reduceLE, Int.reduceMul, Bool.or_false, Bool.false_or, Bool.true_or, Bool.or_true, Bool.or_self, Bool.and_self, List.isEmpty_nil, List.isEmpty_cons, bq1, bq2, bq3, bq4, cond_true, cond_false, eq_self])
        rw [evSs_cons]; simp -implicitDefEqProofs only [runD, evSs_nil, evS, evE, evB, evA, evAV, evO, evC, evI, vw, Mini.start, bind_ok, bind_exc, bind_bad, bind_ite, of_somE, of_noneE, sof_ok, sof_exc, sof_bad, sof_ite, seq_nx, seq_rt, seq_exc, seq_bad, seq_ite, out_nx, out_rt, out_exc, out_ite, nox_ok, truth_bl, dif_true, dif_false, Ck.d, List.map_cons, List.map_nil, List.length_cons, List.length_nil, List.replicate, List.cons_append, List.nil_append, List.append_nil, List.getElem?_cons_zero, List.getElem?_cons_succ, List.set_cons_zero, List.set_cons_succ, Option.map_some, decide_true, decide_false, set2, set_len, asg_nm, asg_tp, asgs_nil, asgs_cons, Option.bind_some, wipeE, b_add, b_sub, k_lt, k_le, k_gt, k_ge, k_eq, k_ne, k_isN, k_isnN, s_lst, s_tup, Bool.and_true, Bool.true_and, if_true, if_false, reduceCtorEq, Nat.reduceAdd, Nat.reduceSub, Nat.reduceLT, Nat.reduceLeDiff, Nat.reduceEqDiff, Bool.and_false, Bool.false_and, Bool.not_true, Bool.not_false, Bool.false_eq_true, okk_bind, okk_ok, okk_nox, okk_out, oks_seq, oks_of, oks_nx, oks_rt, ixc0, ixc1, ixc2, ixc3, nat_c, Int.reduceSub, Int.reduceAdd, Int.reduceEq, Int.reduceLT, Int.reduceLE, Int.reduceMul, Bool.or_false, Bool.false_or, Bool.true_or, Bool.or_true, Bool.or_self, Bool.and_self, List.isEmpty_nil, List.isEmpty_cons, bq1, bq2, bq3, bq4, cond_true, cond_false, eq_self, c_day_of ext (n := 25) hC dl hu]
        rw [evSs_cons]; simp -implicitDefEqProofs only [runD, evSs_nil, evS, evE, evB, evA, evAV, evO, evC, evI, vw, Mini.start, bind_ok, bind_exc, bind_bad, bind_ite, of_somE, of_noneE, sof_ok, sof_exc, sof_bad, sof_ite, seq_nx, seq_rt, seq_exc, seq_bad, seq_ite, out_nx, out_rt, out_exc, out_ite, nox_ok, truth_bl, dif_true, dif_false, Ck.d, List.map_cons, List.map_nil, List.length_cons, List.length_nil, List.replicate, List.cons_append, List.nil_append, List.append_nil, List.getElem?_cons_zero, List.getElem?_cons_succ, List.set_cons_zero, List.set_cons_succ, Option.map_some, decide_true, decide_false, set2, set_len, asg_nm, asg_tp, asgs_nil, asgs_cons, Option.bind_some, wipeE, b_add, b_sub, k_lt, k_le, k_gt, k_ge, k_eq, k_ne, k_isN, k_isnN, s_lst, s_tup, Bool.and_true, Bool.true_and, if_true, if_false, reduceCtorEq, Nat.reduceAdd, Nat.reduceSub, Nat.reduceLT, Nat.reduceLeDiff, Nat.reduceEqDiff, Bool.and_false, Bool.false_and, Bool.not_true, Bool.not_false, Bool.false_eq_true, okk_bind, okk_ok, okk_nox, okk_out, oks_seq, oks_of, oks_nx, oks_rt, ixc0, ixc1, ixc2, ixc3, nat_c, Int.reduceSub, Int.reduceAdd, Int.reduceEq, Int.reduceLT, Int.reduceLE, Int.reduceMul, Bool.or_false, Bool.false_or, Bool.true_or, Bool.or_true, Bool.or_self, Bool.and_self, List.isEmpty_nil, List.isEmpty_cons, bq1, bq2, bq3, bq4, cond_true, cond_false, eq_self, f1, g1]
        refine (c_rollK ext (n := 37) (5 * r.length) hi d6 (by omega) (by decide) (by decide)).mono fun d h' q => ?_
        obtain ⟨a7, b7, rfl, d7, w, rfl, w0, w1⟩ := q
        have lt0 := hC.d0 ql ml
        have lt1 := hC5.day ql ml
        have onl : onC C (ql.1 + w) = ql.2 := by rw [eC, onC_add, if_pos (decide_eq_true (by omega))]
        have ro := fun h => c_rules_on ext (n := 25) (h := h) hC (d := ql.1 + w) (by omega) (by omega)
        rw [onl] at ro
        (try simp -implicitDefEqProofs only [runD, evSs_nil, evS, evE, evB, evA, evAV, evO, evC, evI, vw, Mini.start, bind_ok, bind_exc, bind_bad, bind_ite, of_somE, of_noneE, sof_ok, sof_exc, sof_bad, sof_ite, seq_nx, seq_rt, seq_exc, seq_bad, seq_ite, out_nx, out_rt, out_exc, out_ite, nox_ok, truth_bl, dif_true, dif_false, Ck.d, List.map_cons, List.map_nil, List.length_cons, List.length_nil, List.replicate, List.cons_append, List.nil_append, List.append_nil, List.getElem?_cons_zero, List.getElem?_cons_succ, List.set_cons_zero, List.set_cons_succ, Option.map_some, decide_true, decide_false, set2, set_len, asg_nm, asg_tp, asgs_nil, asgs_cons, Option.bind_some, wipeE, b_add, b_sub, k_lt, k_le, k_gt, k_ge, k_eq, k_ne, k_isN, k_isnN, s_lst, s_tup, Bool.and_true, Bool.true_and, if_true, if_false, reduceCtorEq, Nat.reduceAdd, Nat.reduceSub, Nat.reduceLT, Nat.reduceLeDiff, Nat.reduceEqDiff, Bool.and_false, Bool.false_and, Bool.not_true, Bool.not_false, Bool.false_eq_true, okk_bind, okk_ok, okk_nox, okk_out, oks_seq, oks_of, oks_nx, oks_rt, ixc0, ixc1, ixc2, ixc3, nat_c, Int.reduceSub, Int.reduceAdd, Int.reduceEq, Int.reduceLT, Int.reduceLE, Int.reduceMul, Bool.or_false, Bool.false_or, Bool.true_or, Bool.or_true, Bool.or_self, Bool.and_self, List.isEmpty_nil, List.isEmpty_cons, bq1, bq2, bq3, bq4, cond_true, cond_false, eq_self])
        cases el : lostC C s t with
        | none =>
          have adjn : ∀ z ∈ C.zip (C.drop 1), letB z.1.2 s t u l p = true → letB z.2.2 s t u l p = true := fun z hz => by
            have := List.findSome?_eq_none_iff.mp el z hz
            unfold losF at this
            exact los_none (Option.map_eq_none_iff.mp this) hu
          have cond : evE (Mini.call T 39) (.boo .And (.cons (.cmp .Is (.var 5) (.k .non)) (.cons (.cmp .IsNot (.var 11) (.k .non)) (.cons (.not (.call 31 (.cons (.call 50 (.cons (.var 7) (.cons (.var 12) .nil))) (.cons (.var 8) (.cons (.var 10) .nil))))) .nil))))
              [some (.val (.lst (ns.map .int))), some (.val (.ref i)), some (.val (.bl g)), some (.val (olost none)), z4, some (.val (olost none)), some (.val x), some (.val (courseD C)), some (.val (.tup [.int s, .int t])), z9, some (.val (.tup [.int u, .int l, .int p])), some (.val (oint (dayC C s t u l p))), some (.val (.int (ql.1 + w))), z13, z14] (h.set i (dc a7 b7)) = .ok (.bl false) (h.set i (dc a7 b7)) := by
            cases ed : dayC C s t u l p with
            | none => simp -implicitDefEqProofs only [runD, evSs_nil, evS, evE, evB, evA, evAV, evO, evC, evI, vw, Mini.start, bind_ok, bind_exc, bind_bad, bind_ite, of_somE, of_noneE, sof_ok, sof_exc, sof_bad, sof_ite, seq_nx, seq_rt, seq_exc, seq_bad, seq_ite, out_nx, out_rt, out_exc, out_ite, nox_ok, truth_bl, dif_true, dif_false, Ck.d, List.map_cons, List.map_nil, List.length_cons, List.length_nil, List.replicate, List.cons_append, List.nil_append, List.append_nil, List.getElem?_cons_zero, List.getElem?_cons_succ, List.set_cons_zero, List.set_cons_succ, Option.map_some, decide_true, decide_false, set2, set_len, asg_nm, asg_tp, asgs_nil, asgs_cons, Option.bind_some, wipeE, b_add, b_sub, k_lt, k_le, k_gt, k_ge, k_eq, k_ne, k_isN, k_isnN, s_lst, s_tup, Bool.and_true, Bool.true_and, if_true, if_false, reduceCtorEq, Nat.reduceAdd, Nat.reduceSub, Nat.reduceLT, Nat.reduceLeDiff, Nat.reduceEqDiff, Bool.and_false, Bool.false_and, Bool.not_true, Bool.not_false, Bool.false_eq_true, okk_bind, okk_ok, okk_nox, okk_out, oks_seq, oks_of, oks_nx, oks_rt, ixc0, ixc1, ixc2, ixc3, nat_c, Int.reduceSub, Int.reduceAdd, Int.reduceEq, Int.reduceLT, Int.reduceLE, Int.reduceMul, Bool.or_false, Bool.false_or, Bool.true_or, Bool.or_true, Bool.or_self, Bool.and_self, List.isEmpty_nil, List.isEmpty_cons, bq1, bq2, bq3, bq4, cond_true, cond_false, eq_self, olost, oint]
            | some d =>
              unfold dayC at ed
              obtain ⟨q, hq, rfl⟩ := Option.map_eq_some_iff.mp ed
              have lq := List.find?_some hq
              have lql := chain_last (f := fun q => letB q.2 s t u l p) adjn q (List.mem_of_find?_eq_some hq) lq ql (by rw [eC]; simp)
              simp -implicitDefEqProofs only [runD, evSs_nil, evS, evE, evB, evA, evAV, evO, evC, evI, vw, Mini.start, bind_ok, bind_exc, bind_bad, bind_ite, of_somE, of_noneE, sof_ok, sof_exc, sof_bad, sof_ite, seq_nx, seq_rt, seq_exc, seq_bad, seq_ite, out_nx, out_rt, out_exc, out_ite, nox_ok, truth_bl, dif_true, dif_false, Ck.d, List.map_cons, List.map_nil, List.length_cons, List.length_nil, List.replicate, List.cons_append, List.nil_append, List.append_nil, List.getElem?_cons_zero, List.getElem?_cons_succ, List.set_cons_zero, List.set_cons_succ, Option.map_some, decide_true, decide_false, set2, set_len, asg_nm, asg_tp, asgs_nil, asgs_cons, Option.bind_some, wipeE, b_add, b_sub, k_lt, k_le, k_gt, k_ge, k_eq, k_ne, k_isN, k_isnN, s_lst, s_tup, Bool.and_true, Bool.true_and, if_true, if_false, reduceCtorEq, Nat.reduceAdd, Nat.reduceSub, Nat.reduceLT, Nat.reduceLeDiff, Nat.reduceEqDiff, Bool.and_false, Bool.false_and, Bool.not_true, Bool.not_false, Bool.false_eq_true, okk_bind, okk_ok, okk_nox, okk_out, oks_seq, oks_of, oks_nx, oks_rt, ixc0, ixc1, ixc2, ixc3, nat_c, Int.reduceSub, Int.reduceAdd, Int.reduceEq, Int.reduceLT, Int.reduceLE, Int.reduceMul, Bool.or_false, Bool.false_or, Bool.true_or, Bool.or_true, Bool.or_self, Bool.and_self, List.isEmpty_nil, List.isEmpty_cons, bq1, bq2, bq3, bq4, cond_true, cond_false, eq_self, olost, oint, ro, c_is_let ext (n := 26) (hC.r ql ml) dl hu, lql]
          rw [evSs_cons]; simp -implicitDefEqProofs only [runD, evSs_nil, evS, evE, evB, evA, evAV, evO, evC, evI, vw, Mini.start, bind_ok, bind_exc, bind_bad, bind_ite, of_somE, of_noneE, sof_ok, sof_exc, sof_bad, sof_ite, seq_nx, seq_rt, seq_exc, seq_bad, seq_ite, out_nx, out_rt, out_exc, out_ite, nox_ok, truth_bl, dif_true, dif_false, Ck.d, List.map_cons, List.map_nil, List.length_cons, List.length_nil, List.replicate, List.cons_append, List.nil_append, List.append_nil, List.getElem?_cons_zero, List.getElem?_cons_succ, List.set_cons_zero, List.set_cons_succ, Option.map_some, decide_true, decide_false, set2, set_len, asg_nm, asg_tp, asgs_nil, asgs_cons, Option.bind_some, wipeE, b_add, b_sub, k_lt, k_le, k_gt, k_ge, k_eq, k_ne, k_isN, k_isnN, s_lst, s_tup, Bool.and_true, Bool.true_and, if_true, if_false, reduceCtorEq, Nat.reduceAdd, Nat.reduceSub, Nat.reduceLT, Nat.reduceLeDiff, Nat.reduceEqDiff, Bool.and_false, Bool.false_and, Bool.not_true, Bool.not_false, Bool.false_eq_true, okk_bind, okk_ok, okk_nox, okk_out, oks_seq, oks_of, oks_nx, oks_rt, ixc0, ixc1, ixc2, ixc3, nat_c, Int.reduceSub, Int.reduceAdd, Int.reduceEq, Int.reduceLT, Int.reduceLE, Int.reduceMul, Bool.or_false, Bool.false_or, Bool.true_or, Bool.or_true, Bool.or_self, Bool.and_self, List.isEmpty_nil, List.isEmpty_cons, bq1, bq2, bq3, bq4, cond_true, cond_false, eq_self, ↓cond]
          rw [evSs_cons]; simp -implicitDefEqProofs only [runD, evSs_nil, evS, evE, evB, evA, evAV, evO, evC, evI, vw, Mini.start, bind_ok, bind_exc, bind_bad, bind_ite, of_somE, of_noneE, sof_ok, sof_exc, sof_bad, sof_ite, seq_nx, seq_rt, seq_exc, seq_bad, seq_ite, out_nx, out_rt, out_exc, out_ite, nox_ok, truth_bl, dif_true, dif_false, Ck.d, List.map_cons, List.map_nil, List.length_cons, List.length_nil, List.replicate, List.cons_append, List.nil_append, List.append_nil, List.getElem?_cons_zero, List.getElem?_cons_succ, List.set_cons_zero, List.set_cons_succ, Option.map_some, decide_true, decide_false, set2, set_len, asg_nm, asg_tp, asgs_nil, asgs_cons, Option.bind_some, wipeE, b_add, b_sub, k_lt, k_le, k_gt, k_ge, k_eq, k_ne, k_isN, k_isnN, s_lst, s_tup, Bool.and_true, Bool.true_and, if_true, if_false, reduceCtorEq, Nat.reduceAdd, Nat.reduceSub, Nat.reduceLT, Nat.reduceLeDiff, Nat.reduceEqDiff, Bool.and_false, Bool.false_and, Bool.not_true, Bool.not_false, Bool.false_eq_true, okk_bind, okk_ok, okk_nox, okk_out, oks_seq, oks_of, oks_nx, oks_rt, ixc0, ixc1, ixc2, ixc3, nat_c, Int.reduceSub, Int.reduceAdd, Int.reduceEq, Int.reduceLT, Int.reduceLE, Int.reduceMul, Bool.or_false, Bool.false_or, Bool.true_or, Bool.or_true, Bool.or_self, Bool.and_self, List.isEmpty_nil, List.isEmpty_cons, bq1, bq2, bq3, bq4, cond_true, cond_false, eq_self, olost]
          exact ⟨a7, b7, _, _, _, _, rfl, rfl, d7⟩
        | some y =>
          obtain ⟨d, x2⟩ := y
          obtain ⟨z, hz, ez⟩ := List.exists_of_findSome?_eq_some el
          unfold losF at ez
          obtain ⟨x3, hx3, ex3⟩ := Option.map_eq_some_iff.mp ez
          cases ex3
          obtain ⟨hm, hlet⟩ := los_some hx3
          have hu2 := U_ok hm (Nat.le_refl _)
          have mz := (adj hC.up z hz).2.2
          have ro2 := fun h => c_rules_on ext (n := 25) (h := h) hC (d := z.2.1) (hC.d0 _ mz) (hC.d1 _ mz)
          rw [on_day hC mz] at ro2
          rw [evSs_cons]; simp -implicitDefEqProofs only [runD, evSs_nil, evS, evE, evB, evA, evAV, evO, evC, evI, vw, Mini.start, bind_ok, bind_exc, bind_bad, bind_ite, of_somE, of_noneE, sof_ok, sof_exc, sof_bad, sof_ite, seq_nx, seq_rt, seq_exc, seq_bad, seq_ite, out_nx, out_rt, out_exc, out_ite, nox_ok, truth_bl, dif_true, dif_false, Ck.d, List.map_cons, List.map_nil, List.length_cons, List.length_nil, List.replicate, List.cons_append, List.nil_append, List.append_nil, List.getElem?_cons_zero, List.getElem?_cons_succ, List.set_cons_zero, List.set_cons_succ, Option.map_some, decide_true, decide_false, set2, set_len, asg_nm, asg_tp, asgs_nil, asgs_cons, Option.bind_some, wipeE, b_add, b_sub, k_lt, k_le, k_gt, k_ge, k_eq, k_ne, k_isN, k_isnN, s_lst, s_tup, Bool.and_true, Bool.true_and, if_true, if_false, reduceCtorEq, Nat.reduceAdd, Nat.reduceSub, Nat.reduceLT, Nat.reduceLeDiff, Nat.reduceEqDiff, Bool.and_false, Bool.false_and, Bool.not_true, Bool.not_false, Bool.false_eq_true, okk_bind, okk_ok, okk_nox, okk_out, oks_seq, oks_of, oks_nx, oks_rt, ixc0, ixc1, ixc2, ixc3, nat_c, Int.reduceSub, Int.reduceAdd, Int.reduceEq, Int.reduceLT, Int.reduceLE, Int.reduceMul, Bool.or_false, Bool.false_or, Bool.true_or, Bool.or_true, Bool.or_self, Bool.and_self, List.isEmpty_nil, List.isEmpty_cons, bq1, bq2, bq3, bq4, cond_true, cond_false, eq_self, olost]
          rw [evSs_cons]; simp -implicitDefEqProofs only [runD, evSs_nil, evS, evE, evB, evA, evAV, evO, evC, evI, vw, Mini.start, bind_ok, bind_exc, bind_bad, bind_ite, of_somE, of_noneE, sof_ok, sof_exc, sof_bad, sof_ite, seq_nx, seq_rt, seq_exc, seq_bad, seq_ite, out_nx, out_rt, out_exc, out_ite, nox_ok, truth_bl, dif_true, dif_false, Ck.d, List.map_cons, List.map_nil, List.length_cons, List.length_nil, List.replicate, List.cons_append, List.nil_append, List.append_nil, List.getElem?_cons_zero, List.getElem?_cons_succ, List.set_cons_zero, List.set_cons_succ, Option.map_some, decide_true, decide_false, set2, set_len, asg_nm, asg_tp, asgs_nil, asgs_cons, Option.bind_some, wipeE, b_add, b_sub, k_lt, k_le, k_gt, k_ge, k_eq, k_ne, k_isN, k_isnN, s_lst, s_tup, Bool.and_true, Bool.true_and, if_true, if_false, reduceCtorEq, Nat.reduceAdd, Nat.reduceSub, Nat.reduceLT, Nat.reduceLeDiff, Nat.reduceEqDiff, Bool.and_false, Bool.false_and, Bool.not_true, Bool.not_false, Bool.false_eq_true, okk_bind, okk_ok, okk_nox, okk_out, oks_seq, oks_of, oks_nx, oks_rt, ixc0, ixc1, ixc2, ixc3, nat_c, Int.reduceSub, Int.reduceAdd, Int.reduceEq, Int.reduceLT, Int.reduceLE, Int.reduceMul, Bool.or_false, Bool.false_or, Bool.true_or, Bool.or_true, Bool.or_self, Bool.and_self, List.isEmpty_nil, List.isEmpty_cons, bq1, bq2, bq3, bq4, cond_true, cond_false, eq_self, olost, ixD, ro2, usr, c_is_let ext (n := 26) (hC.r _ mz) dl hu2, hlet]
          exact ⟨a7, b7, _, _, _, _, rfl, rfl, d7⟩
    · obtain ⟨rfl, j, z4, z9, z13, z14, p1, p2, rfl⟩ := p
      simp only [List.length_cons, List.range'_succ, List.map_cons, List.cons.injEq] at p1 p2
      obtain ⟨rfl, p2⟩ := p2
      have hj : j < C.length := by omega
      have hj1 : j + 1 < C.length := by omega
      have ix0 : ∀ h : Hd, ixD h (courseD C) (.int (1 + (j : Nat) - 1)) = some (coD C[j]) := fun h => by
        rw [show (1 : Int) + (j : Nat) - 1 = (j : Nat) by omega, x_tup (by omega) (by rw [List.length_map]; omega), Int.toNat_natCast, List.getElem?_map, List.getElem?_eq_getElem hj]
        rfl
      have ix1 : ∀ h : Hd, ixD h (courseD C) (.int (1 + (j : Nat))) = some (coD C[j + 1]) := fun h => by
        rw [show (1 : Int) + (j : Nat) = (j + 1 : Nat) by omega, x_tup (by omega) (by rw [List.length_map]; omega), Int.toNat_natCast, List.getElem?_map, List.getElem?_eq_getElem hj1]
        rfl
      have m0 : C[j] ∈ C := List.getElem_mem _
      have m1 : C[j + 1] ∈ C := List.getElem_mem _
      have ez : (C.zip (C.drop 1))[j]? = some (C[j], C[j + 1]) := by
        rw [List.getElem?_zip_eq_some]
        exact ⟨List.getElem?_eq_getElem hj, by rw [List.getElem?_drop, Nat.add_comm, List.getElem?_eq_getElem hj1]⟩
      have et : (C.zip (C.drop 1)).take (j + 1) = (C.zip (C.drop 1)).take j ++ [(C[j], C[j + 1])] := by
        rw [List.take_succ, ez]
        rfl
      generalize ((C.zip (C.drop 1)).take j) = Z at *
      have ef : ((C.zip (C.drop 1)).take (j + 1)).findSome? (losF s t) = (Z.findSome? (losF s t)).or (losF s t (C[j], C[j + 1])) := by
        rw [et, List.findSome?_append]
        simp
      generalize C[j] = qa at *
      generalize C[j + 1] = qb at *
      obtain ⟨da, LA⟩ := qa
      obtain ⟨db, LB⟩ := qb
      have rA := hC.r _ m0
      have rB := hC.r _ m1
      have ix3 : ∀ (h : Hd) (q : Int × List (D × Int)), ixD h (coD q) (.int 1) = some (rulesD q.2) := fun _ _ => rfl
      have ix4 : ∀ (h : Hd) (q : Int × List (D × Int)), ixD h (coD q) (.int 0) = some (.int q.1) := fun _ _ => rfl
      (try simp -implicitDefEqProofs only [runD, evSs_nil, evS, evE, evB, evA, evAV, evO, evC, evI, vw, Mini.start, bind_ok, bind_exc, bind_bad, bind_ite, of_somE, of_noneE, sof_ok, sof_exc, sof_bad, sof_ite, seq_nx, seq_rt, seq_exc, seq_bad, seq_ite, out_nx, out_rt, out_exc, out_ite, nox_ok, truth_bl, dif_true, dif_false, Ck.d, List.map_cons, List.map_nil, List.length_cons, List.length_nil, List.replicate, List.cons_append, List.nil_append, List.append_nil, List.getElem?_cons_zero, List.getElem?_cons_succ, List.set_cons_zero, List.set_cons_succ, Option.map_some, decide_true, decide_false, set2, set_len, asg_nm, asg_tp, asgs_nil, asgs_cons, Option.bind_some, wipeE, b_add, b_sub, k_lt, k_le, k_gt, k_ge, k_eq, k_ne, k_isN, k_isnN, s_lst, s_tup, Bool.and_true, Bool.true_and, if_true, if_false, reduceCtorEq, Nat.reduceAdd, Nat.reduceSub, Nat.reduceLT, Nat.reduceLeDiff, Nat.reduceEqDiff, Bool.and_false, Bool.false_and, Bool.not_true, Bool.not_false, Bool.false_eq_true, okk_bind, okk_ok, okk_nox, okk_out, oks_seq, oks_of, oks_nx, oks_rt, ixc0, ixc1, ixc2, ixc3, nat_c, Int.reduceSub, Int.reduceAdd, Int.reduceEq, Int.reduceLT, Int.reduceLE, Int.reduceMul, Bool.or_false, Bool.false_or, Bool.true_or, Bool.or_true, Bool.or_self, Bool.and_self, List.isEmpty_nil, List.isEmpty_cons, bq1, bq2, bq3, bq4, cond_true, cond_false, eq_self])
      rw [evSs_cons]; simp -implicitDefEqProofs only [runD, evSs_nil, evS, evE, evB, evA, evAV, evO, evC, evI, vw, Mini.start, bind_ok, bind_exc, bind_bad, bind_ite, of_somE, of_noneE, sof_ok, sof_exc, sof_bad, sof_ite, seq_nx, seq_rt, seq_exc, seq_bad, seq_ite, out_nx, out_rt, out_exc, out_ite, nox_ok, truth_bl, dif_true, dif_false, Ck.d, List.map_cons, List.map_nil, List.length_cons, List.length_nil, List.replicate, List.cons_append, List.nil_append, List.append_nil, List.getElem?_cons_zero, List.getElem?_cons_succ, List.set_cons_zero, List.set_cons_succ, Option.map_some, decide_true, decide_false, set2, set_len, asg_nm, asg_tp, asgs_nil, asgs_cons, Option.bind_some, wipeE, b_add, b_sub, k_lt, k_le, k_gt, k_ge, k_eq, k_ne, k_isN, k_isnN, s_lst, s_tup, Bool.and_true, Bool.true_and, if_true, if_false, reduceCtorEq, Nat.reduceAdd, Nat.reduceSub, Nat.reduceLT, Nat.reduceLeDiff, Nat.reduceEqDiff, Bool.and_false, Bool.false_and, Bool.not_true, Bool.not_false, Bool.false_eq_true, okk_bind, okk_ok, okk_nox, okk_out, oks_seq, oks_of, oks_nx, oks_rt, ixc0, ixc1, ixc2, ixc3, nat_c, Int.reduceSub, Int.reduceAdd, Int.reduceEq, Int.reduceLT, Int.reduceLE, Int.reduceMul, Bool.or_false, Bool.false_or, Bool.true_or, Bool.or_true, Bool.or_self, Bool.and_self, List.isEmpty_nil, List.isEmpty_cons, bq1, bq2, bq3, bq4, cond_true, cond_false, eq_self, ix0, ix1, ix3]
      rw [evSs_cons]; simp -implicitDefEqProofs only [runD, evSs_nil, evS, evE, evB, evA, evAV, evO, evC, evI, vw, Mini.start, bind_ok, bind_exc, bind_bad, bind_ite, of_somE, of_noneE, sof_ok, sof_exc, sof_bad, sof_ite, seq_nx, seq_rt, seq_exc, seq_bad, seq_ite, out_nx, out_rt, out_exc, out_ite, nox_ok, truth_bl, dif_true, dif_false, Ck.d, List.map_cons, List.map_nil, List.length_cons, List.length_nil, List.replicate, List.cons_append, List.nil_append, List.append_nil, List.getElem?_cons_zero, List.getElem?_cons_succ, List.set_cons_zero, List.set_cons_succ, Option.map_some, decide_true, decide_false, set2, set_len, asg_nm, asg_tp, asgs_nil, asgs_cons, Option.bind_some, wipeE, b_add, b_sub, k_lt, k_le, k_gt, k_ge, k_eq, k_ne, k_isN, k_isnN, s_lst, s_tup, Bool.and_true, Bool.true_and, if_true, if_false, reduceCtorEq, Nat.reduceAdd, Nat.reduceSub, Nat.reduceLT, Nat.reduceLeDiff, Nat.reduceEqDiff, Bool.and_false, Bool.false_and, Bool.not_true, Bool.not_false, Bool.false_eq_true, okk_bind, okk_ok, okk_nox, okk_out, oks_seq, oks_of, oks_nx, oks_rt, ixc0, ixc1, ixc2, ixc3, nat_c, Int.reduceSub, Int.reduceAdd, Int.reduceEq, Int.reduceLT, Int.reduceLE, Int.reduceMul, Bool.or_false, Bool.false_or, Bool.true_or, Bool.or_true, Bool.or_self, Bool.and_self, List.isEmpty_nil, List.isEmpty_cons, bq1, bq2, bq3, bq4, cond_true, cond_false, eq_self, c_law_users ext (n := 37)]
      rw [loopC_mf usr usr (losB LA LB s t) (fun x hx => by
        obtain ⟨u, l, p⟩ := x
        have hu := U_ok hx (Nat.le_refl _)
        simp only at hu
        simp -implicitDefEqProofs only [runD, evSs_nil, evS, evE, evB, evA, evAV, evO, evC, evI, vw, Mini.start, bind_ok, bind_exc, bind_bad, bind_ite, of_somE, of_noneE, sof_ok, sof_exc, sof_bad, sof_ite, seq_nx, seq_rt, seq_exc, seq_bad, seq_ite, out_nx, out_rt, out_exc, out_ite, nox_ok, truth_bl, dif_true, dif_false, Ck.d, List.map_cons, List.map_nil, List.length_cons, List.length_nil, List.replicate, List.cons_append, List.nil_append, List.append_nil, List.getElem?_cons_zero, List.getElem?_cons_succ, List.set_cons_zero, List.set_cons_succ, Option.map_some, decide_true, decide_false, set2, set_len, asg_nm, asg_tp, asgs_nil, asgs_cons, Option.bind_some, wipeE, b_add, b_sub, k_lt, k_le, k_gt, k_ge, k_eq, k_ne, k_isN, k_isnN, s_lst, s_tup, Bool.and_true, Bool.true_and, if_true, if_false, reduceCtorEq, Nat.reduceAdd, Nat.reduceSub, Nat.reduceLT, Nat.reduceLeDiff, Nat.reduceEqDiff, Bool.and_false, Bool.false_and, Bool.not_true, Bool.not_false, Bool.false_eq_true, okk_bind, okk_ok, okk_nox, okk_out, oks_seq, oks_of, oks_nx, oks_rt, ixc0, ixc1, ixc2, ixc3, nat_c, Int.reduceSub, Int.reduceAdd, Int.reduceEq, Int.reduceLT, Int.reduceLE, Int.reduceMul, Bool.or_false, Bool.false_or, Bool.true_or, Bool.or_true, Bool.or_self, Bool.and_self, List.isEmpty_nil, List.isEmpty_cons, bq1, bq2, bq3, bq4, cond_true, cond_false, eq_self, usr, c_law_let ext (n := 32) rA.c dl hu.u0 hu.u1, c_law_let ext (n := 32) rB.c dl hu.u0 hu.u1, losB, letX]
        cases letB LA s t u l p <;> cases letB LB s t u l p <;> rfl)]
      have fl : losF s t ((da, LA), (db, LB)) = ((U 100).filter (losB LA LB s t)).head?.map fun x => (db, x) := by
        rw [List.head?_filter]
        rfl
      have hle : ((U 100).filter (losB LA LB s t)).length ≤ 2400 := Nat.le_trans (List.length_filter_le _ _) (by rw [U_len]; decide)
      rw [fl] at ef
      generalize (U 100).filter (losB LA LB s t) = F at *
      have hl2 : (F.map usr).length ≤ 1000000 := by rw [List.length_map]; omega
      have nr : D.nrs (F.map usr) = true := nrs_all.mpr fun x hx => by
        obtain ⟨q, hq, rfl⟩ := List.mem_map.mp hx
        rfl
      have e1 : cmpD .NotEq (.lst (F.map usr)) (.lst []) = some (!(F.map usr).isEmpty) := by
        rw [k_neD (okEq_nil nr)]
        simp [D.eqv, eqvs_nil]
      simp -implicitDefEqProofs only [runD, evSs_nil, evS, evE, evB, evA, evAV, evO, evC, evI, vw, Mini.start, bind_ok, bind_exc, bind_bad, bind_ite, of_somE, of_noneE, sof_ok, sof_exc, sof_bad, sof_ite, seq_nx, seq_rt, seq_exc, seq_bad, seq_ite, out_nx, out_rt, out_exc, out_ite, nox_ok, truth_bl, dif_true, dif_false, Ck.d, List.map_cons, List.map_nil, List.length_cons, List.length_nil, List.replicate, List.cons_append, List.nil_append, List.append_nil, List.getElem?_cons_zero, List.getElem?_cons_succ, List.set_cons_zero, List.set_cons_succ, Option.map_some, decide_true, decide_false, set2, set_len, asg_nm, asg_tp, asgs_nil, asgs_cons, Option.bind_some, wipeE, b_add, b_sub, k_lt, k_le, k_gt, k_ge, k_eq, k_ne, k_isN, k_isnN, s_lst, s_tup, Bool.and_true, Bool.true_and, if_true, if_false, reduceCtorEq, Nat.reduceAdd, Nat.reduceSub, Nat.reduceLT, Nat.reduceLeDiff, Nat.reduceEqDiff, Bool.and_false, Bool.false_and, Bool.not_true, Bool.not_false, Bool.false_eq_true, okk_bind, okk_ok, okk_nox, okk_out, oks_seq, oks_of, oks_nx, oks_rt, ixc0, ixc1, ixc2, ixc3, nat_c, Int.reduceSub, Int.reduceAdd, Int.reduceEq, Int.reduceLT, Int.reduceLE, Int.reduceMul, Bool.or_false, Bool.false_or, Bool.true_or, Bool.or_true, Bool.or_self, Bool.and_self, List.isEmpty_nil, List.isEmpty_cons, bq1, bq2, bq3, bq4, cond_true, cond_false, eq_self, hl2]
      cases eZ : Z.findSome? (losF s t) with
      | some y =>
        rw [eZ] at ef
        obtain ⟨d, x2⟩ := y
        rw [evSs_cons]; simp -implicitDefEqProofs only [runD, evSs_nil, evS, evE, evB, evA, evAV, evO, evC, evI, vw, Mini.start, bind_ok, bind_exc, bind_bad, bind_ite, of_somE, of_noneE, sof_ok, sof_exc, sof_bad, sof_ite, seq_nx, seq_rt, seq_exc, seq_bad, seq_ite, out_nx, out_rt, out_exc, out_ite, nox_ok, truth_bl, dif_true, dif_false, Ck.d, List.map_cons, List.map_nil, List.length_cons, List.length_nil, List.replicate, List.cons_append, List.nil_append, List.append_nil, List.getElem?_cons_zero, List.getElem?_cons_succ, List.set_cons_zero, List.set_cons_succ, Option.map_some, decide_true, decide_false, set2, set_len, asg_nm, asg_tp, asgs_nil, asgs_cons, Option.bind_some, wipeE, b_add, b_sub, k_lt, k_le, k_gt, k_ge, k_eq, k_ne, k_isN, k_isnN, s_lst, s_tup, Bool.and_true, Bool.true_and, if_true, if_false, reduceCtorEq, Nat.reduceAdd, Nat.reduceSub, Nat.reduceLT, Nat.reduceLeDiff, Nat.reduceEqDiff, Bool.and_false, Bool.false_and, Bool.not_true, Bool.not_false, Bool.false_eq_true, okk_bind, okk_ok, okk_nox, okk_out, oks_seq, oks_of, oks_nx, oks_rt, ixc0, ixc1, ixc2, ixc3, nat_c, Int.reduceSub, Int.reduceAdd, Int.reduceEq, Int.reduceLT, Int.reduceLE, Int.reduceMul, Bool.or_false, Bool.false_or, Bool.true_or, Bool.or_true, Bool.or_self, Bool.and_self, List.isEmpty_nil, List.isEmpty_cons, bq1, bq2, bq3, bq4, cond_true, cond_false, eq_self, olost]
        exact ⟨trivial, j + 1, _, _, _, _, by omega, p2, by rw [ef]; rfl⟩
      | none =>
        rw [eZ] at ef
        cases F with
        | nil =>
          rw [List.map_nil] at e1
          rw [evSs_cons]; simp -implicitDefEqProofs only [runD, evSs_nil, evS, evE, evB, evA, evAV, evO, evC, evI, vw, Mini.start, bind_ok, bind_exc, bind_bad, bind_ite, of_somE, of_noneE, sof_ok, sof_exc, sof_bad, sof_ite, seq_nx, seq_rt, seq_exc, seq_bad, seq_ite, out_nx, out_rt, out_exc, out_ite, nox_ok, truth_bl, dif_true, dif_false, Ck.d, List.map_cons, List.map_nil, List.length_cons, List.length_nil, List.replicate, List.cons_append, List.nil_append, List.append_nil, List.getElem?_cons_zero, List.getElem?_cons_succ, List.set_cons_zero, List.set_cons_succ, Option.map_some, decide_true, decide_false, set2, set_len, asg_nm, asg_tp, asgs_nil, asgs_cons, Option.bind_some, wipeE, b_add, b_sub, k_lt, k_le, k_gt, k_ge, k_eq, k_ne, k_isN, k_isnN, s_lst, s_tup, Bool.and_true, Bool.true_and, if_true, if_false, reduceCtorEq, Nat.reduceAdd, Nat.reduceSub, Nat.reduceLT, Nat.reduceLeDiff, Nat.reduceEqDiff, Bool.and_false, Bool.false_and, Bool.not_true, Bool.not_false, Bool.false_eq_true, okk_bind, okk_ok, okk_nox, okk_out, oks_seq, oks_of, oks_nx, oks_rt, ixc0, ixc1, ixc2, ixc3, nat_c, Int.reduceSub, Int.reduceAdd, Int.reduceEq, Int.reduceLT, Int.reduceLE, Int.reduceMul, Bool.or_false, Bool.false_or, Bool.true_or, Bool.or_true, Bool.or_self, Bool.and_self, List.isEmpty_nil, List.isEmpty_cons, bq1, bq2, bq3, bq4, cond_true, cond_false, eq_self, olost, e1]
          exact ⟨trivial, j + 1, _, _, _, _, by omega, p2, by rw [ef]; rfl⟩
        | cons x F =>
          rw [List.map_cons] at e1
          rw [evSs_cons]; simp -implicitDefEqProofs only [runD, evSs_nil, evS, evE, evB, evA, evAV, evO, evC, evI, vw, Mini.start, bind_ok, bind_exc, bind_bad, bind_ite, of_somE, of_noneE, sof_ok, sof_exc, sof_bad, sof_ite, seq_nx, seq_rt, seq_exc, seq_bad, seq_ite, out_nx, out_rt, out_exc, out_ite, nox_ok, truth_bl, dif_true, dif_false, Ck.d, List.map_cons, List.map_nil, List.length_cons, List.length_nil, List.replicate, List.cons_append, List.nil_append, List.append_nil, List.getElem?_cons_zero, List.getElem?_cons_succ, List.set_cons_zero, List.set_cons_succ, Option.map_some, decide_true, decide_false, set2, set_len, asg_nm, asg_tp, asgs_nil, asgs_cons, Option.bind_some, wipeE, b_add, b_sub, k_lt, k_le, k_gt, k_ge, k_eq, k_ne, k_isN, k_isnN, s_lst, s_tup, Bool.and_true, Bool.true_and, if_true, if_false, reduceCtorEq, Nat.reduceAdd, Nat.reduceSub, Nat.reduceLT, Nat.reduceLeDiff, Nat.reduceEqDiff, Bool.and_false, Bool.false_and, Bool.not_true, Bool.not_false, Bool.false_eq_true, okk_bind, okk_ok, okk_nox, okk_out, oks_seq, oks_of, oks_nx, oks_rt, ixc0, ixc1, ixc2, ixc3, nat_c, Int.reduceSub, Int.reduceAdd, Int.reduceEq, Int.reduceLT, Int.reduceLE, Int.reduceMul, Bool.or_false, Bool.false_or, Bool.true_or, Bool.or_true, Bool.or_self, Bool.and_self, List.isEmpty_nil, List.isEmpty_cons, bq1, bq2, bq3, bq4, cond_true, cond_false, eq_self, olost, e1]
          rw [evSs_cons]; simp -implicitDefEqProofs only [runD, evSs_nil, evS, evE, evB, evA, evAV, evO, evC, evI, vw, Mini.start, bind_ok, bind_exc, bind_bad, bind_ite, of_somE, of_noneE, sof_ok, sof_exc, sof_bad, sof_ite, seq_nx, seq_rt, seq_exc, seq_bad, seq_ite, out_nx, out_rt, out_exc, out_ite, nox_ok, truth_bl, dif_true, dif_false, Ck.d, List.map_cons, List.map_nil, List.length_cons, List.length_nil, List.replicate, List.cons_append, List.nil_append, List.append_nil, List.getElem?_cons_zero, List.getElem?_cons_succ, List.set_cons_zero, List.set_cons_succ, Option.map_some, decide_true, decide_false, set2, set_len, asg_nm, asg_tp, asgs_nil, asgs_cons, Option.bind_some, wipeE, b_add, b_sub, k_lt, k_le, k_gt, k_ge, k_eq, k_ne, k_isN, k_isnN, s_lst, s_tup, Bool.and_true, Bool.true_and, if_true, if_false, reduceCtorEq, Nat.reduceAdd, Nat.reduceSub, Nat.reduceLT, Nat.reduceLeDiff, Nat.reduceEqDiff, Bool.and_false, Bool.false_and, Bool.not_true, Bool.not_false, Bool.false_eq_true, okk_bind, okk_ok, okk_nox, okk_out, oks_seq, oks_of, oks_nx, oks_rt, ixc0, ixc1, ixc2, ixc3, nat_c, Int.reduceSub, Int.reduceAdd, Int.reduceEq, Int.reduceLT, Int.reduceLE, Int.reduceMul, Bool.or_false, Bool.false_or, Bool.true_or, Bool.or_true, Bool.or_self, Bool.and_self, List.isEmpty_nil, List.isEmpty_cons, bq1, bq2, bq3, bq4, cond_true, cond_false, eq_self, ix1, ix4, show ∀ (h : Hd) (xs : List D), ixD h (.lst (usr x :: xs)) (.int 0) = some (usr x) from fun _ _ => by rw [x_lst (by decide) (by simp)]; rfl]
          exact ⟨trivial, j + 1, _, _, _, _, by omega, p2, by rw [ef]; rfl⟩
end Row_k61

namespace Row_k61
open PySem PySem.Spec PyProof.Rows L2 Mini
def top (i : Nat) : Stmt := PySem.Challenge.pw_rollgates_k61_whole_who_loses.main.body.getD i (.Pass ⟨0, 0, 0, 0⟩)
def dd (n : Str) (st : Stmt) : He.DefD := ⟨(n, none), n, n, defArgs st, defBody st, defScope st, [], []⟩
def es : List (Ent T) := [
  ⟨1, "is_number", ["thing", "low", "high"], ["thing", "low", "high"], ir_is_number, dd "is_number" (top 13), rfl, fun _ _ _ _ _ _ us hl => match us, hl with | [_, _, _], _ => rfl⟩,
  ⟨2, "rest", ["number", "by"], ["number", "by"], ir_rest, dd "rest" (top 14), rfl, fun _ _ _ _ _ _ us hl => match us, hl with | [_, _], _ => rfl⟩,
  ⟨3, "need_user", ["thing"], ["thing"], ir_need_user, dd "need_user" (top 15), rfl, fun _ _ _ _ _ _ us hl => match us, hl with | [_], _ => rfl⟩,
  ⟨4, "need_deal", ["thing"], ["thing"], ir_need_deal, dd "need_deal" (top 16), rfl, fun _ _ _ _ _ _ us hl => match us, hl with | [_], _ => rfl⟩,
  ⟨5, "place_of", ["number", "deal"], ["number", "deal"], ir_place_of, dd "place_of" (top 17), rfl, fun _ _ _ _ _ _ us hl => match us, hl with | [_, _], _ => rfl⟩,
  ⟨13, "is_row", ["thing", "most", "one", "other"], ["thing", "most"], ir_is_row, dd "is_row" (top 18), rfl, fun _ _ _ _ _ _ us hl => match us, hl with | [_, _], _ => rfl⟩,
  ⟨14, "parts_of", ["thing", "deep", "good", "rows", "part"], ["thing", "deep"], ir_parts_of, dd "parts_of" (top 19), rfl, fun _ _ _ _ _ _ us hl => match us, hl with | [_, _], _ => rfl⟩,
  ⟨15, "is_condition", ["thing"], ["thing"], ir_is_condition, dd "is_condition" (top 20), rfl, fun _ _ _ _ _ _ us hl => match us, hl with | [_], _ => rfl⟩,
  ⟨17, "fits", ["condition", "land", "plan", "rows", "part"], ["condition", "land", "plan"], ir_fits, dd "fits" (top 21), rfl, fun _ _ _ _ _ _ us hl => match us, hl with | [_, _, _], _ => rfl⟩,
  ⟨19, "all_kinds", ["found", "land", "plan"], [], ir_all_kinds, dd "all_kinds" (top 22), rfl, fun _ _ _ _ _ _ us hl => match us, hl with | [], _ => rfl⟩,
  ⟨25, "is_rule", ["thing"], ["thing"], ir_is_rule, dd "is_rule" (top 23), rfl, fun _ _ _ _ _ _ us hl => match us, hl with | [_], _ => rfl⟩,
  ⟨26, "are_rules", ["thing", "one"], ["thing"], ir_are_rules, dd "are_rules" (top 24), rfl, fun _ _ _ _ _ _ us hl => match us, hl with | [_], _ => rfl⟩,
  ⟨27, "need_rules", ["thing"], ["thing"], ir_need_rules, dd "need_rules" (top 25), rfl, fun _ _ _ _ _ _ us hl => match us, hl with | [_], _ => rfl⟩,
  ⟨28, "share_of", ["rules", "land", "plan", "condition", "many"], ["rules", "land", "plan"], ir_share_of, dd "share_of" (top 26), rfl, fun _ _ _ _ _ _ us hl => match us, hl with | [_, _, _], _ => rfl⟩,
  ⟨30, "lets", ["rules", "deal", "user"], ["rules", "deal", "user"], ir_lets, dd "lets" (top 27), rfl, fun _ _ _ _ _ _ us hl => match us, hl with | [_, _, _], _ => rfl⟩,
  ⟨31, "is_let", ["rules", "deal", "user"], ["rules", "deal", "user"], ir_is_let, dd "is_let" (top 28), rfl, fun _ _ _ _ _ _ us hl => match us, hl with | [_, _, _], _ => rfl⟩,
  ⟨39, "users_from", ["since", "high", "found", "number", "land", "plan"], ["since", "high"], ir_users_from, dd "users_from" (top 30), rfl, fun _ _ _ _ _ _ us hl => match us, hl with | [_, _], _ => rfl⟩,
  ⟨40, "loser_of", ["rules", "other", "deal", "user"], ["rules", "other", "deal"], ir_loser_of, dd "loser_of" (top 31), rfl, fun _ _ _ _ _ _ us hl => match us, hl with | [_, _, _], _ => rfl⟩,
  ⟨47, "is_step", ["thing"], ["thing"], ir_is_step, dd "is_step" (top 34), rfl, fun _ _ _ _ _ _ us hl => match us, hl with | [_], _ => rfl⟩,
  ⟨48, "need_course", ["thing", "one", "other"], ["thing"], ir_need_course, dd "need_course" (top 35), rfl, fun _ _ _ _ _ _ us hl => match us, hl with | [_], _ => rfl⟩,
  ⟨49, "need_day", ["thing"], ["thing"], ir_need_day, dd "need_day" (top 36), rfl, fun _ _ _ _ _ _ us hl => match us, hl with | [_], _ => rfl⟩,
  ⟨50, "rules_on", ["course", "day", "found", "begin", "rules"], ["course", "day"], ir_rules_on, dd "rules_on" (top 37), rfl, fun _ _ _ _ _ _ us hl => match us, hl with | [_, _], _ => rfl⟩,
  ⟨51, "day_of", ["course", "deal", "user", "day", "rules"], ["course", "deal", "user"], ir_day_of, dd "day_of" (top 38), rfl, fun _ _ _ _ _ _ us hl => match us, hl with | [_, _, _], _ => rfl⟩,
  ⟨54, "lost", ["course", "deal", "user", "day", "rules", "later", "other"], ["course", "deal"], ir_lost, dd "lost" (top 39), rfl, fun _ _ _ _ _ _ us hl => match us, hl with | [_, _], _ => rfl⟩,
  ⟨7, "_law_cell", ["_law_script", "_law_k"], ["_law_script", "_law_k"], ir_law_cell, dd "_law_cell" (top 41), rfl, fun _ _ _ _ _ _ us hl => match us, hl with | [_, _], _ => rfl⟩,
  ⟨8, "_law_drawn", ["_law_cell_here", "_law_k", "_law_more"], ["_law_cell_here", "_law_k"], ir_law_drawn, dd "_law_drawn" (top 42), rfl, fun _ _ _ _ _ _ us hl => match us, hl with | [_, _], _ => rfl⟩,
  ⟨9, "_law_roll", ["_law_dice", "_law_many", "_law_told"], ["_law_dice", "_law_many"], ir_law_roll, dd "_law_roll" (top 43), rfl, fun _ _ _ _ _ _ us hl => match us, hl with | [_, _], _ => rfl⟩,
  ⟨10, "_law_rounds", ["_law_script", "_law_most", "_law_k"], ["_law_script", "_law_most"], ir_law_rounds, dd "_law_rounds" (top 44), rfl, fun _ _ _ _ _ _ us hl => match us, hl with | [_, _], _ => rfl⟩,
  ⟨11, "_law_deal", ["_law_dice"], ["_law_dice"], ir_law_deal, dd "_law_deal" (top 45), rfl, fun _ _ _ _ _ _ us hl => match us, hl with | [_], _ => rfl⟩,
  ⟨12, "_law_user", ["_law_dice", "_law_number"], ["_law_dice"], ir_law_user, dd "_law_user" (top 46), rfl, fun _ _ _ _ _ _ us hl => match us, hl with | [_], _ => rfl⟩,
  ⟨21, "_law_row", ["_law_dice", "_law_most", "_law_found", "_law_at"], ["_law_dice", "_law_most"], ir_law_row, dd "_law_row" (top 47), rfl, fun _ _ _ _ _ _ us hl => match us, hl with | [_, _], _ => rfl⟩,
  ⟨22, "_law_condition", ["_law_dice", "_law_deep", "_law_way", "_law_parts", "_law_word", "_law_turn"], ["_law_dice", "_law_deep"], ir_law_condition, dd "_law_condition" (top 48), rfl, fun _ _ _ _ _ _ us hl => match us, hl with | [_, _], _ => rfl⟩,
  ⟨23, "_law_holds", ["_law_condition_here", "_law_land", "_law_plan", "_law_part"], ["_law_condition_here", "_law_land", "_law_plan"], ir_law_holds, dd "_law_holds" (top 49), rfl, fun _ _ _ _ _ _ us hl => match us, hl with | [_, _, _], _ => rfl⟩,
  ⟨32, "_law_rules", ["_law_dice", "_law_deep", "_law_found", "_law_turn", "_law_many"], ["_law_dice", "_law_deep"], ir_law_rules, dd "_law_rules" (top 50), rfl, fun _ _ _ _ _ _ us hl => match us, hl with | [_, _], _ => rfl⟩,
  ⟨33, "_law_share", ["_law_rules_here", "_law_land", "_law_plan", "_law_condition_here", "_law_many"], ["_law_rules_here", "_law_land", "_law_plan"], ir_law_share, dd "_law_share" (top 51), rfl, fun _ _ _ _ _ _ us hl => match us, hl with | [_, _, _], _ => rfl⟩,
  ⟨24, "_law_kinds", ["_law_at"], [], ir_law_kinds, dd "_law_kinds" (top 52), rfl, fun _ _ _ _ _ _ us hl => match us, hl with | [], _ => rfl⟩,
  ⟨34, "_law_let", ["_law_rules_here", "_law_deal_here", "_law_user_here"], ["_law_rules_here", "_law_deal_here", "_law_user_here"], ir_law_let, dd "_law_let" (top 53), rfl, fun _ _ _ _ _ _ us hl => match us, hl with | [_, _, _], _ => rfl⟩,
  ⟨42, "_law_users", ["_law_low", "_law_high", "_law_found", "_law_number", "_law_kind"], ["_law_low", "_law_high"], ir_law_users, dd "_law_users" (top 54), rfl, fun _ _ _ _ _ _ us hl => match us, hl with | [_, _], _ => rfl⟩,
  ⟨35, "_law_wider", ["_law_rules_here", "_law_dice", "_law_condition_here", "_law_many"], ["_law_rules_here", "_law_dice"], ir_law_wider, dd "_law_wider" (top 55), rfl, fun _ _ _ _ _ _ us hl => match us, hl with | [_, _], _ => rfl⟩,
  ⟨52, "_law_course", ["_law_dice", "_law_is_growing", "_law_turn", "_law_found", "_law_day", "_law_rules_here"], ["_law_dice", "_law_is_growing"], ir_law_course, dd "_law_course" (top 56), rfl, fun _ _ _ _ _ _ us hl => match us, hl with | [_, _], _ => rfl⟩,
  ⟨0, "law", ["_law_script", "_law_dice", "_law_is_growing", "_law_due", "_law_at", "_law_found", "_law_turn", "_law_course_here", "_law_deal_here", "_law_some", "_law_user_here", "_law_day", "_law_later", "_law_one", "_law_other"], ["_law_script"], ir_law, dd "law" (top 57), rfl, fun _ _ _ _ _ _ us hl => match us, hl with | [_], _ => rfl⟩]
def v : Env0' := ⟨["BadDay", "BadDeal", "BadRules", "BadUser"], ["all", "any", "bool", "int", "isinstance", "len", "max", "min", "range", "str", "sum", "tuple", "zip"], [("GREATEST", (.int 1000000000000)), ("LANDS", (.int 6)), ("LAST_DAY", (.int 10000)), ("MOST_DEEP", (.int 5)), ("MOST_PARTS", (.int 40)), ("PLACES", (.int 100)), ("PLANS", (.int 4))]⟩
theorem chk_ok : es.all (chk es v) = true := by decide +kernel
theorem top_ok : topB es v = true := by decide +kernel
def loose1 : List Str := ["GateError", "BadUser", "BadDeal", "BadRules", "BadDay", "GREATEST", "LANDS", "PLANS", "PLACES", "MOST_DEEP", "MOST_PARTS", "is_number", "rest", "need_user", "need_deal", "place_of", "is_row", "parts_of", "is_condition", "fits"]
def loose2 : List Str := ["all_kinds", "is_rule", "are_rules", "need_rules", "share_of", "lets", "is_let", "users_from", "loser_of", "LAST_DAY", "is_step", "need_course", "need_day", "rules_on", "day_of", "lost", "_law_cell", "_law_drawn", "_law_roll", "_law_rounds"]
def loose3 : List Str := ["_law_deal", "_law_user", "_law_row", "_law_condition", "_law_holds", "_law_rules", "_law_share", "_law_kinds", "_law_let", "_law_users", "_law_wider", "_law_course"]
def loose : List Str := loose1 ++ (loose2 ++ (loose3))
abbrev R : PySem.W.OpenRow := PySem.W.OpenLaw.row PySem.Challenge.rw_rollgates_k61_whole_who_loses
abbrev hk : PySem.W.Hook := hookN 6 (faOf es v) (es.map (·.dd))
def ob (s : PySem.W.SharedT) : He.AlD := obsN 6 (faOf es v) (es.map (·.dd)) (HandSHeadRun.getT s)
theorem ob_eq (s : PySem.W.SharedT) : ob s = hk.obs s.abs := obsN_eq (HandSHeadRun.getT_eq s)
theorem run (w : World) : HandSHeadRun.RunEq R (PySem.W.view R.prog [57]) hk ob 3000 loose w := by
  intro os
  kernel_rfl
end Row_k61

open PySem PySem.W PyProof.Rows
set_option maxRecDepth 100000 in
set_option maxHeartbeats 0 in
theorem PySem.Challenge.cw_rollgates_k61_whole_who_loses_holds : PySem.Challenge.rw_rollgates_k61_whole_who_loses.Holds := by
  w_on; o_law
  refine HandSHeadRun.head_any (r := OpenLaw.row PySem.Challenge.rw_rollgates_k61_whole_who_loses) (q := view (OpenLaw.row PySem.Challenge.rw_rollgates_k61_whole_who_loses).prog [57]) (H := Row_k61.hk) (ob := Row_k61.ob) (M := 3000) (loose := Row_k61.loose) (d := HandSHeadRun.topDef (OpenLaw.row PySem.Challenge.rw_rollgates_k61_whole_who_loses).prog 57) (kwd := []) Row_k61.ob_eq
    (by kernel_rfl) (fun s => by kernel_rfl) Row_k61.run (by kernel_rfl) (by kernel_rfl) (by kernel_rfl) (by rfl) (by first | assumption | decide +kernel) (by decide +kernel) ⟨rfl, rfl, rfl, rfl, rfl, by decide +kernel⟩ ?hw ?hc
  case hw => w_witness2
  case hc => exact Mini.law_end (l := PySem.Challenge.rw_rollgates_k61_whole_who_loses) (k := 40) (es := Row_k61.es) (v := Row_k61.v) (x := "_law_script") (e := Row_k61.es[40]) rfl (by kernel_rfl) ⟨rfl, by decide, by decide⟩ (by kernel_rfl) (List.getElem_mem _) rfl Row_k61.top_ok Row_k61.chk_ok Row_k61.main

