import PyProof.Rows.All
import Wide.All
import OpenK.AllK
import Wide.FinOn
import HandS.ForMost
import HandS.Exc
import HandS.ExcOwn
import HandS.WordsExc
import HandS.Defaults
import HandS.IsInst
import HandS.Style
import HandS.Flow
import HandS.Wide
import HandS.TryMany
import HandS.Zip
import HandS.Steps
import HandS.RaiseMore
import HandS.StrMore
import HandS.RevRange
import HandS.SortInts
import HandS.DictComp
import KE.KStateDown
import HandS.Head0
import HandS.Head1
import HandS.Head2
import HandS.HeadEnd
import HandS.HeadHook1
import HandS.HeadHook2
import HandS.ClsMeth
import HandS.ExcIs
import PySem.Challenge.RW_notefall_k84_begun_on_a_bare_shelf
set_option Elab.async false
set_option linter.all false
set_option maxRecDepth 100000
set_option maxHeartbeats 4000000
/-! DK1: data without addresses (D), what represents them in the abstract heap (Rep), owned mutable things (M, Sat). -/
namespace DK
open PySem PySem.Spec PyProof.Rows L2

inductive D where
  | sc (v : V)
  | lst (xs : List D)
  | tup (xs : List D)
  | dic (kvs : List (Key × D))
  | obj (C : Addr) (fs : List (Str × D))
abbrev dI (i : Int) : D := .sc (.int i)
abbrev dB (b : Bool) : D := .sc (.bl b)
abbrev dS (s : Str) : D := .sc (.str s)
abbrev dN : D := .sc .non
abbrev dR (a : Addr) : D := .sc (.ref a)

mutual
inductive Rep (K : PySem.W.Frag) (G : Hp) : V → D → Prop
  | sc (v : V) : Rep K G v (.sc v)
  | lst {a : Addr} {vs : List V} {ds : List D} : G a = some (.lst vs) → Reps K G vs ds → Rep K G (.ref a) (.lst ds)
  | tup {a : Addr} {vs : List V} {ds : List D} : G a = some (.tup vs) → Reps K G vs ds → Rep K G (.ref a) (.tup ds)
  | dic {a : Addr} {ks : List (Key × V)} {kvs : List (Key × D)} : G a = some (.dK ks) → RepK K G ks kvs → Rep K G (.ref a) (.dic kvs)
  | obj {a C dx : Addr} {vs : List (Str × V)} {fs : List (Str × D)} : G a = some (.ins C dx vs) → RepF K G vs fs → Rep K G (.ref a) (.obj C fs)
inductive Reps (K : PySem.W.Frag) (G : Hp) : List V → List D → Prop
  | nil : Reps K G [] []
  | cons {v : V} {d : D} {vs : List V} {ds : List D} : Rep K G v d → Reps K G vs ds → Reps K G (v :: vs) (d :: ds)
inductive RepK (K : PySem.W.Frag) (G : Hp) : List (Key × V) → List (Key × D) → Prop
  | nil : RepK K G [] []
  | cons {k : Key} {v : V} {d : D} {vs : List (Key × V)} {ds : List (Key × D)} : Rep K G v d → RepK K G vs ds → RepK K G ((k, v) :: vs) ((k, d) :: ds)
inductive RepF (K : PySem.W.Frag) (G : Hp) : List (Str × V) → List (Str × D) → Prop
  | nil : RepF K G [] []
  | cons {k : Str} {v : V} {d : D} {vs : List (Str × V)} {ds : List (Str × D)} : Rep K G v d → RepF K G vs ds → RepF K G ((k, v) :: vs) ((k, d) :: ds)
end

theorem same_sqL {K : PySem.W.Frag} {H H' : Hp} {a : Addr} {xs : List V} (e : Same H H') (h : SqL K H a xs) : SqL K H' a xs := e.seq h
theorem same_sqT {K : PySem.W.Frag} {H H' : Hp} {a : Addr} {xs : List V} (e : Same H H') (h : SqT K H a xs) : SqT K H' a xs := by
  rcases h with (h | ⟨o, h⟩) | h
  · exact .inl (.inl (e _ _ h))
  · exact .inl (.inr ⟨o, e _ _ h⟩)
  · exact .inr h

section
variable {K : PySem.W.Frag} {G G' : Hp}
mutual
theorem Rep.mono (e : Same G G') : ∀ {v : V} {d : D}, Rep K G v d → Rep K G' v d
  | _, _, .sc v => .sc v
  | _, _, .lst h r => .lst (e _ _ h) (Reps.mono e r)
  | _, _, .tup h r => .tup (e _ _ h) (Reps.mono e r)
  | _, _, .dic h r => .dic (e _ _ h) (RepK.mono e r)
  | _, _, .obj h r => .obj (e _ _ h) (RepF.mono e r)
theorem Reps.mono (e : Same G G') : ∀ {v : List V} {d : List D}, Reps K G v d → Reps K G' v d
  | _, _, .nil => .nil
  | _, _, .cons h r => .cons (Rep.mono e h) (Reps.mono e r)
theorem RepK.mono (e : Same G G') : ∀ {v : List (Key × V)} {d : List (Key × D)}, RepK K G v d → RepK K G' v d
  | _, _, .nil => .nil
  | _, _, .cons h r => .cons (Rep.mono e h) (RepK.mono e r)
theorem RepF.mono (e : Same G G') : ∀ {v : List (Str × V)} {d : List (Str × D)}, RepF K G v d → RepF K G' v d
  | _, _, .nil => .nil
  | _, _, .cons h r => .cons (Rep.mono e h) (RepF.mono e r)
end

theorem Rep.sc_inv {v w : V} (h : Rep K G v (.sc w)) : v = w := by cases h; rfl
theorem Reps.length {vs : List V} : ∀ {ds : List D}, Reps K G vs ds → vs.length = ds.length := by
  intro ds h
  induction vs generalizing ds with
  | nil => cases h; rfl
  | cons v vs ih => cases h with | cons _ r => exact congrArg (· + 1) (ih r)
theorem Reps.get {vs : List V} : ∀ {ds : List D} {i : Nat} {d : D}, Reps K G vs ds → ds[i]? = some d → ∃ v, vs[i]? = some v ∧ Rep K G v d := by
  induction vs with
  | nil => intro ds i d h e; cases h; simp at e
  | cons v vs ih =>
    intro ds i d h e
    cases h with
    | cons a r =>
      cases i with
      | zero => simp at e; subst e; exact ⟨v, rfl, a⟩
      | succ i =>
        obtain ⟨w, e1, e2⟩ := ih r (by simpa using e)
        exact ⟨w, by simpa using e1, e2⟩
theorem Reps.getV {vs : List V} : ∀ {ds : List D} {i : Nat} {v : V}, Reps K G vs ds → vs[i]? = some v → ∃ d, ds[i]? = some d ∧ Rep K G v d := by
  induction vs with
  | nil => intro ds i d h e; simp at e
  | cons v vs ih =>
    intro ds i w h e
    cases h with
    | cons a r =>
      cases i with
      | zero => simp at e; subst e; exact ⟨_, rfl, a⟩
      | succ i =>
        obtain ⟨w, e1, e2⟩ := ih r (by simpa using e)
        exact ⟨w, by simpa using e1, e2⟩
theorem Reps.append {vs ws : List V} : ∀ {ds es : List D}, Reps K G vs ds → Reps K G ws es → Reps K G (vs ++ ws) (ds ++ es) := by
  induction vs with
  | nil => intro ds es h q; cases h; exact q
  | cons v vs ih => intro ds es h q; cases h with | cons a r => exact .cons a (ih r q)
theorem Reps.set {vs : List V} {v : V} {d : D} (hv : Rep K G v d) : ∀ {ds : List D} (i : Nat), Reps K G vs ds → Reps K G (vs.set i v) (ds.set i d) := by
  induction vs with
  | nil => intro ds i h; cases h; exact .nil
  | cons w vs ih =>
    intro ds i h
    cases h with
    | cons a r =>
      cases i with
      | zero => exact .cons hv r
      | succ i => exact .cons a (ih i r)
theorem Reps.drop {vs : List V} : ∀ {ds : List D} (n : Nat), Reps K G vs ds → Reps K G (vs.drop n) (ds.drop n) := by
  induction vs with
  | nil => intro ds n h; cases h; simp; exact .nil
  | cons w vs ih =>
    intro ds n h
    cases h with
    | cons a r =>
      cases n with
      | zero => exact .cons a r
      | succ n => exact ih n r
theorem Reps.take {vs : List V} : ∀ {ds : List D} (n : Nat), Reps K G vs ds → Reps K G (vs.take n) (ds.take n) := by
  induction vs with
  | nil => intro ds n h; cases h; simp; exact .nil
  | cons w vs ih =>
    intro ds n h
    cases h with
    | cons a r =>
      cases n with
      | zero => exact .nil
      | succ n => exact .cons a (ih n r)
theorem Reps.reverse {vs : List V} : ∀ {ds : List D}, Reps K G vs ds → Reps K G vs.reverse ds.reverse := by
  induction vs with
  | nil => intro ds h; cases h; exact .nil
  | cons w vs ih =>
    intro ds h
    cases h with
    | cons a r =>
      rw [List.reverse_cons, List.reverse_cons]
      exact (ih r).append (.cons a .nil)
theorem Reps.sc : ∀ (vs : List V), Reps K G vs (vs.map D.sc)
  | [] => .nil
  | v :: vs => .cons (.sc v) (Reps.sc vs)
theorem Reps.sc_inv {ws : List V} : ∀ {vs : List V}, Reps K G vs (ws.map D.sc) → vs = ws := by
  induction ws with
  | nil => intro vs h; cases h; rfl
  | cons w ws ih =>
    intro vs h
    cases h with
    | cons a r => rw [Rep.sc_inv a, ih r]
theorem RepF.lookup {vs : List (Str × V)} : ∀ {fs : List (Str × D)} {f : Str} {d : D}, RepF K G vs fs → fs.lookup f = some d → ∃ v, vs.lookup f = some v ∧ Rep K G v d := by
  induction vs with
  | nil => intro fs f d h e; cases h; cases e
  | cons p vs ih =>
    intro fs f d h e
    cases h with
    | @cons k v d' _ ds a r =>
      simp only [List.lookup] at e ⊢
      cases q : f == k with
      | true => rw [q] at e; cases e; exact ⟨v, rfl, a⟩
      | false => rw [q] at e; exact ih r e
theorem RepF.lookup_none {vs : List (Str × V)} : ∀ {fs : List (Str × D)} {f : Str}, RepF K G vs fs → fs.lookup f = none → vs.lookup f = none := by
  induction vs with
  | nil => intro fs f h e; rfl
  | cons p vs ih =>
    intro fs f h e
    cases h with
    | @cons k v d' _ ds a r =>
      simp only [List.lookup] at e ⊢
      cases q : f == k with
      | true => rw [q] at e; cases e
      | false => rw [q] at e; exact ih r e
theorem RepF.length {vs : List (Str × V)} : ∀ {fs : List (Str × D)}, RepF K G vs fs → vs.length = fs.length := by
  induction vs with
  | nil => intro ds h; cases h; rfl
  | cons v vs ih => intro ds h; cases h with | cons _ r => exact congrArg (· + 1) (ih r)
/-- a field stored -/
def putFD (f : Str) (d : D) : List (Str × D) → List (Str × D)
  | [] => [(f, d)]
  | (g, e) :: r => if g = f then (g, d) :: r else (g, e) :: putFD f d r
theorem RepF.put {f : Str} {v : V} {d : D} (hv : Rep K G v d) {vs : List (Str × V)} : ∀ {fs : List (Str × D)}, RepF K G vs fs → RepF K G (putF f v vs) (putFD f d fs) := by
  induction vs with
  | nil => intro fs h; cases h; exact .cons hv .nil
  | cons p vs ih =>
    intro fs h
    cases h with
    | @cons k w d' _ ds a r =>
      unfold putF putFD
      by_cases q : k = f
      · rw [if_pos q, if_pos q]; exact .cons hv r
      · rw [if_neg q, if_neg q]; exact .cons a (ih r)

/-! dicts of data -/
def getD (kvs : List (Key × D)) (k : Key) : Option D := (kvs.find? fun kv => decide (kv.1 = k)).map (·.2)
def putD (kvs : List (Key × D)) (k : Key) (d : D) : List (Key × D) :=
  if (kvs.any fun kv => decide (kv.1 = k)) = true then kvs.map (fun kv => if kv.1 = k then (kv.1, d) else kv) else kvs ++ [(k, d)]
theorem RepK.length {vs : List (Key × V)} : ∀ {fs : List (Key × D)}, RepK K G vs fs → vs.length = fs.length := by
  induction vs with
  | nil => intro ds h; cases h; rfl
  | cons v vs ih => intro ds h; cases h with | cons _ r => exact congrArg (· + 1) (ih r)
theorem RepK.get {vs : List (Key × V)} : ∀ {kvs : List (Key × D)} (k : Key), RepK K G vs kvs → (getD kvs k = none ∧ valV vs k = none) ∨ ∃ v d, getD kvs k = some d ∧ valV vs k = some v ∧ Rep K G v d := by
  induction vs with
  | nil => intro kvs k h; cases h; exact .inl ⟨rfl, rfl⟩
  | cons p vs ih =>
    intro kvs k h
    cases h with
    | @cons j v d _ ds a r =>
      unfold getD valV
      by_cases q : j = k
      · refine .inr ⟨v, d, ?_, ?_, a⟩ <;> simp [List.find?_cons, q]
      · have := ih k r
        unfold getD valV at this
        simpa [List.find?_cons, q] using this
theorem RepK.append {vs ws : List (Key × V)} : ∀ {ds es : List (Key × D)}, RepK K G vs ds → RepK K G ws es → RepK K G (vs ++ ws) (ds ++ es) := by
  induction vs with
  | nil => intro ds es h q; cases h; exact q
  | cons v vs ih => intro ds es h q; cases h with | cons a r => exact .cons a (ih r q)
theorem RepK.any {vs : List (Key × V)} (k : Key) : ∀ {kvs : List (Key × D)}, RepK K G vs kvs → (vs.any fun kv => decide (kv.1 = k)) = (kvs.any fun kv => decide (kv.1 = k)) := by
  induction vs with
  | nil => intro kvs h; cases h; rfl
  | cons p vs ih => intro kvs h; cases h with | cons a r => rw [List.any_cons, List.any_cons, ih r]
theorem RepK.put {k : Key} {v : V} {d : D} (hv : Rep K G v d) {vs : List (Key × V)} {kvs : List (Key × D)} (h : RepK K G vs kvs) : RepK K G (putK vs k v) (putD kvs k d) := by
  unfold putK putD
  rw [RepK.any k h]
  by_cases q : (kvs.any fun kv => decide (kv.1 = k)) = true
  · rw [if_pos q, if_pos q]
    clear q
    induction vs generalizing kvs with
    | nil => cases h; exact .nil
    | cons p vs ih =>
      cases h with
      | @cons j w d' _ ds a r =>
        rw [List.map_cons, List.map_cons]
        by_cases e : j = k
        · rw [if_pos e, if_pos e]; exact .cons hv (ih r)
        · rw [if_neg e, if_neg e]; exact .cons a (ih r)
  · rw [if_neg q, if_neg q]
    exact h.append (.cons hv .nil)
end

/-! ### owned things -/
inductive M where
  | lst (xs : List D)
  | dic (kvs : List (Key × D))
  | ins (C : Addr) (fs : List (Str × D))
/-- as data, when it is owned no more -/
def M.toD : M → D
  | .lst xs => .lst xs
  | .dic kvs => .dic kvs
  | .ins C fs => .obj C fs
abbrev Ow := List (Addr × M)
def MOk (K : PySem.W.Frag) (G H : Hp) (p : Addr) : M → Prop
  | .lst ds => ∃ vs, H p = some (.lst vs) ∧ Reps K G vs ds
  | .dic kvs => ∃ ks, H p = some (.dK ks) ∧ RepK K G ks kvs
  | .ins C fs => ∃ dx vs, H p = some (.ins C dx vs) ∧ RepF K G vs fs
theorem MOk.some {K : PySem.W.Frag} {G H : Hp} {p : Addr} {m : M} (h : MOk K G H p m) : H p ≠ none := by
  cases m with
  | lst ds => obtain ⟨_, e, _⟩ := h; rw [e]; simp
  | dic ds => obtain ⟨_, e, _⟩ := h; rw [e]; simp
  | ins C ds => obtain ⟨_, _, e, _⟩ := h; rw [e]; simp
theorem MOk.mono {K : PySem.W.Frag} {G G' H H' : Hp} {p : Addr} {m : M} (e : Same G G') (q : H' p = H p) (h : MOk K G H p m) : MOk K G' H' p m := by
  cases m with
  | lst ds => obtain ⟨a, b, c⟩ := h; exact ⟨a, q.trans b, c.mono e⟩
  | dic ds => obtain ⟨a, b, c⟩ := h; exact ⟨a, q.trans b, c.mono e⟩
  | ins C ds => obtain ⟨a, b, c, d⟩ := h; exact ⟨a, b, q.trans c, d.mono e⟩
theorem MOk.rep {K : PySem.W.Frag} {G G' H : Hp} {p : Addr} {m : M} (e : Same G G') (q : G' p = H p) (h : MOk K G H p m) : Rep K G' (.ref p) m.toD := by
  cases m with
  | lst ds => obtain ⟨a, b, c⟩ := h; exact .lst (q.trans b) (c.mono e)
  | dic ds => obtain ⟨a, b, c⟩ := h; exact .dic (q.trans b) (c.mono e)
  | ins C ds => obtain ⟨a, b, c, d⟩ := h; exact .obj (q.trans c) (d.mono e)

/-- what is fixed while a body runs: the data heap and the heap at its entry, the owned addresses that were handed in; what is wanted where it raises -/
structure Bs where
  G : Hp
  H : Hp
  M : List Addr
  E : XK
  X : Addr → Option (List (Str × D)) → Ow → Prop
structure Sat (K : PySem.W.Frag) (B : Bs) (G H : Hp) (o : Ow) : Prop where
  sub : Same G H
  gx : Same B.G G
  gn : ∀ a, B.H a ≠ none → G a = B.G a
  hx : ∀ a u, a ∉ B.M → B.H a = some u → H a = some u
  dom : ∀ a, B.H a ≠ none → H a ≠ none
  ow : ∀ pm ∈ o, G pm.1 = none ∧ MOk K G H pm.1 pm.2 ∧ (pm.1 ∈ B.M ∨ B.H pm.1 = none)
  nd : (o.map (·.1)).Nodup
/-- the wish of an exception: its class, its own field dict (if any), what is owned -/
def XOk (K : PySem.W.Frag) (B : Bs) : Prop :=
  (∀ C G H o, Sat K B G H o → B.X C none o → B.E (.ref C) none H) ∧
  ∀ C G H o d vs fs, Sat K B G H o → H d = some (.xd vs) → B.H d = none → RepF K G vs fs → B.X C (some fs) o → B.E (.ref C) (some d) H
structure Sl (K : PySem.W.Frag) (G : Hp) (σ : L2.St) (env : List (Option D)) : Prop where
  len : σ.length = env.length
  get : ∀ (i : Nat) (d : D), env[i]? = some (some d) → ∃ v, σ[i]? = some (some v) ∧ Rep K G v d
section
variable {K : PySem.W.Frag} {B : Bs} {G G' H H' : Hp} {o : Ow} {σ : L2.St} {env : List (Option D)}
theorem Sl.mono (e : Same G G') (s : Sl K G σ env) : Sl K G' σ env := ⟨s.len, fun i d h => let ⟨v, a, b⟩ := s.get i d h; ⟨v, a, b.mono e⟩⟩
theorem Sl.set {v : V} {d : D} (s : Sl K G σ env) (i : Nat) (r : Rep K G v d) : Sl K G (σ.set i (some v)) (env.set i (some d)) := by
  refine ⟨by rw [List.length_set, List.length_set]; exact s.len, fun j e h => ?_⟩
  by_cases q : i = j
  · subst q
    have hl : i < env.length := by
      have := (List.getElem?_eq_some_iff.mp h).1
      rwa [List.length_set] at this
    rw [List.getElem?_set_self hl] at h
    cases h
    exact ⟨v, List.getElem?_set_self (by rw [s.len]; exact hl), r⟩
  · rw [List.getElem?_set_ne q] at h ⊢
    exact s.get j e h
theorem Sl.unset (s : Sl K G σ env) (i : Nat) : Sl K G (σ.set i none) (env.set i none) := by
  refine ⟨by rw [List.length_set, List.length_set]; exact s.len, fun j e h => ?_⟩
  by_cases q : i = j
  · subst q
    have hl : i < env.length := by
      have := (List.getElem?_eq_some_iff.mp h).1
      rwa [List.length_set] at this
    rw [List.getElem?_set_self hl] at h
    cases h
  · rw [List.getElem?_set_ne q] at h ⊢
    exact s.get j e h
def wipeD (env : List (Option D)) : List Nat → List (Option D)
  | [] => env
  | v :: vs => (wipeD env vs).set v none
theorem Sl.wipe (s : Sl K G σ env) : ∀ vs : List Nat, Sl K G (L2.wipe σ vs) (wipeD env vs)
  | [] => s
  | v :: vs => (Sl.wipe s vs).unset v
/-- forgetting -/
theorem Sl.weak {env' : List (Option D)} (s : Sl K G σ env) (hl : env'.length = env.length) (h : ∀ (i : Nat) d, env'[i]? = some (some d) → env[i]? = some (some d)) : Sl K G σ env' := ⟨s.len.trans hl.symm, fun i d e => s.get i d (h i d e)⟩

theorem Sat.init (e : Same G H) {E : XK} {X : Addr → Option (List (Str × D)) → Ow → Prop} (ho : ∀ pm ∈ o, G pm.1 = none ∧ MOk K G H pm.1 pm.2) (nd : (o.map (·.1)).Nodup) : Sat K ⟨G, H, o.map (·.1), E, X⟩ G H o :=
  ⟨e, Same.refl G, fun _ _ => rfl, fun _ _ _ q => q, fun _ q => q, fun pm h => ⟨(ho pm h).1, (ho pm h).2, .inl (List.mem_map_of_mem h)⟩, nd⟩
/-- a new object, as data -/
theorem Sat.data {p : Addr} {u : HO} (S : Sat K B G H o) (hp : H p = none) : Same G (upd G p u) ∧ Sat K B (upd G p u) (upd H p u) o := by
  have gp : G p = none := S.sub.free hp
  have e : Same G (upd G p u) := fun a w h => by rw [upd_ne (ne_of_none h gp)]; exact h
  have bp : B.H p = none := by
    cases q : B.H p with
    | none => rfl
    | some w => exact absurd hp (S.dom p (by rw [q]; simp))
  refine ⟨e, fun a w h => ?_, S.gx.trans e, fun a h => ?_, fun a w hm h => ?_, fun a h => ?_, fun pm hm => ?_, S.nd⟩
  · by_cases q : a = p
    · subst q; rw [upd_same] at h; rw [upd_same]; exact h
    · rw [upd_ne q] at h ⊢; exact S.sub a w h
  · rw [upd_ne (fun (q : a = p) => h (by rw [q]; exact bp))]; exact S.gn a h
  · rw [upd_ne (fun q => by rw [q, bp] at h; cases h)]; exact S.hx a w hm h
  · rw [upd_ne (fun (q : a = p) => h (by rw [q]; exact bp))]; exact S.dom a h
  · obtain ⟨h1, h2, h3⟩ := S.ow pm hm
    have q : pm.1 ≠ p := fun z => h2.some (z ▸ hp)
    exact ⟨by rw [upd_ne q]; exact h1, h2.mono e (upd_ne q), h3⟩
theorem Sat.bnone {p : Addr} (S : Sat K B G H o) (hp : H p = none) : B.H p = none := by
  cases q : B.H p with
  | none => rfl
  | some w => exact absurd hp (S.dom p (by rw [q]; simp))
/-- a new object that nobody but us knows (an instance's dict): heap only -/
theorem Sat.hid {p : Addr} {u : HO} (S : Sat K B G H o) (hp : H p = none) : Sat K B G (upd H p u) o := by
  have gp : G p = none := S.sub.free hp
  have bp := S.bnone hp
  refine ⟨fun a w h => ?_, S.gx, S.gn, fun a w hm h => ?_, fun a h => ?_, fun pm hm => ?_, S.nd⟩
  · rw [upd_ne (ne_of_none h gp)]; exact S.sub a w h
  · rw [upd_ne (fun q => by rw [q, bp] at h; cases h)]; exact S.hx a w hm h
  · rw [upd_ne (fun (q : a = p) => h (by rw [q]; exact bp))]; exact S.dom a h
  · obtain ⟨h1, h2, h3⟩ := S.ow pm hm
    have q : pm.1 ≠ p := fun z => h2.some (z ▸ hp)
    exact ⟨h1, h2.mono (Same.refl G) (upd_ne q), h3⟩
/-- a new object, owned -/
theorem Sat.own {p : Addr} {u : HO} {m : M} (S : Sat K B G H o) (hp : H p = none) (hm : MOk K G (upd H p u) p m) : Sat K B G (upd H p u) (o ++ [(p, m)]) := by
  have S1 := S.hid (u := u) hp
  refine ⟨S1.sub, S1.gx, S1.gn, S1.hx, S1.dom, fun pm h => ?_, ?_⟩
  · rcases List.mem_append.mp h with h | h
    · exact S1.ow pm h
    · have e : pm = (p, m) := by simpa using h
      subst e
      exact ⟨S.sub.free hp, hm, .inr (S.bnone hp)⟩
  · rw [List.map_append, List.nodup_append]
    refine ⟨S.nd, by simp, fun a ha b hb => ?_⟩
    have e : b = p := by simpa using hb
    subst e
    obtain ⟨pm, h1, rfl⟩ := List.mem_map.mp ha
    exact fun z => (S.ow pm h1).2.1.some (z ▸ hp)
/-- an owned object is changed -/
theorem Sat.put {p : Addr} {u : HO} {m m' : M} {i : Nat} (S : Sat K B G H o) (hi : o[i]? = some (p, m)) (hm : MOk K G (upd H p u) p m') : Sat K B G (upd H p u) (o.set i (p, m')) := by
  have hmem : (p, m) ∈ o := List.mem_of_getElem? hi
  obtain ⟨h1, h2, h3⟩ := S.ow _ hmem
  have hl := (List.getElem?_eq_some_iff.mp hi).1
  have names : (o.set i (p, m')).map (·.1) = o.map (·.1) := by
    rw [List.map_set]
    apply List.ext_getElem?
    intro j
    by_cases q : i = j
    · subst q
      rw [List.getElem?_set_self (by simpa using hl), List.getElem?_map, hi]
      rfl
    · rw [List.getElem?_set_ne q]
  refine ⟨fun a w h => ?_, S.gx, S.gn, fun a w hx h => ?_, fun a h => ?_, fun pm hpm => ?_, names ▸ S.nd⟩
  · rw [upd_ne (ne_of_none h h1)]; exact S.sub a w h
  · have q : a ≠ p := by
      rintro rfl
      rcases h3 with z | z
      · exact hx z
      · have z' : B.H a = none := z
        rw [z'] at h; cases h
    rw [upd_ne q]; exact S.hx a w hx h
  · by_cases q : a = p
    · rw [q, upd_same]; simp
    · rw [upd_ne q]; exact S.dom a h
  · obtain ⟨j, hj⟩ := List.mem_iff_getElem?.mp hpm
    by_cases q : i = j
    · subst q
      rw [List.getElem?_set_self hl] at hj
      cases hj
      exact ⟨h1, hm, h3⟩
    · rw [List.getElem?_set_ne q] at hj
      obtain ⟨g1, g2, g3⟩ := S.ow pm (List.mem_of_getElem? hj)
      have hne : pm.1 ≠ p := by
        intro z
        have e1 : (o.map (·.1))[i]? = some p := by rw [List.getElem?_map, hi]; rfl
        have e2 : (o.map (·.1))[j]? = some p := by rw [List.getElem?_map, hj]; exact congrArg some z
        exact q (nd_ix S.nd e1 e2)
      exact ⟨g1, g2.mono (Same.refl G) (upd_ne hne), g3⟩
/-- an owned object is owned no more: it is data from here on -/
theorem Sat.freeze {p : Addr} {m : M} {i : Nat} (S : Sat K B G H o) (hi : o[i]? = some (p, m)) (hb : B.H p = none) : ∃ G', Same G G' ∧ Sat K B G' H (o.eraseIdx i) ∧ Rep K G' (.ref p) m.toD := by
  have hmem : (p, m) ∈ o := List.mem_of_getElem? hi
  obtain ⟨h1, h2, h3⟩ := S.ow _ hmem
  obtain ⟨u, hu⟩ : ∃ u, H p = some u := by
    cases q : H p with
    | none => exact absurd q h2.some
    | some u => exact ⟨u, rfl⟩
  have e : Same G (upd G p u) := fun a w h => by rw [upd_ne (ne_of_none h h1)]; exact h
  refine ⟨upd G p u, e, ⟨fun a w h => ?_, S.gx.trans e, fun a h => ?_, S.hx, S.dom, fun pm hpm => ?_, ?_⟩, h2.rep e (upd_same.trans hu.symm)⟩
  · by_cases q : a = p
    · subst q; rw [upd_same] at h; cases h; exact hu
    · rw [upd_ne q] at h; exact S.sub a w h
  · rw [upd_ne (fun (q : a = p) => h (by rw [q]; exact hb))]; exact S.gn a h
  · obtain ⟨j, hj⟩ := List.mem_iff_getElem?.mp hpm
    rw [List.getElem?_eraseIdx] at hj
    have key : ∃ j', i ≠ j' ∧ o[j']? = some pm := by
      by_cases q : j < i
      · rw [if_pos q] at hj; exact ⟨j, by omega, hj⟩
      · rw [if_neg q] at hj; exact ⟨j + 1, by omega, hj⟩
    obtain ⟨j', hij, hj'⟩ := key
    obtain ⟨g1, g2, g3⟩ := S.ow pm (List.mem_of_getElem? hj')
    have hne : pm.1 ≠ p := by
      intro z
      have e1 : (o.map (·.1))[i]? = some p := by rw [List.getElem?_map, hi]; rfl
      have e2 : (o.map (·.1))[j']? = some p := by rw [List.getElem?_map, hj']; exact congrArg some z
      exact hij (nd_ix S.nd e1 e2)
    exact ⟨by rw [upd_ne hne]; exact g1, g2.mono e rfl, g3⟩
  · have : ((o.eraseIdx i).map (·.1)).Sublist (o.map (·.1)) := (List.eraseIdx_sublist o i).map _
    exact this.nodup S.nd
/-- fewer are remembered -/
theorem Sat.drop {o' : Ow} (S : Sat K B G H o) (h : o'.Sublist o) : Sat K B G H o' :=
  ⟨S.sub, S.gx, S.gn, S.hx, S.dom, fun pm hm => S.ow pm (h.subset hm), (h.map _).nodup S.nd⟩
/-- behind a call: fp was handed in, fp' came back -/
theorem Sat.called {A fp fp' C : Ow} {E : XK} {X : Addr → Option (List (Str × D)) → Ow → Prop} (S : Sat K B G H (A ++ (fp ++ C))) (T : Sat K ⟨G, H, fp.map (·.1), E, X⟩ G' H' fp') : Sat K B G' H' (A ++ (fp' ++ C)) := by
  have nd := S.nd
  rw [List.map_append, List.map_append, List.nodup_append] at nd
  obtain ⟨ndA, ndFC, disA⟩ := nd
  rw [List.nodup_append] at ndFC
  obtain ⟨ndF, ndC, disC⟩ := ndFC
  have hb : ∀ a, B.H a ≠ none → H a ≠ none := S.dom
  -- an entry beside the footprint stays
  have stay : ∀ pm ∈ A ++ C, H' pm.1 = H pm.1 ∧ G' pm.1 = none := fun pm hm => by
    have hmo : pm ∈ A ++ (fp ++ C) := by
      rcases List.mem_append.mp hm with z | z
      · exact List.mem_append_left _ z
      · exact List.mem_append_right _ (List.mem_append_right _ z)
    obtain ⟨g1, g2, g3⟩ := S.ow pm hmo
    have hn : pm.1 ∉ fp.map (·.1) := fun z => by
      rcases List.mem_append.mp hm with q | q
      · exact disA pm.1 (List.mem_map_of_mem q) pm.1 (List.mem_append_left _ z) rfl
      · exact disC pm.1 z pm.1 (List.mem_map_of_mem q) rfl
    refine ⟨?_, (T.gn pm.1 g2.some).trans g1⟩
    cases q : H pm.1 with
    | none => exact absurd q g2.some
    | some u => exact T.hx pm.1 u hn q
  refine ⟨T.sub, S.gx.trans T.gx, fun a h => (T.gn a (hb a h)).trans (S.gn a h), fun a u hm h => ?_, fun a h => T.dom a (hb a h), fun pm hm => ?_, ?_⟩
  · refine T.hx a u (fun z => ?_) (S.hx a u hm h)
    obtain ⟨pm, h1, h2⟩ := List.mem_map.mp z
    have h3 := (S.ow pm (List.mem_append_right _ (List.mem_append_left _ h1))).2.2
    rw [h2] at h3
    rcases h3 with q | q
    · exact hm q
    · rw [q] at h; cases h
  · by_cases hm2 : pm ∈ A ++ C
    · obtain ⟨e1, e2⟩ := stay pm hm2
      have hmo : pm ∈ A ++ (fp ++ C) := by
        rcases List.mem_append.mp hm2 with z | z
        · exact List.mem_append_left _ z
        · exact List.mem_append_right _ (List.mem_append_right _ z)
      obtain ⟨g1, g2, g3⟩ := S.ow pm hmo
      exact ⟨e2, g2.mono T.gx e1, g3⟩
    · have hf : pm ∈ fp' := by
        rcases List.mem_append.mp hm with z | z
        · exact absurd (List.mem_append_left _ z) hm2
        · rcases List.mem_append.mp z with z | z
          · exact z
          · exact absurd (List.mem_append_right _ z) hm2
      obtain ⟨g1, g2, g3⟩ := T.ow pm hf
      refine ⟨g1, g2, ?_⟩
      rcases g3 with z | z
      · obtain ⟨qm, h1, h2⟩ := List.mem_map.mp z
        have h3 := (S.ow qm (List.mem_append_right _ (List.mem_append_left _ h1))).2.2
        rw [h2] at h3
        exact h3
      · refine .inr ?_
        cases q : B.H pm.1 with
        | none => rfl
        | some w => exact absurd z (hb pm.1 (by rw [q]; simp))
  · have fresh : ∀ qm ∈ A ++ C, ∀ pm ∈ fp', qm.1 ≠ pm.1 := fun qm hq pm hp z => by
      have hmo : qm ∈ A ++ (fp ++ C) := by
        rcases List.mem_append.mp hq with y | y
        · exact List.mem_append_left _ y
        · exact List.mem_append_right _ (List.mem_append_right _ y)
      rcases (T.ow pm hp).2.2 with y | y
      · rcases List.mem_append.mp hq with w | w
        · exact disA qm.1 (List.mem_map_of_mem w) pm.1 (List.mem_append_left _ y) z
        · exact disC pm.1 y qm.1 (List.mem_map_of_mem w) z.symm
      · exact (S.ow qm hmo).2.1.some (by rw [z]; exact y)
    rw [List.map_append, List.map_append, List.nodup_append]
    refine ⟨ndA, ?_, fun a ha b hb' z => ?_⟩
    · rw [List.nodup_append]
      refine ⟨T.nd, ndC, fun a ha b hb' z => ?_⟩
      obtain ⟨pm, h1, rfl⟩ := List.mem_map.mp ha
      obtain ⟨qm, h2, rfl⟩ := List.mem_map.mp hb'
      exact fresh qm (List.mem_append_right _ h2) pm h1 z.symm
    · obtain ⟨qm, h2, rfl⟩ := List.mem_map.mp ha
      rcases List.mem_append.mp hb' with y | y
      · obtain ⟨pm, h1, rfl⟩ := List.mem_map.mp y
        exact fresh qm (List.mem_append_left _ h2) pm h1 z
      · subst z
        exact disA _ (List.mem_map_of_mem h2) _ (List.mem_append_right _ y) rfl
end
end DK

set_option Elab.async false
set_option linter.all false
set_option maxRecDepth 100000
set_option maxHeartbeats 4000000
/-! DK2: expressions and tests over data. -/
namespace DK
open PySem PySem.Spec PyProof.Rows L2

section
variable (K : PySem.W.Frag) (B : Bs)
/-- what an expression gives: a datum and what is owned behind it -/
def EvD (te : TE) (env : List (Option D)) (o : Ow) (P : D → Ow → Prop) : Prop :=
  ∀ (G H : Hp) (σ : L2.St), XOk K B → Sat K B G H o → Sl K G σ env → ∀ Q : VK, (∀ v d G' H' o', Same G G' → Sat K B G' H' o' → Rep K G' v d → P d o' → Q v H') → te σ H Q
def EvT (tt : TT) (env : List (Option D)) (o : Ow) (P : Bool → Ow → Prop) : Prop :=
  ∀ (G H : Hp) (σ : L2.St), XOk K B → Sat K B G H o → Sl K G σ env → ∀ Q : Bool → Hp → Prop, (∀ b G' H' o', Same G G' → Sat K B G' H' o' → P b o' → Q b H') → tt σ H Q
def EvA (ta : TA) (env : List (Option D)) (o : Ow) (P : List D → Ow → Prop) : Prop :=
  ∀ (G H : Hp) (σ : L2.St), XOk K B → Sat K B G H o → Sl K G σ env → ∀ Q : List V → Hp → Prop, (∀ vs ds G' H' o', Same G G' → Sat K B G' H' o' → Reps K G' vs ds → P ds o' → Q vs H') → ta σ H Q
/-- an operation of two values; of one; of a list -/
def RvD (r : R2) (x y : D) (o : Ow) (P : D → Ow → Prop) : Prop :=
  ∀ (G H : Hp) (v w : V), XOk K B → Sat K B G H o → Rep K G v x → Rep K G w y → ∀ Q : VK, (∀ u d G' H' o', Same G G' → Sat K B G' H' o' → Rep K G' u d → P d o' → Q u H') → r v w H Q
def RuD (r : V → Hp → VK → Prop) (x : D) (o : Ow) (P : D → Ow → Prop) : Prop :=
  ∀ (G H : Hp) (v : V), XOk K B → Sat K B G H o → Rep K G v x → ∀ Q : VK, (∀ u d G' H' o', Same G G' → Sat K B G' H' o' → Rep K G' u d → P d o' → Q u H') → r v H Q
def RcD (r : List V → Hp → VK → Prop) (xs : List D) (o : Ow) (P : D → Ow → Prop) : Prop :=
  ∀ (G H : Hp) (vs : List V), XOk K B → Sat K B G H o → Reps K G vs xs → ∀ Q : VK, (∀ u d G' H' o', Same G G' → Sat K B G' H' o' → Rep K G' u d → P d o' → Q u H') → r vs H Q
/-- a built-in's method: the receiver, the arguments -/
def RmD (T : String) (r : V → List V → Hp → VK → Prop) (x : D) (xs : List D) (o : Ow) (P : D → Ow → Prop) : Prop :=
  ∀ (G H : Hp) (v : V) (vs : List V), XOk K B → Sat K B G H o → Rep K G v x → Reps K G vs xs → ∀ Q : VK, (∀ u d G' H' o', Same G G' → Sat K B G' H' o' → Rep K G' u d → P d o' → Q u H') → r v vs H Q
end

section
variable {K : PySem.W.Frag} {B : Bs} {env : List (Option D)} {o : Ow} {P : D → Ow → Prop} {ta tb tc te : TE} {tt t u : TT} {d x y : D}
/-- the datum that a part gives is not changed by weaker wishes -/
theorem EvD.imp {P' : D → Ow → Prop} (h : EvD K B te env o P) (i : ∀ d o', P d o' → P' d o') : EvD K B te env o P' := fun G H σ X S L Q q => h G H σ X S L Q fun v d G' H' o' a b c e => q v d G' H' o' a b c (i d o' e)
theorem EvT.imp {P P' : Bool → Ow → Prop} (h : EvT K B tt env o P) (i : ∀ d o', P d o' → P' d o') : EvT K B tt env o P' := fun G H σ X S L Q q => h G H σ X S L Q fun d G' H' o' a b e => q d G' H' o' a b (i d o' e)
/-- an owned thing that is given is data from here on -/
theorem EvD.freeze (h : EvD K B te env o fun d o' => ∃ (i : Nat) (p : Addr) (m : M), d = dR p ∧ o'[i]? = some (p, m) ∧ B.H p = none ∧ P m.toD (o'.eraseIdx i)) : EvD K B te env o P := fun G H σ X S L Q q =>
  h G H σ X S L Q fun v d G' H' o' e S' r ⟨i, p, m, hd, hi, hb, hP⟩ => by
    subst hd
    obtain ⟨G2, e2, S2, r2⟩ := S'.freeze hi hb
    cases r
    exact q _ _ G2 H' _ (e.trans e2) S2 r2 hP
theorem ed_var {i : Nat} (h : env[i]? = some (some d)) (q : P d o) : EvD K B (tVar i) env o P := fun G H σ X S L Q k => by
  obtain ⟨v, e, r⟩ := L.get i d h
  exact ⟨v, e, k v d G H o (Same.refl G) S r q⟩
theorem ed_c {v : V} (q : P (.sc v) o) : EvD K B (tC v) env o P := fun G H σ X S L Q k => k v _ G H o (Same.refl G) S (.sc v) q
theorem ed_op {r : R2} (h : EvD K B ta env o fun x o1 => EvD K B tb env o1 fun y o2 => RvD K B r x y o2 P) : EvD K B (tOp r ta tb) env o P := fun G H σ X S L Q k =>
  h G H σ X S L _ fun v x G1 H1 o1 e1 S1 r1 h1 => h1 G1 H1 σ X S1 (L.mono e1) _ fun w y G2 H2 o2 e2 S2 r2 h2 =>
    h2 G2 H2 v w X S2 (r1.mono e2) r2 Q fun u d G3 H3 o3 e3 => k u d G3 H3 o3 ((e1.trans e2).trans e3)
theorem ed_un {r : V → Hp → VK → Prop} (h : EvD K B ta env o fun x o1 => RuD K B r x o1 P) : EvD K B (tUn r ta) env o P := fun G H σ X S L Q k =>
  h G H σ X S L _ fun v x G1 H1 o1 e1 S1 r1 h1 => h1 G1 H1 v X S1 r1 Q fun u d G3 H3 o3 e3 => k u d G3 H3 o3 (e1.trans e3)
theorem ed_cb {r : List V → Hp → VK → Prop} {tas : TA} (h : EvA K B tas env o fun xs o1 => RcD K B r xs o1 P) : EvD K B (tCB r tas) env o P := fun G H σ X S L Q k =>
  h G H σ X S L _ fun v x G1 H1 o1 e1 S1 r1 h1 => h1 G1 H1 v X S1 r1 Q fun u d G3 H3 o3 e3 => k u d G3 H3 o3 (e1.trans e3)
theorem ea_nil {P : List D → Ow → Prop} (q : P [] o) : EvA K B tNil env o P := fun G H σ X S L Q k => k [] [] G H o (Same.refl G) S .nil q
theorem ea_cons {P : List D → Ow → Prop} {tr : TA} (h : EvD K B ta env o fun x o1 => EvA K B tr env o1 fun xs o2 => P (x :: xs) o2) : EvA K B (tCons ta tr) env o P := fun G H σ X S L Q k =>
  h G H σ X S L _ fun v x G1 H1 o1 e1 S1 r1 h1 => h1 G1 H1 σ X S1 (L.mono e1) _ fun vs xs G2 H2 o2 e2 S2 r2 h2 => k (v :: vs) (x :: xs) G2 H2 o2 (e1.trans e2) S2 (.cons (r1.mono e2) r2) h2
theorem ed_tup {tas : TA} (h : EvA K B tas env o fun xs o1 => xs.length ≤ 1000000 ∧ P (.tup xs) o1) : EvD K B (tTup tas) env o P := fun G H σ X S L Q k =>
  h G H σ X S L _ fun vs xs G1 H1 o1 e1 S1 r1 ⟨hl, h1⟩ => by
    refine ⟨Nat.le_trans (Nat.le_of_eq r1.length) (Nat.le_trans hl (by decide)), fun p hp => ?_⟩
    obtain ⟨e, S2⟩ := S1.data (u := .tup vs) hp
    exact k _ _ _ _ o1 (e1.trans e) S2 (.tup upd_same (r1.mono e)) h1
theorem ed_lst {tas : TA} (h : EvA K B tas env o fun xs o1 => xs.length ≤ 1000000 ∧ P (.lst xs) o1) : EvD K B (tLst tas) env o P := fun G H σ X S L Q k =>
  h G H σ X S L _ fun vs xs G1 H1 o1 e1 S1 r1 ⟨hl, h1⟩ => by
    refine ⟨Nat.le_trans (Nat.le_of_eq r1.length) (Nat.le_trans hl (by decide)), fun p hp => ?_⟩
    obtain ⟨e, S2⟩ := S1.data (u := .lst vs) hp
    exact k _ _ _ _ o1 (e1.trans e) S2 (.lst upd_same (r1.mono e)) h1
/-- a new list, owned -/
theorem ed_lstO {tas : TA} (h : EvA K B tas env o fun xs o1 => xs.length ≤ 1000000 ∧ ∀ p, B.H p = none → P (dR p) (o1 ++ [(p, .lst xs)])) : EvD K B (tLst tas) env o P := fun G H σ X S L Q k =>
  h G H σ X S L _ fun vs xs G1 H1 o1 e1 S1 r1 ⟨hl, h1⟩ => by
    refine ⟨Nat.le_trans (Nat.le_of_eq r1.length) (Nat.le_trans hl (by decide)), fun p hp => ?_⟩
    exact k _ _ G1 _ _ e1 (S1.own (m := .lst xs) hp ⟨vs, upd_same, r1⟩) (.sc _) (h1 p (S1.bnone hp))
theorem ed_dnew (h : P (.dic []) o) : EvD K B tDNewK env o P := fun G H σ X S L Q k => fun p hp => by
  obtain ⟨e, S2⟩ := S.data (u := .dK []) hp
  exact k _ _ _ _ o e S2 (.dic upd_same .nil) h
theorem ed_dnewO (h : ∀ p, B.H p = none → P (dR p) (o ++ [(p, .dic [])])) : EvD K B tDNewK env o P := fun G H σ X S L Q k => fun p hp =>
  k _ _ G _ _ (Same.refl G) (S.own (m := .dic []) hp ⟨[], upd_same, .nil⟩) (.sc _) (h p (S.bnone hp))

/-! tests -/
theorem et_test {te : TE} {P : Bool → Ow → Prop} (h : EvD K B te env o fun d o' => ∃ b, d = dB b ∧ P b o') : EvT K B (tTest te) env o P := fun G H σ X S L Q k =>
  h G H σ X S L _ fun v d G' H' o' e S' r ⟨b, hd, hP⟩ => by
    subst hd
    cases r
    exact ⟨b, rfl, k b G' H' o' e S' hP⟩
theorem et_B {te : TE} {P : Bool → Ow → Prop} (h : EvD K B te env o fun d o' => ∃ b, d = dB b ∧ P b o') : EvT K B (tB te) env o P := fun G H σ X S L Q k =>
  h G H σ X S L _ fun v d G' H' o' e S' r ⟨b, hd, hP⟩ => by
    subst hd
    cases r
    exact ⟨b, rfl, k b G' H' o' e S' hP⟩
theorem et_and {P : Bool → Ow → Prop} (h : EvT K B t env o fun b o1 => (b = true → EvT K B u env o1 P) ∧ (b = false → P false o1)) : EvT K B (tAnd t u) env o P := fun G H σ X S L Q k =>
  h G H σ X S L _ fun b G' H' o' e S' ⟨h1, h2⟩ => by
    cases b with
    | true => exact iteT (h1 rfl G' H' σ X S' (L.mono e) Q fun c G2 H2 o2 e2 => k c G2 H2 o2 (e.trans e2))
    | false => exact iteF (k false G' H' o' e S' (h2 rfl))
theorem et_or {P : Bool → Ow → Prop} (h : EvT K B t env o fun b o1 => (b = true → P true o1) ∧ (b = false → EvT K B u env o1 P)) : EvT K B (tOr t u) env o P := fun G H σ X S L Q k =>
  h G H σ X S L _ fun b G' H' o' e S' ⟨h1, h2⟩ => by
    cases b with
    | false => exact iteF (h2 rfl G' H' σ X S' (L.mono e) Q fun c G2 H2 o2 e2 => k c G2 H2 o2 (e.trans e2))
    | true => exact iteT (k true G' H' o' e S' (h1 rfl))
theorem et_not {P : Bool → Ow → Prop} (h : EvT K B t env o fun b o1 => P (!b) o1) : EvT K B (tNot t) env o P := fun G H σ X S L Q k =>
  h G H σ X S L _ fun b G' H' o' e S' h1 => k _ G' H' o' e S' h1
theorem et_yes {P : Bool → Ow → Prop} (h : P true o) : EvT K B tYes env o P := fun G H σ X S L Q k => k true G H o (Same.refl G) S h
theorem ed_andV (h : EvD K B ta env o fun d o1 => ∃ b, d = dB b ∧ (b = true → EvD K B tb env o1 P) ∧ (b = false → P (dB false) o1)) : EvD K B (tAndV ta tb) env o P := fun G H σ X S L Q k =>
  h G H σ X S L _ fun v d G' H' o' e S' r ⟨b, hd, h1, h2⟩ => by
    subst hd
    cases r
    refine ⟨b, rfl, ?_⟩
    cases b with
    | true => exact iteT (h1 rfl G' H' σ X S' (L.mono e) Q fun c d2 G2 H2 o2 e2 => k c d2 G2 H2 o2 (e.trans e2))
    | false => exact iteF (k _ _ G' H' o' e S' (.sc _) (h2 rfl))
theorem ed_orV (h : EvD K B ta env o fun d o1 => ∃ b, d = dB b ∧ (b = true → P (dB true) o1) ∧ (b = false → EvD K B tb env o1 P)) : EvD K B (tOrV ta tb) env o P := fun G H σ X S L Q k =>
  h G H σ X S L _ fun v d G' H' o' e S' r ⟨b, hd, h1, h2⟩ => by
    subst hd
    cases r
    refine ⟨b, rfl, ?_⟩
    cases b with
    | false => exact iteF (h2 rfl G' H' σ X S' (L.mono e) Q fun c d2 G2 H2 o2 e2 => k c d2 G2 H2 o2 (e.trans e2))
    | true => exact iteT (k _ _ G' H' o' e S' (.sc _) (h1 rfl))
theorem ed_notV (h : EvD K B ta env o fun d o1 => ∃ b, d = dB b ∧ P (dB (!b)) o1) : EvD K B (tNotV ta) env o P := fun G H σ X S L Q k =>
  h G H σ X S L _ fun v d G' H' o' e S' r ⟨b, hd, h1⟩ => by
    subst hd
    cases r
    exact ⟨b, rfl, k _ _ G' H' o' e S' (.sc _) h1⟩
theorem ed_if (h : EvT K B t env o fun b o1 => (b = true → EvD K B ta env o1 P) ∧ (b = false → EvD K B tb env o1 P)) : EvD K B (tIf t ta tb) env o P := fun G H σ X S L Q k =>
  h G H σ X S L _ fun b G' H' o' e S' ⟨h1, h2⟩ => by
    cases b with
    | true => exact iteT (h1 rfl G' H' σ X S' (L.mono e) Q fun c d2 G2 H2 o2 e2 => k c d2 G2 H2 o2 (e.trans e2))
    | false => exact iteF (h2 rfl G' H' σ X S' (L.mono e) Q fun c d2 G2 H2 o2 e2 => k c d2 G2 H2 o2 (e.trans e2))
/-- a < b < c -/
theorem ed_chain {r r' : R2} (h : EvD K B ta env o fun x o1 => EvD K B tb env o1 fun y o2 => RvD K B r x y o2 fun z o3 => ∃ b, z = dB b ∧ (b = true → EvD K B tc env o3 fun w o4 => RvD K B r' y w o4 P) ∧ (b = false → P (dB false) o3)) :
    EvD K B (tChain r r' ta tb tc) env o P := fun G H σ X S L Q k =>
  h G H σ X S L _ fun v x G1 H1 o1 e1 S1 r1 h1 => h1 G1 H1 σ X S1 (L.mono e1) _ fun w y G2 H2 o2 e2 S2 r2 h2 =>
    h2 G2 H2 v w X S2 (r1.mono e2) r2 _ fun u d G3 H3 o3 e3 S3 r3 ⟨b, hd, hy, hn⟩ => by
      subst hd
      cases r3
      refine ⟨b, rfl, ?_⟩
      cases b with
      | true => exact iteT (hy rfl G3 H3 σ X S3 (L.mono ((e1.trans e2).trans e3)) _ fun w' z G4 H4 o4 e4 S4 r4 h4 => h4 G4 H4 w w' X S4 (r2.mono (e3.trans e4)) r4 Q fun u2 d2 G5 H5 o5 e5 => k u2 d2 G5 H5 o5 ((((e1.trans e2).trans e3).trans e4).trans e5))
      | false => exact iteF (k _ _ G3 H3 o3 ((e1.trans e2).trans e3) S3 (.sc _) (hn rfl))

/-! operations on scalars -/
theorem rv_I0 {g : Int → Int → V} {i j : Int} (q : P (.sc (g i j)) o) : RvD K B (rI0 g) (dI i) (dI j) o P := fun G H v w X S r1 r2 Q k => by
  cases r1
  cases r2
  exact ⟨i, j, rfl, rfl, k _ _ G H o (Same.refl G) S (.sc _) q⟩
theorem rv_I {C : Int → Int → Prop} {g : Int → Int → V} {i j : Int} (hc : C i j) (q : P (.sc (g i j)) o) : RvD K B (rI C g) (dI i) (dI j) o P := fun G H v w X S r1 r2 Q k => by
  cases r1
  cases r2
  exact ⟨i, j, rfl, rfl, hc, k _ _ G H o (Same.refl G) S (.sc _) q⟩
theorem rv_eq {a b : V} (h : scal a b = true) (q : P (dB (decide (a = b))) o) : RvD K B rEq (.sc a) (.sc b) o P := fun G H v w X S r1 r2 Q k => by
  cases r1
  cases r2
  exact ⟨h, k _ _ G H o (Same.refl G) S (.sc _) q⟩
theorem rv_ne {a b : V} (h : scal a b = true) (q : P (dB (!decide (a = b))) o) : RvD K B rNe (.sc a) (.sc b) o P := fun G H v w X S r1 r2 Q k => by
  cases r1
  cases r2
  exact ⟨h, k _ _ G H o (Same.refl G) S (.sc _) q⟩
/-! data without addresses, as the library has it -/
mutual
def toPy : D → Option PyData
  | .sc .non => some .none
  | .sc (.bl b) => some (.bool b)
  | .sc (.int i) => some (.int i)
  | .sc (.str s) => some (.str s)
  | .sc _ => none
  | .lst xs => (toPys xs).map .list
  | .tup xs => (toPys xs).map .tuple
  | .dic _ => none
  | .obj _ _ => none
def toPys : List D → Option (List PyData)
  | [] => some []
  | x :: xs => match toPy x, toPys xs with
    | some a, some b => some (a :: b)
    | _, _ => none
end
section
variable {G H : Hp}
mutual
theorem Rep.dp (e : Same G H) : ∀ {v : V} {d : D} {p : PyData}, Rep K G v d → toPy d = some p → Dp K H v p
  | v, .sc w, p, r, h => by
    cases r
    cases v with
    | non => simp only [toPy, Option.some.injEq] at h; subst h; exact .non
    | bl b => simp only [toPy, Option.some.injEq] at h; subst h; exact .bl b
    | int b => simp only [toPy, Option.some.injEq] at h; subst h; exact .int b
    | str b => simp only [toPy, Option.some.injEq] at h; subst h; exact .str b
    | byt b => simp [toPy] at h
    | flt b => simp [toPy] at h
    | ref b => simp [toPy] at h
    | ty b => simp [toPy] at h
  | v, .lst xs, p, r, h => by
    cases r with
    | lst h1 h2 =>
      simp only [toPy, Option.map_eq_some_iff] at h
      obtain ⟨ps, h3, rfl⟩ := h
      exact .lst (.of (e _ _ h1)) (Reps.dp e h2 h3)
  | v, .tup xs, p, r, h => by
    cases r with
    | tup h1 h2 =>
      simp only [toPy, Option.map_eq_some_iff] at h
      obtain ⟨ps, h3, rfl⟩ := h
      exact .tup (.of (e _ _ h1)) (Reps.dp e h2 h3)
  | v, .dic xs, p, r, h => by simp [toPy] at h
  | v, .obj C xs, p, r, h => by simp [toPy] at h
theorem Reps.dp (e : Same G H) : ∀ {vs : List V} {ds : List D} {ps : List PyData}, Reps K G vs ds → toPys ds = some ps → DpAll K H vs ps
  | vs, [], ps, r, h => by
    cases r
    simp only [toPys, Option.some.injEq] at h
    subst h
    exact .nil
  | vs, d :: ds, ps, r, h => by
    cases r with
    | cons r1 r2 =>
      simp only [toPys] at h
      cases e1 : toPy d with
      | none => rw [e1] at h; simp at h
      | some a =>
        cases e2 : toPys ds with
        | none => rw [e1, e2] at h; simp at h
        | some b =>
          rw [e1, e2] at h
          simp only [Option.some.injEq] at h
          subst h
          exact .cons (Rep.dp e r1 e1) (Reps.dp e r2 e2)
end
end
theorem rv_eqD {a b : PyData} (h1 : toPy x = some a) (h2 : toPy y = some b) (s1 : SeqAt.shaped a = true) (s2 : SeqAt.shaped b = true) (q : P (dB (PyData.eqv a b)) o) : RvD K B (rEqD K) x y o P := fun G H v w X S r1 r2 Q k =>
  ⟨a, b, r1.dp S.sub h1, r2.dp S.sub h2, s1, s2, k _ _ G H o (Same.refl G) S (.sc _) q⟩
theorem rv_neD {a b : PyData} (h1 : toPy x = some a) (h2 : toPy y = some b) (s1 : SeqAt.shaped a = true) (s2 : SeqAt.shaped b = true) (q : P (dB (!PyData.eqv a b)) o) : RvD K B (rNeD K) x y o P := fun G H v w X S r1 r2 Q k =>
  ⟨a, b, r1.dp S.sub h1, r2.dp S.sub h2, s1, s2, k _ _ G H o (Same.refl G) S (.sc _) q⟩
/-- is None, is not None: of anything -/
def isNon : D → Bool
  | .sc .non => true
  | _ => false
theorem rep_non {G : Hp} {v : V} (r : Rep K G v d) : decide (v = .non) = isNon d := by
  cases r with
  | sc v => cases v <;> simp [isNon]
  | _ => simp [isNon]
theorem rv_isN (q : P (dB (isNon x)) o) : RvD K B rIsN x dN o P := fun G H v w X S r1 r2 Q k => by
  cases r2
  refine ⟨rfl, ?_⟩
  rw [rep_non r1]
  exact k _ _ G H o (Same.refl G) S (.sc _) q
theorem rv_notN (q : P (dB (!isNon x)) o) : RvD K B rNotN x dN o P := fun G H v w X S r1 r2 Q k => by
  cases r2
  refine ⟨rfl, ?_⟩
  rw [rep_non r1]
  exact k _ _ G H o (Same.refl G) S (.sc _) q
theorem ru_neg {i : Int} (q : P (dI (-i)) o) : RuD K B (rU fun i => .int (-i)) (dI i) o P := fun G H v X S r1 Q k => by
  cases r1
  exact ⟨i, rfl, k _ _ G H o (Same.refl G) S (.sc _) q⟩

/-! + of ints, texts, lists, tuples -/
def rAddStr : R2 := fun x y H Q => ∃ i j, x = .str i ∧ y = .str j ∧ i.length + j.length ≤ sizeLine ∧ Q (.str (i ++ j)) H
abbrev rPlus : R2 := rI0 fun i j => .int (i + j)
/-- any of these four -/
def rAddU (K : PySem.W.Frag) : R2 := fun x y H Q => rPlus x y H Q ∨ (rAddStr x y H Q ∨ (rCat x y H Q ∨ rCatT K x y H Q))
theorem op_addU {X : Cx} : OpR X (binaryOp .Add) (rAddU X.K) := OpR.or op_add (OpR.or op_add_str (OpR.or op_cat op_catT))
theorem rv_addI {i j : Int} (q : P (dI (i + j)) o) : RvD K B (rAddU K) (dI i) (dI j) o P := fun G H v w X S r1 r2 Q k => .inl (rv_I0 (g := fun i j => .int (i + j)) q G H v w X S r1 r2 Q k)
theorem rv_addS {i j : Str} (hl : i.length + j.length ≤ 16000000) (q : P (dS (i ++ j)) o) : RvD K B (rAddU K) (dS i) (dS j) o P := fun G H v w X S r1 r2 Q k => by
  cases r1
  cases r2
  exact .inr (.inl ⟨i, j, rfl, rfl, Nat.le_trans hl (by decide), k _ _ G H o (Same.refl G) S (.sc _) q⟩)
theorem rv_addL {xs ys : List D} (hl : xs.length + ys.length ≤ 1000000) (q : P (.lst (xs ++ ys)) o) : RvD K B (rAddU K) (.lst xs) (.lst ys) o P := fun G H v w X S r1 r2 Q k => by
  cases r1 with
  | lst h1 a1 =>
    cases r2 with
    | lst h2 a2 =>
      refine .inr (.inr (.inl ⟨_, _, _, _, rfl, rfl, S.sub _ _ h1, S.sub _ _ h2, ?_, fun p hp => ?_⟩))
      · rw [a1.length, a2.length]; exact Nat.le_trans hl (by decide)
      · obtain ⟨e, S2⟩ := S.data (u := .lst _) hp
        exact k _ _ _ _ o e S2 (.lst upd_same ((a1.mono e).append (a2.mono e))) q
theorem rv_addT {xs ys : List D} (hx : xs ≠ []) (hl : xs.length + ys.length ≤ 1000000) (q : P (.tup (xs ++ ys)) o) : RvD K B (rAddU K) (.tup xs) (.tup ys) o P := fun G H v w X S r1 r2 Q k => by
  cases r1 with
  | tup h1 a1 =>
    cases r2 with
    | tup h2 a2 =>
      refine .inr (.inr (.inr ⟨_, _, _, _, rfl, rfl, .of (S.sub _ _ h1), .of (S.sub _ _ h2), ?_, ?_, fun z => ?_, fun z p hp => ?_⟩))
      · rintro rfl
        cases a1
        exact hx rfl
      · rw [a1.length, a2.length]; exact Nat.le_trans hl (by decide)
      · subst z
        cases a2
        rw [List.append_nil] at q
        exact k _ _ G H o (Same.refl G) S (.tup h1 a1) q
      · obtain ⟨e, S2⟩ := S.data (u := .tup _) hp
        exact k _ _ _ _ o e S2 (.tup upd_same ((a1.mono e).append (a2.mono e))) q

/-! an item -/
theorem ix_len {i : Int} {n j : Nat} : ixN n i = some j → j < n := by
  unfold ixN
  intro h
  split at h
  · split at h
    · cases h; omega
    · cases h
  · split at h
    · cases h; omega
    · cases h
/-- the item of a list at a place (from behind where it is below 0) -/
def itemD (xs : List D) (i : Int) : Option D := (ixN xs.length i).bind fun j => xs[j]?
theorem item_rep {G : Hp} {vs : List V} {xs : List D} {i : Int} (r : Reps K G vs xs) (h : itemD xs i = some d) : ∃ v, atI vs i = some v ∧ Rep K G v d := by
  unfold itemD at h
  obtain ⟨j, h1, h2⟩ := Option.bind_eq_some_iff.mp h
  obtain ⟨v, e1, e2⟩ := r.get h2
  exact ⟨v, by unfold atI; rw [r.length, h1]; exact e1, e2⟩
theorem itemD_nat {xs : List D} {i : Nat} (h : xs[i]? = some d) : itemD xs (i : Int) = some d := by
  have hl := (List.getElem?_eq_some_iff.mp h).1
  unfold itemD ixN
  rw [if_pos (Int.natCast_nonneg i), if_pos (by exact_mod_cast hl)]
  exact h
theorem rv_ixL {xs : List D} {i : Int} (h : itemD xs i = some d) (q : P d o) : RvD K B (rIx K) (.lst xs) (dI i) o P := fun G H v w X S r1 r2 Q k => by
  cases r2
  cases r1 with
  | lst h1 a1 =>
    obtain ⟨v, e1, e2⟩ := item_rep a1 h
    exact .inl ⟨_, _, i, v, rfl, rfl, .of (S.sub _ _ h1), e1, k _ _ G H o (Same.refl G) S e2 q⟩
theorem rv_ixT {xs : List D} {i : Int} (h : itemD xs i = some d) (q : P d o) : RvD K B (rIx K) (.tup xs) (dI i) o P := fun G H v w X S r1 r2 Q k => by
  cases r2
  cases r1 with
  | tup h1 a1 =>
    obtain ⟨v, e1, e2⟩ := item_rep a1 h
    exact .inr (.inl ⟨_, _, i, v, rfl, rfl, .of (S.sub _ _ h1), e1, k _ _ G H o (Same.refl G) S e2 q⟩)
theorem rv_ixS {z : Str} {i : Int} {c : Nat} (hl : z.length ≤ 16000000) (h : atI z.cps.toList i = some c) (q : P (dS ⟨#[c]⟩) o) : RvD K B (rIx K) (dS z) (dI i) o P := fun G H v w X S r1 r2 Q k => by
  cases r2
  cases r1
  exact .inr (.inr ⟨z, i, c, rfl, rfl, Nat.le_trans hl (by decide), h, k _ _ G H o (Same.refl G) S (.sc _) q⟩)
/-- of an owned list -/
theorem rv_ixO {p : Addr} {xs : List D} {i : Int} {n : Nat} (hn : o[n]? = some (p, .lst xs)) (h : itemD xs i = some d) (q : P d o) : RvD K B (rIx K) (dR p) (dI i) o P := fun G H v w X S r1 r2 Q k => by
  cases r2
  cases r1
  obtain ⟨g1, ⟨vs, g2, a1⟩, _⟩ := S.ow _ (List.mem_of_getElem? hn)
  obtain ⟨v, e1, e2⟩ := item_rep a1 h
  exact .inl ⟨_, _, i, v, rfl, rfl, .of g2, e1, k _ _ G H o (Same.refl G) S e2 q⟩
/-- of a list that stands still (handed in, or written) -/
theorem rv_ixF {a : Addr} {vs : List V} {v : V} {i : Int} (hs : SqL K B.G a vs) (h : atI vs i = some v) (q : P (.sc v) o) : RvD K B (rIx K) (dR a) (dI i) o P := fun G H v' w X S r1 r2 Q k => by
  cases r2
  cases r1
  exact .inl ⟨_, _, i, v, rfl, rfl, same_sqL (S.gx.trans S.sub) hs, h, k _ _ G H o (Same.refl G) S (.sc _) q⟩
end
end DK

set_option Elab.async false
set_option linter.all false
set_option maxRecDepth 100000
set_option maxHeartbeats 4000000
/-! DK3: defs by what they do to data: contracts, calls, methods, instances. -/
namespace DK
open PySem PySem.Spec PyProof.Rows L2

/-- a def over data: from the arguments and the owned things handed in, what is wanted of the answer and of what is owned behind, what is wanted where it raises -/
abbrev DR := List D → Ow → (D → Ow → Prop) → (Addr → Option (List (Str × D)) → Ow → Prop) → Prop
def spR (K : PySem.W.Frag) (R : DR) : Sp := fun vs H Q E => ∃ (G : Hp) (ds : List D) (fp : Ow) (P : D → Ow → Prop) (X : Addr → Option (List (Str × D)) → Ow → Prop), Same G H ∧ Reps K G vs ds ∧ (∀ pm ∈ fp, G pm.1 = none ∧ MOk K G H pm.1 pm.2) ∧ (fp.map (·.1)).Nodup ∧
  R ds fp P X ∧ XOk K ⟨G, H, fp.map (·.1), E, X⟩ ∧ ∀ v d G' H' fp', Sat K ⟨G, H, fp.map (·.1), E, X⟩ G' H' fp' → Rep K G' v d → P d fp' → Q v H'
/-- nothing is raised -/
abbrev X0 : Addr → Option (List (Str × D)) → Ow → Prop := fun _ _ _ => False
theorem XOk.none {K : PySem.W.Frag} {G H : Hp} {M : List Addr} {E : XK} : XOk K ⟨G, H, M, E, X0⟩ := ⟨fun _ _ _ _ _ h => h.elim, fun _ _ _ _ _ _ _ _ _ _ _ h => h.elim⟩

section
variable {K : PySem.W.Frag} {B : Bs} {env : List (Option D)} {o : Ow} {P : D → Ow → Prop} {ta tb tc te : TE} {d x y : D}

theorem sat_split {G H : Hp} {A fp C : Ow} (S : Sat K B G H (A ++ (fp ++ C))) : (∀ pm ∈ fp, G pm.1 = none ∧ MOk K G H pm.1 pm.2) ∧ (fp.map (·.1)).Nodup := by
  refine ⟨fun pm h => ?_, ?_⟩
  · obtain ⟨a, b, _⟩ := S.ow pm (List.mem_append_right _ (List.mem_append_left _ h))
    exact ⟨a, b⟩
  · have n := S.nd
    rw [List.map_append, List.map_append, List.nodup_append] at n
    exact (List.nodup_append.mp n.2.1).1
/-- the heart of a call: from a state with the footprint in it -/
theorem spR_call {G H : Hp} {A fp C : Ow} {R : DR} {vs : List V} {ds : List D} {Q : VK} {E : XK} {X : Addr → Option (List (Str × D)) → Ow → Prop} {P' : D → Ow → Prop} (S : Sat K B G H (A ++ (fp ++ C))) (r : Reps K G vs ds) (h : R ds fp P' X)
    (hx : XOk K ⟨G, H, fp.map (·.1), E, X⟩) (k : ∀ v d G' H' fp', Same G G' → Sat K B G' H' (A ++ (fp' ++ C)) → Rep K G' v d → P' d fp' → Q v H') : spR K R vs H Q E := by
  obtain ⟨h1, h2⟩ := sat_split S
  exact ⟨G, ds, fp, P', X, S.sub, r, h1, h2, h, hx, fun v d G' H' fp' T rv p => k v d G' H' fp' T.gx (S.called T) rv p⟩
/-- what the callee raises is the caller's to raise -/
theorem XOk.call {G H : Hp} {A fp C : Ow} (S : Sat K B G H (A ++ (fp ++ C))) (X : XOk K B) : XOk K ⟨G, H, fp.map (·.1), B.E, fun cl fs o' => B.X cl fs (A ++ (o' ++ C))⟩ :=
  ⟨fun cl G' H' o' T h => X.1 cl G' H' _ (S.called T) h, fun cl G' H' o' d vs fs T hd hb r h => by
    refine X.2 cl G' H' _ d vs fs (S.called T) hd ?_ r h
    exact S.bnone hb⟩
/-- f(..) where nothing is raised -/
theorem ed_call {R : DR} {dvs : List V} {tas : TA} {E : XK} (h : EvA K B tas env o fun ds o1 => ∃ A fp C, o1 = A ++ (fp ++ C) ∧ R (ds ++ dvs.map D.sc) fp (fun d fp' => P d (A ++ (fp' ++ C))) X0) : EvD K B (tCall (spR K R) dvs E tas) env o P := fun G H σ X S L Q k =>
  h G H σ X S L _ fun vs ds G1 H1 o1 e1 S1 r1 ⟨A, fp, C, ho, hR⟩ => by
    subst ho
    exact spR_call S1 (r1.append (Reps.sc dvs)) hR XOk.none fun v d G' H' fp' e2 S2 r2 p => k v d G' H' _ (e1.trans e2) S2 r2 p
/-- f(..) that may raise; what is raised leaves the def -/
theorem ed_callX {R : DR} {dvs : List V} {tas : TA} (h : EvA K B tas env o fun ds o1 => ∃ A fp C, o1 = A ++ (fp ++ C) ∧ R (ds ++ dvs.map D.sc) fp (fun d fp' => P d (A ++ (fp' ++ C))) (fun cl fs fp' => B.X cl fs (A ++ (fp' ++ C)))) : EvD K B (tCall (spR K R) dvs B.E tas) env o P := fun G H σ X S L Q k =>
  h G H σ X S L _ fun vs ds G1 H1 o1 e1 S1 r1 ⟨A, fp, C, ho, hR⟩ => by
    subst ho
    exact spR_call S1 (r1.append (Reps.sc dvs)) hR (X.call S1) fun v d G' H' fp' e2 S2 r2 p => k v d G' H' _ (e1.trans e2) S2 r2 p
/-- a pure def: nothing owned is handed in -/
theorem ed_call0 {R : DR} {dvs : List V} {tas : TA} {E : XK} (h : EvA K B tas env o fun ds o1 => R (ds ++ dvs.map D.sc) [] (fun d fp' => P d (o1 ++ fp')) X0) : EvD K B (tCall (spR K R) dvs E tas) env o P :=
  ed_call fun G H σ X S L Q k => h G H σ X S L Q fun vs ds G' H' o' e S' r p => k vs ds G' H' o' e S' r ⟨o', [], [], by simp, by simpa using p⟩

/-- .. and what is owned stays -/
theorem ed_callP {R : DR} {tas : TA} {E : XK} (h : EvA K B tas env o fun ds o1 => R ds [] (fun d fp' => fp' = [] ∧ P d o1) X0) : EvD K B (tCall (spR K R) [] E tas) env o P := fun G H σ X S L Q k =>
  h G H σ X S L _ fun vs ds G1 H1 o1 e1 S1 r1 hR => by
    have S2 : Sat K B G1 H1 (o1 ++ ([] ++ [])) := by simpa using S1
    have r2 : Reps K G1 (vs ++ []) ds := by simpa using r1
    refine spR_call S2 r2 hR XOk.none fun v d G' H' fp' e2 S3 r3 ⟨p1, p2⟩ => ?_
    subst p1
    exact k v d G' H' o1 (e1.trans e2) (by simpa using S3) r3 p2

/-! instances: owned, or data -/
def InsD (C : Addr) (r : D) (o : Ow) (fs : List (Str × D)) : Prop := (∃ (i : Nat) (p : Addr), r = dR p ∧ o[i]? = some (p, .ins C fs)) ∨ r = .obj C fs
theorem InsD.own {C p : Addr} {fs : List (Str × D)} (i : Nat) (h : o[i]? = some (p, .ins C fs)) : InsD C (dR p) o fs := .inl ⟨i, p, rfl, h⟩
theorem InsD.dat {C : Addr} {fs : List (Str × D)} : InsD C (.obj C fs) o fs := .inr rfl
theorem insD_at {G H : Hp} {C : Addr} {r : D} {v : V} {fs : List (Str × D)} (S : Sat K B G H o) (h : InsD C r o fs) (rv : Rep K G v r) : ∃ a dx vs, v = .ref a ∧ H a = some (.ins C dx vs) ∧ RepF K G vs fs := by
  rcases h with ⟨i, p, rfl, hi⟩ | rfl
  · cases rv
    obtain ⟨_, ⟨dx, vs, h1, h2⟩, _⟩ := S.ow _ (List.mem_of_getElem? hi)
    exact ⟨p, dx, vs, rfl, h1, h2⟩
  · cases rv with
    | obj h1 h2 => exact ⟨_, _, _, rfl, S.sub _ _ h1, h2⟩
theorem ed_fld {C : Addr} {f : Str} (h : EvD K B ta env o fun r o1 => ∃ fs d, InsD C r o1 fs ∧ Cls K C ∧ NoAttr K C f ∧ fs.lookup f = some d ∧ P d o1) : EvD K B (tFld K ta f) env o P := fun G H σ X S L Q k =>
  h G H σ X S L _ fun v r G1 H1 o1 e1 S1 r1 ⟨fs, d, hi, hc, hn, hl, hP⟩ => by
    obtain ⟨a, dx, vs, rfl, h1, h2⟩ := insD_at S1 hi r1
    obtain ⟨w, h3, h4⟩ := h2.lookup hl
    exact ⟨a, C, dx, vs, w, rfl, h1, hc, hn, h3, k w d G1 H1 o1 e1 S1 h4 hP⟩
/-- o.m(..), nothing raised -/
theorem ed_meth {C : Addr} {m : Str} {R : DR} {dvs : List V} {tas : TA} {E : XK} (h : EvD K B ta env o fun r o1 => ∃ fs, InsD C r o1 fs ∧ fs.lookup m = none ∧ EvA K B tas env o1 fun ds o2 => ∃ A fp C', o2 = A ++ (fp ++ C') ∧ R (r :: (ds ++ dvs.map D.sc)) fp (fun d fp' => P d (A ++ (fp' ++ C'))) X0) :
    EvD K B (tMeth C m (spR K R) dvs E ta tas) env o P := fun G H σ X S L Q k =>
  h G H σ X S L _ fun v r G1 H1 o1 e1 S1 r1 ⟨fs, hi, hl, h1⟩ => by
    obtain ⟨a, dx, vs, hv, h2, h3⟩ := insD_at S1 hi r1
    refine ⟨a, dx, vs, hv, h2, h3.lookup_none hl, ?_⟩
    refine h1 G1 H1 σ X S1 (L.mono e1) _ fun ws ds G2 H2 o2 e2 S2 r2 ⟨A, fp, C', ho, hR⟩ => ?_
    subst ho
    exact spR_call S2 (.cons (r1.mono e2) (r2.append (Reps.sc dvs))) hR XOk.none fun v d G' H' fp' e3 S3 r3 p => k v d G' H' _ ((e1.trans e2).trans e3) S3 r3 p
theorem ed_methX {C : Addr} {m : Str} {R : DR} {dvs : List V} {tas : TA} (h : EvD K B ta env o fun r o1 => ∃ fs, InsD C r o1 fs ∧ fs.lookup m = none ∧ EvA K B tas env o1 fun ds o2 => ∃ A fp C', o2 = A ++ (fp ++ C') ∧ R (r :: (ds ++ dvs.map D.sc)) fp (fun d fp' => P d (A ++ (fp' ++ C'))) (fun cl fs fp' => B.X cl fs (A ++ (fp' ++ C')))) :
    EvD K B (tMeth C m (spR K R) dvs B.E ta tas) env o P := fun G H σ X S L Q k =>
  h G H σ X S L _ fun v r G1 H1 o1 e1 S1 r1 ⟨fs, hi, hl, h1⟩ => by
    obtain ⟨a, dx, vs, hv, h2, h3⟩ := insD_at S1 hi r1
    refine ⟨a, dx, vs, hv, h2, h3.lookup_none hl, ?_⟩
    refine h1 G1 H1 σ X S1 (L.mono e1) _ fun ws ds G2 H2 o2 e2 S2 r2 ⟨A, fp, C', ho, hR⟩ => ?_
    subst ho
    exact spR_call S2 (.cons (r1.mono e2) (r2.append (Reps.sc dvs))) hR (X.call S2) fun v d G' H' fp' e3 S3 r3 p => k v d G' H' _ ((e1.trans e2).trans e3) S3 r3 p
/-- C(..): a new instance, owned; its __init__ is handed it -/
theorem make_heart {C : Addr} {R : DR} {ds : List D} {vs : List V} {G H : Hp} {o1 : Ow} {Q : VK} {E : XK} {X : Addr → Option (List (Str × D)) → Ow → Prop} {W : Addr → Ow → Prop} (S : Sat K B G H o1) (r : Reps K G vs ds)
    (hX : ∀ x, B.H x = none → ∀ H1, Sat K B G H1 (o1 ++ ([(x, .ins C [])] ++ [])) → XOk K ⟨G, H1, [x], E, X⟩)
    (h : ∀ x, B.H x = none → R (dR x :: ds) [(x, .ins C [])] (fun d fp' => d = dN ∧ W x fp') X)
    (k : ∀ x fp' G' H', W x fp' → Same G G' → Sat K B G' H' (o1 ++ fp') → Q (.ref x) H') :
    ∀ x dx, H x = none → H dx = none → dx ≠ x → spR K R (.ref x :: vs) (upd (upd H dx (.own x)) x (.ins C dx [])) (fun v H2 => v = .non ∧ Q (.ref x) H2) E := by
  intro x dx hx hdx hne
  have S1 := S.hid (u := .own x) hdx
  have hx1 : (upd H dx (.own x)) x = none := by rw [upd_ne hne.symm]; exact hx
  have S2 := S1.own (u := .ins C dx []) (m := .ins C []) hx1 ⟨dx, [], upd_same, .nil⟩
  have S3 : Sat K B G (upd (upd H dx (.own x)) x (.ins C dx [])) (o1 ++ ([(x, .ins C [])] ++ [])) := by simpa using S2
  have hb := S.bnone hx
  refine spR_call S3 (.cons (.sc _) r) (h x hb) (hX x hb _ S3) fun v d G' H' fp' e2 S4 r2 ⟨p1, p2⟩ => ?_
  subst p1
  cases r2
  exact ⟨rfl, k x fp' G' H' p2 e2 (by simpa using S4)⟩
theorem ed_make {C : Addr} {R : DR} {dvs : List V} {tas : TA} {E : XK} (h : EvA K B tas env o fun ds o1 => ∀ x, B.H x = none → R (dR x :: (ds ++ dvs.map D.sc)) [(x, .ins C [])] (fun d fp' => d = dN ∧ P (dR x) (o1 ++ fp')) X0) : EvD K B (tMake C (spR K R) dvs E tas) env o P := fun G H σ X S L Q k =>
  h G H σ X S L _ fun vs ds G1 H1 o1 e1 S1 r1 h1 =>
    make_heart (X := X0) (W := fun x fp' => P (dR x) (o1 ++ fp')) S1 (r1.append (Reps.sc dvs)) (fun x _ H1 _ => XOk.none) h1 fun x fp' G' H' p e S' => k _ _ G' H' _ (e1.trans e) S' (.sc _) p
theorem ed_makeX {C : Addr} {R : DR} {dvs : List V} {tas : TA} (h : EvA K B tas env o fun ds o1 => ∀ x, B.H x = none → R (dR x :: (ds ++ dvs.map D.sc)) [(x, .ins C [])] (fun d fp' => d = dN ∧ P (dR x) (o1 ++ fp')) (fun cl fs fp' => B.X cl fs (o1 ++ (fp' ++ [])))) : EvD K B (tMake C (spR K R) dvs B.E tas) env o P := fun G H σ X S L Q k =>
  h G H σ X S L _ fun vs ds G1 H1 o1 e1 S1 r1 h1 =>
    make_heart (X := fun cl fs fp' => B.X cl fs (o1 ++ (fp' ++ []))) (W := fun x fp' => P (dR x) (o1 ++ fp')) S1 (r1.append (Reps.sc dvs)) (fun x _ H1 T => X.call T) h1 fun x fp' G' H' p e S' => k _ _ G' H' _ (e1.trans e) S' (.sc _) p
end

/-! ### statements -/
structure DE where
  nx : List (Option D) → Ow → Prop
  rt : D → Ow → Prop
  bk : List (Option D) → Ow → Prop := fun _ _ => False
  ct : List (Option D) → Ow → Prop := fun _ _ => False
/-- the ends of a statement's reading do what is wanted of data; G: the data heap from which on -/
structure EndsOk (K : PySem.W.Frag) (B : Bs) (G : Hp) (P : DE) (D : Ends) : Prop where
  nx : ∀ σ' env' G' H' o', Same G G' → Sat K B G' H' o' → Sl K G' σ' env' → P.nx env' o' → D.nx σ' H'
  rt : ∀ v d G' H' o', Same G G' → Sat K B G' H' o' → Rep K G' v d → P.rt d o' → D.rt v H'
  bk : ∀ σ' env' G' H' o', Same G G' → Sat K B G' H' o' → Sl K G' σ' env' → P.bk env' o' → D.bk σ' H'
  ct : ∀ σ' env' G' H' o', Same G G' → Sat K B G' H' o' → Sl K G' σ' env' → P.ct env' o' → D.ct σ' H'
theorem EndsOk.mono {K : PySem.W.Frag} {B : Bs} {G G1 : Hp} {P : DE} {D : Ends} (h : EndsOk K B G P D) (e : Same G G1) : EndsOk K B G1 P D :=
  ⟨fun σ env G' H o a => h.nx σ env G' H o (e.trans a), fun v d G' H o a => h.rt v d G' H o (e.trans a), fun σ env G' H o a => h.bk σ env G' H o (e.trans a), fun σ env G' H o a => h.ct σ env G' H o (e.trans a)⟩
def SvD (K : PySem.W.Frag) (B : Bs) (t : TS) (env : List (Option D)) (o : Ow) (P : DE) : Prop :=
  ∀ (G H : Hp) (σ : L2.St), XOk K B → Sat K B G H o → Sl K G σ env → ∀ D : Ends, EndsOk K B G P D → t D σ H
/-- a target -/
def GvD (K : PySem.W.Frag) (B : Bs) (g : TG) (d : D) (env : List (Option D)) (o : Ow) (N : List (Option D) → Ow → Prop) : Prop :=
  ∀ (G H : Hp) (σ : L2.St) (v : V), XOk K B → Sat K B G H o → Sl K G σ env → Rep K G v d → ∀ Q : L2.St → Hp → Prop, (∀ σ' env' G' H' o', Same G G' → Sat K B G' H' o' → Sl K G' σ' env' → N env' o' → Q σ' H') → g v σ H Q
def GsD (K : PySem.W.Frag) (B : Bs) (g : TGs) (ds : List D) (env : List (Option D)) (o : Ow) (N : List (Option D) → Ow → Prop) : Prop :=
  ∀ (G H : Hp) (σ : L2.St) (vs : List V), XOk K B → Sat K B G H o → Sl K G σ env → Reps K G vs ds → ∀ Q : L2.St → Hp → Prop, (∀ σ' env' G' H' o', Same G G' → Sat K B G' H' o' → Sl K G' σ' env' → N env' o' → Q σ' H') → g vs σ H Q
section
variable {K : PySem.W.Frag} {B : Bs} {env : List (Option D)} {o : Ow} {P : DE} {ta tb tc te tv : TE} {d x y : D} {t u : TS} {tt : TT}
theorem sv_next (h : P.nx env o) : SvD K B tNext env o P := fun G H σ X S L D q => q.nx σ env G H o (Same.refl G) S L h
theorem sv_break (h : P.bk env o) : SvD K B tBreak env o P := fun G H σ X S L D q => q.bk σ env G H o (Same.refl G) S L h
theorem sv_cont (h : P.ct env o) : SvD K B tCont env o P := fun G H σ X S L D q => q.ct σ env G H o (Same.refl G) S L h
theorem sv_ret (h : EvD K B te env o P.rt) : SvD K B (tRet te) env o P := fun G H σ X S L D q => h G H σ X S L _ fun v d G' H' o' e S' r p => q.rt v d G' H' o' e S' r p
theorem sv_retN (h : P.rt dN o) : SvD K B tRetN env o P := fun G H σ X S L D q => q.rt .non dN G H o (Same.refl G) S (.sc _) h
theorem sv_seq (h : SvD K B t env o { P with nx := fun env' o' => SvD K B u env' o' P }) : SvD K B (tSeq t u) env o P := fun G H σ X S L D q =>
  h G H σ X S L _ ⟨fun σ' env' G' H' o' e S' L' p => p G' H' σ' X S' L' D (q.mono e), q.rt, q.bk, q.ct⟩
theorem sv_if (h : EvT K B tt env o fun b o1 => (b = true → SvD K B t env o1 P) ∧ (b = false → SvD K B u env o1 P)) : SvD K B (tIfS tt t u) env o P := fun G H σ X S L D q =>
  h G H σ X S L _ fun b G' H' o' e S' ⟨h1, h2⟩ => by
    cases b with
    | true => exact iteT (h1 rfl G' H' σ X S' (L.mono e) D (q.mono e))
    | false => exact iteF (h2 rfl G' H' σ X S' (L.mono e) D (q.mono e))
theorem sv_drop (h : EvD K B te env o fun _ o1 => P.nx env o1) : SvD K B (tDrop te) env o P := fun G H σ X S L D q => h G H σ X S L _ fun v d G' H' o' e S' r p => q.nx σ env G' H' o' e S' (L.mono e) p
theorem sv_asg {g : TG} (h : EvD K B te env o fun d o1 => GvD K B g d env o1 P.nx) : SvD K B (tAsg te g) env o P := fun G H σ X S L D q =>
  h G H σ X S L _ fun v d G' H' o' e S' r p => p G' H' σ v X S' (L.mono e) r _ fun σ' env' G2 H2 o2 e2 => q.nx σ' env' G2 H2 o2 (e.trans e2)
theorem gv_name {N : List (Option D) → Ow → Prop} {i : Nat} (h : N (env.set i (some d)) o) : GvD K B (gName i) d env o N := fun G H σ v X S L r Q q => q _ _ G H o (Same.refl G) S (L.set i r) h
theorem gs_nil {N : List (Option D) → Ow → Prop} (h : N env o) : GsD K B gNil [] env o N := fun G H σ vs X S L r Q q => by
  cases r
  exact ⟨rfl, q _ _ G H o (Same.refl G) S L h⟩
theorem gs_cons {N : List (Option D) → Ow → Prop} {g : TG} {gs : TGs} {ds : List D} (h : GvD K B g d env o fun env' o' => GsD K B gs ds env' o' N) : GsD K B (gCons g gs) (d :: ds) env o N := fun G H σ vs X S L r Q q => by
  cases r with
  | cons r1 r2 =>
    refine ⟨_, _, rfl, h G H σ _ X S L r1 _ fun σ' env' G' H' o' e S' L' p => p G' H' σ' _ X S' L' (r2.mono e) Q fun σ2 env2 G2 H2 o2 e2 => q σ2 env2 G2 H2 o2 (e.trans e2)⟩
theorem gv_tup {N : List (Option D) → Ow → Prop} {n : Nat} {gs : TGs} {ds : List D} (hn : ds.length = n) (h : GsD K B gs ds env o N) : GvD K B (gTup K n gs) (.tup ds) env o N := fun G H σ v X S L r Q q => by
  cases r with
  | tup h1 r1 => exact ⟨_, _, rfl, .of (S.sub _ _ h1), r1.length.trans hn, h G H σ _ X S L r1 Q q⟩
/-- o[i] = v, an owned list -/
theorem gv_setL {N : List (Option D) → Ow → Prop} (h : EvD K B ta env o fun r o1 => EvD K B tb env o1 fun i o2 => ∃ (p : Addr) (n j : Nat) (xs : List D) (k : Int), r = dR p ∧ i = dI k ∧ o2[n]? = some (p, .lst xs) ∧ ixN xs.length k = some j ∧ N env (o2.set n (p, .lst (xs.set j d)))) :
    GvD K B (gSub ta tb rSetL) d env o N := fun G H σ v X S L r Q q =>
  h G H σ X S L _ fun v1 d1 G1 H1 o1 e1 S1 r1 h1 => h1 G1 H1 σ X S1 (L.mono e1) _ fun v2 d2 G2 H2 o2 e2 S2 r2 ⟨p, n, j, xs, k, hp, hk, hn, hj, hN⟩ => by
    subst hp hk
    cases r1
    cases r2
    obtain ⟨g1, ⟨vs, g2, a1⟩, _⟩ := S2.ow _ (List.mem_of_getElem? hn)
    refine ⟨p, vs, k, j, rfl, rfl, g2, by rw [a1.length]; exact hj, ?_⟩
    exact q σ env G2 _ _ (e1.trans e2) (S2.put (m' := .lst (xs.set j d)) hn ⟨_, upd_same, Reps.set (r.mono (e1.trans e2)) j a1⟩) (L.mono (e1.trans e2)) hN
/-- o.f = v, an owned instance -/
theorem sv_fld {f : Str} (h : EvD K B tv env o fun d o1 => EvD K B ta env o1 fun r o2 => ∃ (p C : Addr) (i : Nat) (fs : List (Str × D)), r = dR p ∧ o2[i]? = some (p, .ins C fs) ∧ Cls K C ∧ NoAttr K C f ∧ fs.length < 1000 ∧ P.nx env (o2.set i (p, .ins C (putFD f d fs)))) :
    SvD K B (sFld K ta tv f) env o P := fun G H σ X S L D q =>
  h G H σ X S L _ fun v d G1 H1 o1 e1 S1 r1 h1 => h1 G1 H1 σ X S1 (L.mono e1) _ fun w r G2 H2 o2 e2 S2 r2 ⟨p, C, i, fs, hp, hi, hc, hn, hl, hN⟩ => by
    subst hp
    cases r2
    obtain ⟨g1, ⟨dx, vs, g2, a1⟩, _⟩ := S2.ow _ (List.mem_of_getElem? hi)
    refine ⟨p, C, dx, vs, rfl, g2, hc, hn, by rw [a1.length]; exact hl, ?_⟩
    exact q.nx σ env G2 _ _ (e1.trans e2) (S2.put (m' := .ins C (putFD f d fs)) hi ⟨dx, _, upd_same, RepF.put (r1.mono e2) a1⟩) (L.mono (e1.trans e2)) hN
/-- o.f += e, ints -/
theorem sv_fldaug {f : Str} {rd : V → V → Hp → VK → Prop} (h : EvD K B ta env o fun r o1 => ∃ (p C : Addr) (i : Nat) (fs : List (Str × D)) (d : D), r = dR p ∧ o1[i]? = some (p, .ins C fs) ∧ Cls K C ∧ NoAttr K C f ∧ fs.lookup f = some d ∧
      EvD K B tv env o1 fun e o2 => RvD K B rd d e o2 fun z o3 => ∃ (j : Nat) (fs' : List (Str × D)), o3[j]? = some (p, .ins C fs') ∧ fs'.length < 1000 ∧ P.nx env (o3.set j (p, .ins C (putFD f z fs')))) :
    SvD K B (sFldAug K ta tv rd f) env o P := fun G H σ X S L D q =>
  h G H σ X S L _ fun v r G1 H1 o1 e1 S1 r1 ⟨p, C, i, fs, d, hp, hi, hc, hn, hl, h1⟩ => by
    subst hp
    cases r1
    obtain ⟨g1, ⟨dx, vs, g2, a1⟩, _⟩ := S1.ow _ (List.mem_of_getElem? hi)
    obtain ⟨w, h3, h4⟩ := a1.lookup hl
    refine ⟨p, C, dx, vs, w, rfl, g2, hc, hn, h3, ?_⟩
    refine h1 G1 H1 σ X S1 (L.mono e1) _ fun w2 e G2 H2 o2 e2 S2 r2 h2 => h2 G2 H2 w w2 X S2 (h4.mono e2) r2 _ fun z zd G3 H3 o3 e3 S3 r3 ⟨j, fs', hj, hl', hN⟩ => ?_
    obtain ⟨_, ⟨dx', vs', g4, a4⟩, _⟩ := S3.ow _ (List.mem_of_getElem? hj)
    refine ⟨dx', vs', g4, by rw [a4.length]; exact hl', ?_⟩
    exact q.nx σ env G3 _ _ ((e1.trans e2).trans e3) (S3.put (m' := .ins C (putFD f zd fs')) hj ⟨dx', _, upd_same, RepF.put r3 a4⟩) (L.mono ((e1.trans e2).trans e3)) hN
/-- x += e -/
theorem sv_aug {i : Nat} {f : Int → Int → Int} {a : Int} (hx : env[i]? = some (some (dI a))) (h : EvD K B te env o fun e o1 => ∃ b, e = dI b ∧ P.nx (env.set i (some (dI (f a b)))) o1) : SvD K B (tAug i te (ipI f)) env o P := fun G H σ X S L D q => by
  obtain ⟨v, h1, h2⟩ := L.get i _ hx
  cases h2
  refine ⟨_, h1, h G H σ X S L _ fun w e G1 H1 o1 e1 S1 r1 ⟨b, hb, hN⟩ => ?_⟩
  subst hb
  cases r1
  exact ⟨a, b, rfl, rfl, q.nx _ _ G1 H1 o1 e1 S1 ((L.mono e1).set i (.sc _)) hN⟩
/-- xs.append(e), an owned list -/
theorem sv_app {tas : TA} (h : EvD K B ta env o fun r o1 => ∃ p, r = dR p ∧ (∃ (i : Nat) (xs : List D), o1[i]? = some (p, .lst xs)) ∧ EvA K B tas env o1 fun es o2 => ∃ (i : Nat) (xs : List D) (e : D), es = [e] ∧ o2[i]? = some (p, .lst xs) ∧ xs.length < 1000000 ∧ P.nx env (o2.set i (p, .lst (xs ++ [e])))) :
    SvD K B (tDrop (tBM K "list" rAppend ta tas)) env o P := fun G H σ X S L D q =>
  h G H σ X S L _ fun v r G1 H1 o1 e1 S1 r1 ⟨p, hp, ⟨i, xs, hi⟩, h1⟩ => by
    subst hp
    cases r1
    obtain ⟨_, ⟨vs, g2, a1⟩, _⟩ := S1.ow _ (List.mem_of_getElem? hi)
    refine ⟨.inl ⟨rfl, vs, .of g2⟩, h1 G1 H1 σ X S1 (L.mono e1) _ fun ws es G2 H2 o2 e2 S2 r2 ⟨j, ys, e, he, hj, hl, hN⟩ => ?_⟩
    subst he
    cases r2 with
    | cons r3 r4 =>
      cases r4
      obtain ⟨_, ⟨vs2, g4, a4⟩, _⟩ := S2.ow _ (List.mem_of_getElem? hj)
      refine ⟨p, vs2, _, rfl, rfl, g4, by rw [a4.length]; exact Nat.lt_of_lt_of_le hl (by decide), ?_⟩
      exact q.nx σ env G2 _ _ (e1.trans e2) (S2.put (m' := .lst (ys ++ [e])) hj ⟨_, upd_same, a4.append (.cons r3 .nil)⟩) (L.mono (e1.trans e2)) hN
/-- xs.extend(ys), an owned list by data -/
theorem sv_ext {tas : TA} (h : EvD K B ta env o fun r o1 => ∃ p, r = dR p ∧ (∃ (i : Nat) (xs : List D), o1[i]? = some (p, .lst xs)) ∧ EvA K B tas env o1 fun es o2 => ∃ (i : Nat) (xs zs : List D), es = [.lst zs] ∧ o2[i]? = some (p, .lst xs) ∧ xs.length + zs.length ≤ 1000000 ∧ P.nx env (o2.set i (p, .lst (xs ++ zs)))) :
    SvD K B (tDrop (tBM K "list" rExtend ta tas)) env o P := fun G H σ X S L D q =>
  h G H σ X S L _ fun v r G1 H1 o1 e1 S1 r1 ⟨p, hp, ⟨i, xs, hi⟩, h1⟩ => by
    subst hp
    cases r1
    obtain ⟨_, ⟨vs, g2, a1⟩, _⟩ := S1.ow _ (List.mem_of_getElem? hi)
    refine ⟨.inl ⟨rfl, vs, .of g2⟩, h1 G1 H1 σ X S1 (L.mono e1) _ fun ws es G2 H2 o2 e2 S2 r2 ⟨j, ys, zs, he, hj, hl, hN⟩ => ?_⟩
    subst he
    cases r2 with
    | cons r3 r4 =>
      cases r4
      cases r3 with
      | lst g5 a5 =>
        obtain ⟨_, ⟨vs2, g4, a4⟩, _⟩ := S2.ow _ (List.mem_of_getElem? hj)
        refine ⟨p, _, vs2, _, rfl, rfl, g4, S2.sub _ _ g5, by rw [a4.length, a5.length]; exact Nat.le_trans hl (by decide), ?_⟩
        exact q.nx σ env G2 _ _ (e1.trans e2) (S2.put (m' := .lst (ys ++ zs)) hj ⟨_, upd_same, a4.append a5⟩) (L.mono (e1.trans e2)) hN
/-- d[k] = v, an owned dict -/
theorem sv_dput {td ty : TE} (h : EvD K B tv env o fun d o1 => EvD K B td env o1 fun r o2 => EvD K B ty env o2 fun y o3 => ∃ (p : Addr) (i : Nat) (kvs : List (Key × D)) (k : Key), r = dR p ∧ y = .sc (kV k) ∧ o3[i]? = some (p, .dic kvs) ∧ kvs.length < 1000000 ∧ P.nx env (o3.set i (p, .dic (putD kvs k d)))) :
    SvD K B (sDPut td ty tv) env o P := fun G H σ X S L D q =>
  h G H σ X S L _ fun v d G1 H1 o1 e1 S1 r1 h1 => h1 G1 H1 σ X S1 (L.mono e1) _ fun w r G2 H2 o2 e2 S2 r2 h2 => h2 G2 H2 σ X S2 (L.mono (e1.trans e2)) _ fun z y G3 H3 o3 e3 S3 r3 ⟨p, i, kvs, k, hp, hy, hi, hl, hN⟩ => by
    subst hp hy
    cases r2
    cases r3
    obtain ⟨_, ⟨ks, g2, a1⟩, _⟩ := S3.ow _ (List.mem_of_getElem? hi)
    refine ⟨p, _, rfl, .inl ⟨ks, k, g2, rfl, by rw [a1.length]; exact Nat.lt_of_lt_of_le hl (by decide), rfl⟩, ?_⟩
    exact q.nx σ env G3 _ _ ((e1.trans e2).trans e3) (S3.put (m' := .dic (putD kvs k d)) hi ⟨_, upd_same, RepK.put (r1.mono (e2.trans e3)) a1⟩) (L.mono ((e1.trans e2).trans e3)) hN
/-- the wish is weaker -/
theorem SvD.imp {P' : DE} (h : SvD K B t env o P) (hn : ∀ e o', P.nx e o' → P'.nx e o') (hr : ∀ d o', P.rt d o' → P'.rt d o') (hb : ∀ e o', P.bk e o' → P'.bk e o') (hc : ∀ e o', P.ct e o' → P'.ct e o') : SvD K B t env o P' := fun G H σ X S L D q =>
  h G H σ X S L D ⟨fun σ' env' G' H' o' e S' L' p => q.nx σ' env' G' H' o' e S' L' (hn _ _ p), fun v d G' H' o' e S' L' p => q.rt v d G' H' o' e S' L' (hr _ _ p), fun σ' env' G' H' o' e S' L' p => q.bk σ' env' G' H' o' e S' L' (hb _ _ p), fun σ' env' G' H' o' e S' L' p => q.ct σ' env' G' H' o' e S' L' (hc _ _ p)⟩
/-- names are forgotten, owned things are forgotten -/
theorem SvD.weak {env' : List (Option D)} {o' : Ow} (h : SvD K B t env' o' P) (hl : env'.length = env.length) (hs : ∀ (i : Nat) d, env'[i]? = some (some d) → env[i]? = some (some d)) (ho : o'.Sublist o) : SvD K B t env o P := fun G H σ X S L D q => h G H σ X (S.drop ho) (L.weak hl hs) D q
end
end DK

set_option Elab.async false
set_option linter.all false
set_option maxRecDepth 100000
set_option maxHeartbeats 4000000
/-! DK4: built-ins over data, slices, loops, comprehensions. -/
namespace DK
open PySem PySem.Spec PyProof.Rows L2
section
variable {K : PySem.W.Frag} {B : Bs} {env : List (Option D)} {o : Ow} {P : D → Ow → Prop} {ta tb tc te tv to : TE} {d x y : D}

/-! ### built-ins by their names -/
def rLenU (K : PySem.W.Frag) : List V → Hp → VK → Prop := fun xs H Q => ∃ x n, xs = [x] ∧ LenV K x H n ∧ Q (.int n) H
theorem call_lenU {X : Cx} : CallR X (.builtin "len") (rLenU X.K) := call_len
def lenD : D → Option Nat
  | .lst xs => some xs.length
  | .tup xs => some xs.length
  | .sc (.str s) => some s.length
  | _ => none
theorem rc_len {n : Nat} (h : lenD d = some n) (hs : ∀ s, d = dS s → s.length ≤ 16000000) (q : P (dI n) o) : RcD K B (rLenU K) [d] o P := fun G H vs X S r Q k => by
  cases r with
  | cons r1 r2 =>
    cases r2
    refine ⟨_, n, rfl, ?_, k _ _ G H o (Same.refl G) S (.sc _) q⟩
    cases r1 with
    | sc _ =>
      rename_i v
      cases v with
      | str s =>
        simp only [lenD, Option.some.injEq] at h
        exact ⟨Nat.le_trans (hs s rfl) (by decide), h.symm⟩
      | _ => simp [lenD] at h
    | lst h1 a1 =>
      simp only [lenD, Option.some.injEq] at h
      exact .inl ⟨_, .of (S.sub _ _ h1), by rw [a1.length]; exact h.symm⟩
    | tup h1 a1 =>
      simp only [lenD, Option.some.injEq] at h
      exact .inr ⟨_, .of (S.sub _ _ h1), by rw [a1.length]; exact h.symm⟩
    | dic => simp [lenD] at h
    | obj => simp [lenD] at h
theorem rc_lenL {xs : List D} (q : P (dI xs.length) o) : RcD K B (rLenU K) [.lst xs] o P := rc_len rfl (fun _ e => nomatch e) q
theorem rc_lenT {xs : List D} (q : P (dI xs.length) o) : RcD K B (rLenU K) [.tup xs] o P := rc_len rfl (fun _ e => nomatch e) q
theorem rc_lenS {s : Str} (hs : s.length ≤ 16000000) (q : P (dI s.length) o) : RcD K B (rLenU K) [dS s] o P := rc_len rfl (fun z e => by cases e; exact hs) q
theorem rc_lenO {p : Addr} {i : Nat} {xs : List D} (hi : o[i]? = some (p, .lst xs)) (q : P (dI xs.length) o) : RcD K B (rLenU K) [dR p] o P := fun G H vs X S r Q k => by
  cases r with
  | cons r1 r2 =>
    cases r2
    cases r1
    obtain ⟨_, ⟨ws, g2, a1⟩, _⟩ := S.ow _ (List.mem_of_getElem? hi)
    exact ⟨_, _, rfl, .inl ⟨ws, .of g2, rfl⟩, by rw [a1.length]; exact k _ _ G H o (Same.refl G) S (.sc _) q⟩
theorem rc_lenF {a : Addr} {vs : List V} (hs : SqL K B.G a vs) (q : P (dI vs.length) o) : RcD K B (rLenU K) [dR a] o P := fun G H ws X S r Q k => by
  cases r with
  | cons r1 r2 =>
    cases r2
    cases r1
    exact ⟨_, _, rfl, .inl ⟨vs, same_sqL (S.gx.trans S.sub) hs, rfl⟩, k _ _ G H o (Same.refl G) S (.sc _) q⟩

/-! isinstance of a built-in class -/
/-- what has a known built-in type -/
def plainD : D → Bool
  | .sc .non => true
  | .sc (.bl _) => true
  | .sc (.int _) => true
  | .sc (.str _) => true
  | .lst _ => true
  | .tup _ => true
  | .dic _ => true
  | _ => false
def tyD : D → String
  | .sc .non => "NoneType"
  | .sc (.bl _) => "bool"
  | .sc (.int _) => "int"
  | .sc (.str _) => "str"
  | .lst _ => "list"
  | .tup _ => "tuple"
  | .dic _ => "dict"
  | _ => ""
def isIntD : D → Bool
  | .sc (.int _) => true
  | .sc (.bl _) => true
  | _ => false
def isBoolD : D → Bool
  | .sc (.bl _) => true
  | _ => false
def isStrD : D → Bool
  | .sc (.str _) => true
  | _ => false
def isLstD : D → Bool
  | .lst _ => true
  | _ => false
def isTupD : D → Bool
  | .tup _ => true
  | _ => false
def isDicD : D → Bool
  | .dic _ => true
  | _ => false
theorem kit_tab : (["NoneType", "bool", "int", "str", "list", "tuple", "dict"].all fun t => ["int", "bool", "str", "list", "tuple", "dict"].all fun c => decide (kitB t c = some (t == c || (t == "bool" && c == "int")))) = true := by decide +kernel
theorem rep_ty {G H : Hp} {v : V} (S : Same G H) (r : Rep K G v d) (h : plainD d = true) : TyX K H v (.type (tyD d)) := by
  cases r with
  | sc v =>
    cases v with
    | non => exact .base .non
    | bl b => exact .base (.bl b)
    | int b => exact .base (.int b)
    | str b => exact .base (.str b)
    | _ => cases h
  | lst h1 _ => exact .base (.lst (S _ _ h1))
  | tup h1 _ => exact .base (.tup (S _ _ h1))
  | dic h1 _ => exact .base (.dK (S _ _ h1))
  | obj => cases h
theorem ty_mem (h : plainD d = true) : tyD d ∈ ["NoneType", "bool", "int", "str", "list", "tuple", "dict"] := by
  cases d with
  | sc v => cases v <;> first | (cases h; done) | simp [tyD]
  | lst _ => simp [tyD]
  | tup _ => simp [tyD]
  | dic _ => simp [tyD]
  | obj _ _ => cases h
theorem rc_isi {c : String} {b : Bool} (hp : plainD d = true) (hc : c ∈ ["int", "bool", "str", "list", "tuple", "dict"]) (hb : (tyD d == c || (tyD d == "bool" && c == "int")) = b) (q : P (dB b) o) : RcD K B (rIsi K) [d, .sc (.ty c)] o P := fun G H vs X S r Q k => by
  cases r with
  | cons r1 r2 =>
    cases r2 with
    | cons r3 r4 =>
      cases r4
      cases r3
      have h1 := List.all_eq_true.mp kit_tab (tyD d) (ty_mem hp)
      have h2 := of_decide_eq_true (List.all_eq_true.mp h1 c hc)
      rw [hb] at h2
      exact ⟨_, _, _, _, b, rfl, .ty c, rep_ty S.sub r1 hp, kit_ty h2, k _ _ G H o (Same.refl G) S (.sc _) q⟩
theorem ty_isInt (hp : plainD d = true) : (tyD d == "int" || (tyD d == "bool" && "int" == "int")) = isIntD d := by
  cases d with
  | sc v => cases v <;> first | (cases hp; done) | rfl
  | lst _ => rfl
  | tup _ => rfl
  | dic _ => rfl
  | obj _ _ => cases hp
theorem rc_isInt (hp : plainD d = true) (q : P (dB (isIntD d)) o) : RcD K B (rIsi K) [d, .sc (.ty "int")] o P := rc_isi (c := "int") hp (by simp) (ty_isInt hp) q
theorem ty_isBool (hp : plainD d = true) : (tyD d == "bool" || (tyD d == "bool" && "bool" == "int")) = isBoolD d := by
  cases d with
  | sc v => cases v <;> first | (cases hp; done) | rfl
  | lst _ => rfl
  | tup _ => rfl
  | dic _ => rfl
  | obj _ _ => cases hp
theorem rc_isBool (hp : plainD d = true) (q : P (dB (isBoolD d)) o) : RcD K B (rIsi K) [d, .sc (.ty "bool")] o P := rc_isi (c := "bool") hp (by simp) (ty_isBool hp) q
theorem ty_isStr (hp : plainD d = true) : (tyD d == "str" || (tyD d == "bool" && "str" == "int")) = isStrD d := by
  cases d with
  | sc v => cases v <;> first | (cases hp; done) | rfl
  | lst _ => rfl
  | tup _ => rfl
  | dic _ => rfl
  | obj _ _ => cases hp
theorem rc_isStr (hp : plainD d = true) (q : P (dB (isStrD d)) o) : RcD K B (rIsi K) [d, .sc (.ty "str")] o P := rc_isi (c := "str") hp (by simp) (ty_isStr hp) q
theorem ty_isLst (hp : plainD d = true) : (tyD d == "list" || (tyD d == "bool" && "list" == "int")) = isLstD d := by
  cases d with
  | sc v => cases v <;> first | (cases hp; done) | rfl
  | lst _ => rfl
  | tup _ => rfl
  | dic _ => rfl
  | obj _ _ => cases hp
theorem rc_isLst (hp : plainD d = true) (q : P (dB (isLstD d)) o) : RcD K B (rIsi K) [d, .sc (.ty "list")] o P := rc_isi (c := "list") hp (by simp) (ty_isLst hp) q
theorem ty_isTup (hp : plainD d = true) : (tyD d == "tuple" || (tyD d == "bool" && "tuple" == "int")) = isTupD d := by
  cases d with
  | sc v => cases v <;> first | (cases hp; done) | rfl
  | lst _ => rfl
  | tup _ => rfl
  | dic _ => rfl
  | obj _ _ => cases hp
theorem rc_isTup (hp : plainD d = true) (q : P (dB (isTupD d)) o) : RcD K B (rIsi K) [d, .sc (.ty "tuple")] o P := rc_isi (c := "tuple") hp (by simp) (ty_isTup hp) q
theorem ty_isDic (hp : plainD d = true) : (tyD d == "dict" || (tyD d == "bool" && "dict" == "int")) = isDicD d := by
  cases d with
  | sc v => cases v <;> first | (cases hp; done) | rfl
  | lst _ => rfl
  | tup _ => rfl
  | dic _ => rfl
  | obj _ _ => cases hp
theorem rc_isDic (hp : plainD d = true) (q : P (dB (isDicD d)) o) : RcD K B (rIsi K) [d, .sc (.ty "dict")] o P := rc_isi (c := "dict") hp (by simp) (ty_isDic hp) q

/-! str, int -/
def rStrU : List V → Hp → VK → Prop := fun xs H Q => (∃ i, xs = [.int i] ∧ i.natAbs.log2 < 1920 ∧ Q (.str (toString i)) H) ∨ ∃ a, xs = [.str a] ∧ Q (.str a) H
theorem call_strU {X : Cx} : CallR X (.type "str") rStrU := CallR.or call_str_int SkE.call_str_str
theorem rc_strI {i : Int} (h : i.natAbs.log2 < 1920) (q : P (dS (toString i)) o) : RcD K B rStrU [dI i] o P := fun G H vs X S r Q k => by
  cases r with
  | cons r1 r2 =>
    cases r2
    cases r1
    exact .inl ⟨i, rfl, h, k _ _ G H o (Same.refl G) S (.sc _) q⟩
theorem rc_strS {z : Str} (q : P (dS z) o) : RcD K B rStrU [dS z] o P := fun G H vs X S r Q k => by
  cases r with
  | cons r1 r2 =>
    cases r2
    cases r1
    exact .inr ⟨z, rfl, k _ _ G H o (Same.refl G) S (.sc _) q⟩
def rIntU : List V → Hp → VK → Prop := fun xs H Q => (∃ i, xs = [.int i] ∧ Q (.int i) H) ∨ ∃ k, xs = [.bl k] ∧ Q (.int (if k then 1 else 0)) H
theorem call_intU {X : Cx} : CallR X (.type "int") rIntU := call_int1
theorem rc_intB {b : Bool} (q : P (dI (if b then 1 else 0)) o) : RcD K B rIntU [dB b] o P := fun G H vs X S r Q k => by
  cases r with
  | cons r1 r2 =>
    cases r2
    cases r1
    exact .inr ⟨b, rfl, k _ _ G H o (Same.refl G) S (.sc _) q⟩
def rMax2 : List V → Hp → VK → Prop := fun xs H Q => ∃ i j, xs = [.int i, .int j] ∧ Q (.int (if j > i then j else i)) H
def rMin2 : List V → Hp → VK → Prop := fun xs H Q => ∃ i j, xs = [.int i, .int j] ∧ Q (.int (if j < i then j else i)) H
theorem call_max2U {X : Cx} (hc : X.calm = true) : CallR X (.builtin "max") rMax2 := call_max2 hc
theorem call_min2U {X : Cx} (hc : X.calm = true) : CallR X (.builtin "min") rMin2 := call_min2 hc
theorem rc_max2 {i j : Int} (q : P (dI (if j > i then j else i)) o) : RcD K B rMax2 [dI i, dI j] o P := fun G H vs X S r Q k => by
  rw [show vs = [.int i, .int j] from Reps.sc_inv (ws := [.int i, .int j]) r]
  exact ⟨i, j, rfl, k _ _ G H o (Same.refl G) S (.sc _) q⟩
theorem rc_min2 {i j : Int} (q : P (dI (if j < i then j else i)) o) : RcD K B rMin2 [dI i, dI j] o P := fun G H vs X S r Q k => by
  rw [show vs = [.int i, .int j] from Reps.sc_inv (ws := [.int i, .int j]) r]
  exact ⟨i, j, rfl, k _ _ G H o (Same.refl G) S (.sc _) q⟩
/-! list(..), tuple(..) -/
def rListU (K : PySem.W.Frag) : List V → Hp → VK → Prop := fun xs H Q => ∃ p ys, xs = [.ref p] ∧ (SqL K H p ys ∨ SqT K H p ys) ∧ ∀ l, H l = none → Q (.ref l) (upd H l (.lst ys))
theorem call_listU {X : Cx} : CallR X (.type "list") (rListU X.K) := call_list_of
def rTupU (K : PySem.W.Frag) : List V → Hp → VK → Prop := fun xs H Q => ∃ p ys, xs = [.ref p] ∧ ((SqL K H p ys ∧ ∀ l, H l = none → Q (.ref l) (upd H l (.tup ys))) ∨ (SqT K H p ys ∧ Q (.ref p) H))
theorem call_tupU {X : Cx} : CallR X (.type "tuple") (rTupU X.K) := call_tuple_of
theorem rc_listL {xs : List D} (q : P (.lst xs) o) : RcD K B (rListU K) [.lst xs] o P := fun G H vs X S r Q k => by
  cases r with
  | cons r1 r2 =>
    cases r2
    cases r1 with
    | lst h1 a1 =>
      refine ⟨_, _, rfl, .inl (.of (S.sub _ _ h1)), fun l hl => ?_⟩
      obtain ⟨e, S2⟩ := S.data (u := .lst _) hl
      exact k _ _ _ _ o e S2 (.lst upd_same (a1.mono e)) q
theorem rc_listT {xs : List D} (q : P (.lst xs) o) : RcD K B (rListU K) [.tup xs] o P := fun G H vs X S r Q k => by
  cases r with
  | cons r1 r2 =>
    cases r2
    cases r1 with
    | tup h1 a1 =>
      refine ⟨_, _, rfl, .inr (.of (S.sub _ _ h1)), fun l hl => ?_⟩
      obtain ⟨e, S2⟩ := S.data (u := .lst _) hl
      exact k _ _ _ _ o e S2 (.lst upd_same (a1.mono e)) q
/-- .. owned: a copy that will be changed -/
theorem rc_listTO {xs : List D} (q : ∀ p, B.H p = none → P (dR p) (o ++ [(p, .lst xs)])) : RcD K B (rListU K) [.tup xs] o P := fun G H vs X S r Q k => by
  cases r with
  | cons r1 r2 =>
    cases r2
    cases r1 with
    | tup h1 a1 =>
      refine ⟨_, _, rfl, .inr (.of (S.sub _ _ h1)), fun l hl => ?_⟩
      exact k _ _ G _ _ (Same.refl G) (S.own (m := .lst xs) hl ⟨_, upd_same, a1⟩) (.sc _) (q l (S.bnone hl))
theorem rc_listLO {xs : List D} (q : ∀ p, B.H p = none → P (dR p) (o ++ [(p, .lst xs)])) : RcD K B (rListU K) [.lst xs] o P := fun G H vs X S r Q k => by
  cases r with
  | cons r1 r2 =>
    cases r2
    cases r1 with
    | lst h1 a1 =>
      refine ⟨_, _, rfl, .inl (.of (S.sub _ _ h1)), fun l hl => ?_⟩
      exact k _ _ G _ _ (Same.refl G) (S.own (m := .lst xs) hl ⟨_, upd_same, a1⟩) (.sc _) (q l (S.bnone hl))
/-- a copy of an owned list -/
theorem rc_listO {p : Addr} {i : Nat} {xs : List D} (hi : o[i]? = some (p, .lst xs)) (q : P (.lst xs) o) : RcD K B (rListU K) [dR p] o P := fun G H vs X S r Q k => by
  cases r with
  | cons r1 r2 =>
    cases r2
    cases r1
    obtain ⟨_, ⟨ws, g2, a1⟩, _⟩ := S.ow _ (List.mem_of_getElem? hi)
    refine ⟨_, _, rfl, .inl (.of g2), fun l hl => ?_⟩
    obtain ⟨e, S2⟩ := S.data (u := .lst _) hl
    exact k _ _ _ _ o e S2 (.lst upd_same (a1.mono e)) q
theorem rc_tupL {xs : List D} (q : P (.tup xs) o) : RcD K B (rTupU K) [.lst xs] o P := fun G H vs X S r Q k => by
  cases r with
  | cons r1 r2 =>
    cases r2
    cases r1 with
    | lst h1 a1 =>
      refine ⟨_, _, rfl, .inl ⟨.of (S.sub _ _ h1), fun l hl => ?_⟩⟩
      obtain ⟨e, S2⟩ := S.data (u := .tup _) hl
      exact k _ _ _ _ o e S2 (.tup upd_same (a1.mono e)) q
theorem rc_tupO {p : Addr} {i : Nat} {xs : List D} (hi : o[i]? = some (p, .lst xs)) (q : P (.tup xs) o) : RcD K B (rTupU K) [dR p] o P := fun G H vs X S r Q k => by
  cases r with
  | cons r1 r2 =>
    cases r2
    cases r1
    obtain ⟨_, ⟨ws, g2, a1⟩, _⟩ := S.ow _ (List.mem_of_getElem? hi)
    refine ⟨_, _, rfl, .inl ⟨.of g2, fun l hl => ?_⟩⟩
    obtain ⟨e, S2⟩ := S.data (u := .tup _) hl
    exact k _ _ _ _ o e S2 (.tup upd_same (a1.mono e)) q
/-! all, any, sum -/
theorem rc_all {bs : List Bool} (q : P (dB (bs.all id)) o) : RcD K B (rAll K) [.lst (bs.map dB)] o P := fun G H vs X S r Q k => by
  cases r with
  | cons r1 r2 =>
    cases r2
    cases r1 with
    | lst h1 a1 =>
      rw [show bs.map dB = (bs.map V.bl).map D.sc by simp] at a1
      have e := Reps.sc_inv a1
      subst e
      exact ⟨_, bs, rfl, .of (S.sub _ _ h1), k _ _ G H o (Same.refl G) S (.sc _) q⟩
theorem rc_any {bs : List Bool} (q : P (dB (bs.any id)) o) : RcD K B (rAny K) [.lst (bs.map dB)] o P := fun G H vs X S r Q k => by
  cases r with
  | cons r1 r2 =>
    cases r2
    cases r1 with
    | lst h1 a1 =>
      rw [show bs.map dB = (bs.map V.bl).map D.sc by simp] at a1
      have e := Reps.sc_inv a1
      subst e
      exact ⟨_, bs, rfl, .of (S.sub _ _ h1), k _ _ G H o (Same.refl G) S (.sc _) q⟩
theorem rc_sum {ns : List Int} (q : P (dI ns.sum) o) : RcD K B (rSum K) [.lst (ns.map dI)] o P := fun G H vs X S r Q k => by
  cases r with
  | cons r1 r2 =>
    cases r2
    cases r1 with
    | lst h1 a1 =>
      rw [show ns.map dI = (ns.map V.int).map D.sc by simp] at a1
      have e := Reps.sc_inv a1
      subst e
      exact ⟨_, ns, rfl, .of (S.sub _ _ h1), k _ _ G H o (Same.refl G) S (.sc _) q⟩

/-! ### methods of texts -/
theorem ed_m1 {r : V → List V → Hp → VK → Prop} (h : EvD K B to env o fun x o1 => (∃ s, x = dS s) ∧ EvD K B te env o1 fun y o2 => RmD K B "str" r x [y] o2 P) : EvD K B (tM1 r to te) env o P := fun G H σ X S L Q k =>
  h G H σ X S L _ fun v x G1 H1 o1 e1 S1 r1 ⟨⟨s, hs⟩, h1⟩ => by
    subst hs
    cases r1
    exact ⟨⟨s, rfl⟩, h1 G1 H1 σ X S1 (L.mono e1) _ fun w y G2 H2 o2 e2 S2 r2 h2 => h2 G2 H2 _ [w] X S2 (.sc _) (.cons r2 .nil) Q fun u d G3 H3 o3 e3 => k u d G3 H3 o3 ((e1.trans e2).trans e3)⟩
theorem ed_m0 {r : V → List V → Hp → VK → Prop} (h : EvD K B to env o fun x o1 => (∃ s, x = dS s) ∧ RmD K B "str" r x [] o1 P) : EvD K B (tM0 r to) env o P := fun G H σ X S L Q k =>
  h G H σ X S L _ fun v x G1 H1 o1 e1 S1 r1 ⟨⟨s, hs⟩, h1⟩ => by
    subst hs
    cases r1
    exact ⟨⟨s, rfl⟩, h1 G1 H1 _ [] X S1 (.sc _) .nil Q fun u d G3 H3 o3 e3 => k u d G3 H3 o3 (e1.trans e3)⟩
def rJoinU (K : PySem.W.Frag) : V → List V → Hp → VK → Prop := fun x xs H Q => ∃ a p, ∃ ys : List Str, x = .str a ∧ xs = [.ref p] ∧ (SqL K H p (ys.map V.str) ∨ SqT K H p (ys.map V.str)) ∧ (ys.map (·.length)).sum + ys.length * a.length ≤ 16777216 ∧ Q (.str (Txt.join a ys)) H
theorem rm_join {a : Str} {ys : List Str} (hl : (ys.map (·.length)).sum + ys.length * a.length ≤ 16777216) (q : P (dS (Txt.join a ys)) o) : RmD K B "str" (rJoinU K) (dS a) [.lst (ys.map dS)] o P := fun G H v vs X S r1 r Q k => by
  cases r1
  cases r with
  | cons r1 r2 =>
    cases r2
    cases r1 with
    | lst h1 a1 =>
      rw [show ys.map dS = (ys.map V.str).map D.sc by simp] at a1
      have e := Reps.sc_inv a1
      subst e
      exact ⟨a, _, ys, rfl, rfl, .inl (.of (S.sub _ _ h1)), hl, k _ _ G H o (Same.refl G) S (.sc _) q⟩

/-! ### slices -/
def EvO (K : PySem.W.Frag) (B : Bs) (to : TO) (env : List (Option D)) (o : Ow) (P : Option Int → Ow → Prop) : Prop :=
  ∀ (G H : Hp) (σ : L2.St), XOk K B → Sat K B G H o → Sl K G σ env → ∀ Q : Option Int → Hp → Prop, (∀ i G' H' o', Same G G' → Sat K B G' H' o' → P i o' → Q i H') → to σ H Q
theorem eo_none {P : Option Int → Ow → Prop} (h : P none o) : EvO K B tNoPart env o P := fun G H σ X S L Q k => k none G H o (Same.refl G) S h
theorem eo_some {P : Option Int → Ow → Prop} (h : EvD K B te env o fun d o1 => ∃ i, d = dI i ∧ P (some i) o1) : EvO K B (tPart te) env o P := fun G H σ X S L Q k =>
  h G H σ X S L _ fun v d G' H' o' e S' r ⟨i, hd, hP⟩ => by
    subst hd
    cases r
    exact ⟨i, rfl, k _ G' H' o' e S' hP⟩
def RsD (K : PySem.W.Frag) (B : Bs) (r : V → Option Int → Option Int → Hp → VK → Prop) (x : D) (lo hi : Option Int) (o : Ow) (P : D → Ow → Prop) : Prop :=
  ∀ (G H : Hp) (v : V), XOk K B → Sat K B G H o → Rep K G v x → ∀ Q : VK, (∀ u d G' H' o', Same G G' → Sat K B G' H' o' → Rep K G' u d → P d o' → Q u H') → r v lo hi H Q
theorem ed_sl {r : V → Option Int → Option Int → Hp → VK → Prop} {tl th : TO} (h : EvD K B te env o fun x o1 => EvO K B tl env o1 fun l o2 => EvO K B th env o2 fun u o3 => RsD K B r x l u o3 P) : EvD K B (tSl r te tl th) env o P := fun G H σ X S L Q k =>
  h G H σ X S L _ fun v x G1 H1 o1 e1 S1 r1 h1 => h1 G1 H1 σ X S1 (L.mono e1) _ fun l G2 H2 o2 e2 S2 h2 => h2 G2 H2 σ X S2 (L.mono (e1.trans e2)) _ fun u G3 H3 o3 e3 S3 h3 =>
    h3 G3 H3 v X S3 (r1.mono (e2.trans e3)) Q fun w d G4 H4 o4 e4 => k w d G4 H4 o4 (((e1.trans e2).trans e3).trans e4)
def rSlU (K : PySem.W.Frag) : V → Option Int → Option Int → Hp → VK → Prop := fun x lo hi H Q => rSlL K x lo hi H Q ∨ (rSlT K x lo hi H Q ∨ rSlS x lo hi H Q)
theorem sl_U {X : Cx} : SlR X (rSlU X.K) := SlR.or sl_list (SlR.or sl_tup sl_str)
def cutD (xs : List D) (lo hi : Option Int) : List D := (xs.drop (HT.sIx xs.length 0 lo)).take (HT.sIx xs.length xs.length hi - HT.sIx xs.length 0 lo)
theorem cut_rep {G : Hp} {vs : List V} {xs : List D} {lo hi : Option Int} (r : Reps K G vs xs) : Reps K G (cutV vs lo hi) (cutD xs lo hi) := by
  unfold cutV cutD
  rw [r.length]
  exact (r.drop _).take _
theorem rs_lst {xs : List D} {lo hi : Option Int} (q : P (.lst (cutD xs lo hi)) o) : RsD K B (rSlU K) (.lst xs) lo hi o P := fun G H v X S r Q k => by
  cases r with
  | lst h1 a1 =>
    refine .inl ⟨_, _, rfl, .of (S.sub _ _ h1), fun p hp => ?_⟩
    obtain ⟨e, S2⟩ := S.data (u := .lst _) hp
    exact k _ _ _ _ o e S2 (.lst upd_same ((cut_rep a1).mono e)) q
theorem rs_tup {xs : List D} {lo hi : Option Int} (hne : ¬ (HT.sIx xs.length 0 lo = 0 ∧ HT.sIx xs.length xs.length hi = xs.length)) (q : P (.tup (cutD xs lo hi)) o) : RsD K B (rSlU K) (.tup xs) lo hi o P := fun G H v X S r Q k => by
  cases r with
  | tup h1 a1 =>
    refine .inr (.inl ⟨_, _, rfl, .of (S.sub _ _ h1), by rw [a1.length]; exact hne, fun p hp => ?_⟩)
    obtain ⟨e, S2⟩ := S.data (u := .tup _) hp
    exact k _ _ _ _ o e S2 (.tup upd_same ((cut_rep a1).mono e)) q
theorem rs_str {z : Str} {lo hi : Option Int} (hl : z.length ≤ 16000000) (q : P (dS (cutS z lo hi)) o) : RsD K B (rSlU K) (dS z) lo hi o P := fun G H v X S r Q k => by
  cases r
  exact .inr (.inr ⟨z, rfl, Nat.le_trans hl (by decide), k _ _ G H o (Same.refl G) S (.sc _) q⟩)
theorem rs_F {a : Addr} {vs : List V} {lo hi : Option Int} (hs : SqL K B.G a vs) (q : P (.lst ((cutV vs lo hi).map D.sc)) o) : RsD K B (rSlU K) (dR a) lo hi o P := fun G H v X S r Q k => by
  cases r
  refine .inl ⟨_, _, rfl, same_sqL (S.gx.trans S.sub) hs, fun p hp => ?_⟩
  obtain ⟨e, S2⟩ := S.data (u := .lst _) hp
  exact k _ _ _ _ o e S2 (.lst upd_same (Reps.sc _)) q
/-- xs[::-1] -/
theorem ed_rev (h : EvD K B te env o fun d o1 => ∃ xs, d = .lst xs ∧ P (.lst xs.reverse) o1) : EvD K B (tRevL K te) env o P := fun G H σ X S L Q k =>
  h G H σ X S L _ fun v d G1 H1 o1 e1 S1 r1 ⟨xs, hd, hP⟩ => by
    subst hd
    cases r1 with
    | lst h1 a1 =>
      refine ⟨_, _, rfl, .of (S1.sub _ _ h1), fun p hp => ?_⟩
      obtain ⟨e, S2⟩ := S1.data (u := .lst _) hp
      exact k _ _ _ _ o1 (e1.trans e) S2 (.lst upd_same (a1.reverse.mono e)) hP

/-! ### dicts -/
theorem ed_dget {td ty : TE} (h : EvD K B td env o fun r o1 => EvD K B ty env o1 fun y o2 => ∃ kvs k d, ((∃ (p : Addr) (i : Nat), r = dR p ∧ o2[i]? = some (p, .dic kvs)) ∨ r = .dic kvs) ∧ y = .sc (kV k) ∧ getD kvs k = some d ∧ P d o2) : EvD K B (tDGet td ty) env o P := fun G H σ X S L Q k =>
  h G H σ X S L _ fun v r G1 H1 o1 e1 S1 r1 h1 => h1 G1 H1 σ X S1 (L.mono e1) _ fun w y G2 H2 o2 e2 S2 r2 ⟨kvs, key, d, hr, hy, hg, hP⟩ => by
    subst hy
    cases r2
    rcases hr with ⟨p, i, rfl, hi⟩ | rfl
    · cases r1
      obtain ⟨_, ⟨ks, g2, a1⟩, _⟩ := S2.ow _ (List.mem_of_getElem? hi)
      rcases RepK.get key a1 with ⟨z, _⟩ | ⟨u, d', h3, h4, h5⟩
      · rw [z] at hg; cases hg
      · rw [h3] at hg
        cases hg
        exact ⟨p, u, rfl, by rw [← h4]; exact .k g2, k u _ G2 H2 o2 (e1.trans e2) S2 h5 hP⟩
    · cases r1 with
      | dic g2 a1 =>
        rcases RepK.get key a1 with ⟨z, _⟩ | ⟨u, d', h3, h4, h5⟩
        · rw [z] at hg; cases hg
        · rw [h3] at hg
          cases hg
          exact ⟨_, u, rfl, by rw [← h4]; exact .k (S2.sub _ _ (e2 _ _ g2)), k u _ G2 H2 o2 (e1.trans e2) S2 (h5.mono e2) hP⟩
theorem getD_isSome {G : Hp} {ks : List (Key × V)} {kvs : List (Key × D)} {key : Key} (r : RepK K G ks kvs) : (valV ks key).isSome = (getD kvs key).isSome := by
  rcases RepK.get key r with ⟨a, b⟩ | ⟨u, d, a, b, _⟩ <;> rw [a, b] <;> rfl
theorem ed_din {ty td : TE} (h : EvD K B ty env o fun y o1 => EvD K B td env o1 fun r o2 => ∃ kvs k, ((∃ (p : Addr) (i : Nat), r = dR p ∧ o2[i]? = some (p, .dic kvs)) ∨ r = .dic kvs) ∧ y = .sc (kV k) ∧ P (dB (getD kvs k).isSome) o2) : EvD K B (tDIn ty td) env o P := fun G H σ X S L Q k =>
  h G H σ X S L _ fun w y G1 H1 o1 e1 S1 r1 h1 => h1 G1 H1 σ X S1 (L.mono e1) _ fun v r G2 H2 o2 e2 S2 r2 ⟨kvs, key, hr, hy, hP⟩ => by
    subst hy
    cases r1
    rcases hr with ⟨p, i, rfl, hi⟩ | rfl
    · cases r2
      obtain ⟨_, ⟨ks, g2, a1⟩, _⟩ := S2.ow _ (List.mem_of_getElem? hi)
      rw [← getD_isSome a1] at hP
      exact ⟨p, _, rfl, .k g2, k _ _ G2 H2 o2 (e1.trans e2) S2 (.sc _) hP⟩
    · cases r2 with
      | dic g2 a1 =>
        rw [← getD_isSome a1] at hP
        exact ⟨_, _, rfl, .k (S2.sub _ _ g2), k _ _ G2 H2 o2 (e1.trans e2) S2 (.sc _) hP⟩
def IsDic (r : D) (o : Ow) (kvs : List (Key × D)) : Prop := (∃ (p : Addr) (i : Nat), r = dR p ∧ o[i]? = some (p, .dic kvs)) ∨ r = .dic kvs
theorem isDic_at {G H : Hp} {v : V} {kvs : List (Key × D)} {r : D} (S : Sat K B G H o) (h : IsDic r o kvs) (rv : Rep K G v r) : ∃ a ks, v = .ref a ∧ H a = some (.dK ks) ∧ RepK K G ks kvs := by
  rcases h with ⟨p, i, rfl, hi⟩ | rfl
  · cases rv
    obtain ⟨_, ⟨ks, h1, h2⟩, _⟩ := S.ow _ (List.mem_of_getElem? hi)
    exact ⟨p, ks, rfl, h1, h2⟩
  · cases rv with
    | dic h1 h2 => exact ⟨_, _, rfl, S.sub _ _ h1, h2⟩
theorem ed_dget1 {td ty : TE} (h : EvD K B td env o fun r o1 => (∃ kvs, IsDic r o1 kvs) ∧ EvD K B ty env o1 fun y o2 => ∃ kvs k, IsDic r o2 kvs ∧ y = .sc (kV k) ∧ P ((getD kvs k).getD dN) o2) : EvD K B (tDGet1 td ty) env o P := fun G H σ X S L Q k =>
  h G H σ X S L _ fun v r G1 H1 o1 e1 S1 r1 ⟨⟨kvs0, hd0⟩, h1⟩ => by
    obtain ⟨a, ks0, rfl, g0, _⟩ := isDic_at S1 hd0 r1
    refine ⟨a, rfl, .inl ⟨ks0, .inl g0⟩, h1 G1 H1 σ X S1 (L.mono e1) _ fun w y G2 H2 o2 e2 S2 r2 ⟨kvs, key, hd, hy, hP⟩ => ?_⟩
    subst hy
    cases r2
    obtain ⟨a', ks, ha, g2, a1⟩ := isDic_at S2 hd (r1.mono e2)
    cases ha
    refine ⟨_, .k g2, ?_⟩
    rcases RepK.get key a1 with ⟨z1, z2⟩ | ⟨u, d', h3, h4, h5⟩
    · rw [z1] at hP
      rw [z2]
      exact k _ _ G2 H2 o2 (e1.trans e2) S2 (.sc _) hP
    · rw [h3] at hP
      rw [h4]
      exact k _ _ G2 H2 o2 (e1.trans e2) S2 h5 hP

/-! ### loops -/
section
variable {PS : DE} {tb' t u : TS} {tt : TT}
/-- the state within a loop -/
def LoopI (K : PySem.W.Frag) (B : Bs) (G0 : Hp) (I : List (Option D) → Ow → Prop) (σ : L2.St) (H : Hp) : Prop := ∃ G env o, Same G0 G ∧ Sat K B G H o ∧ Sl K G σ env ∧ I env o
theorem loop_ends {G0 G1 : Hp} {D0 : Ends} {I C : List (Option D) → Ow → Prop} (q : EndsOk K B G0 PS D0) (e : Same G0 G1) : EndsOk K B G1 ⟨I, PS.rt, PS.nx, C⟩ { D0 with nx := LoopI K B G0 I, ct := LoopI K B G0 C, bk := D0.nx } :=
  ⟨fun σ env G H o e1 S L p => ⟨G, env, o, e.trans e1, S, L, p⟩, fun v d G H o e1 => q.rt v d G H o (e.trans e1), fun σ env G H o e1 => q.nx σ env G H o (e.trans e1), fun σ env G H o e1 S L p => ⟨G, env, o, e.trans e1, S, L, p⟩⟩
theorem sv_forL {g : TG} {tl : TE} (h : EvD K B tl env o fun d o1 => ∃ ds, d = .lst ds ∧ ∃ I : Nat → List (Option D) → Ow → Prop, I 0 env o1 ∧
      (∀ (i : Nat) x env' o', ds[i]? = some x → I i env' o' → GvD K B g x env' o' fun env2 o2 => SvD K B t env2 o2 ⟨I (i + 1), PS.rt, PS.nx, I (i + 1)⟩) ∧ ∀ env' o', I ds.length env' o' → PS.nx env' o') :
    SvD K B (tFor (iList K tl) g t) env o PS := fun G H σ X S L D0 q =>
  h G H σ X S L _ fun v d G1 H1 o1 e1 S1 r1 ⟨ds, hd, I, h0, hs, he⟩ => by
    subst hd
    cases r1 with
    | @lst a vs _ g1 a1 =>
      refine ⟨a, rfl, ⟨vs, .of (S1.sub _ _ g1)⟩, for_list (K := K) (a := a) (xs := vs) (fun i => LoopI K B G1 (I i)) ⟨G1, env, o1, Same.refl G1, S1, L.mono e1, h0⟩ (fun i σ' H' _ ⟨G2, _, _, e2, S2, _, _⟩ => .of (S2.sub _ _ (e2 _ _ g1))) ?_ ?_⟩
      · rintro i x σ' H' hx ⟨G2, env', o', e2, S2, L2, p⟩
        obtain ⟨d, hd, rd⟩ := a1.getV hx
        refine hs i d env' o' hd p G2 H' σ' x X S2 L2 (rd.mono e2) _ fun σ3 env3 G3 H3 o3 e3 S3 L3 p3 => ?_
        exact p3 G3 H3 σ3 X S3 L3 _ (loop_ends (q.mono e1) (e2.trans e3))
      · rintro σ' H' ⟨G2, env', o', e2, S2, L2, p⟩
        rw [a1.length] at p
        exact q.nx σ' env' G2 H' o' (e1.trans e2) S2 L2 (he env' o' p)
theorem sv_forR1 {g : TG} {tas : TA} (h : EvA K B tas env o fun as o1 => ∃ n : Int, as = [dI n] ∧ (-(2 ^ 62) ≤ n ∧ n < 2 ^ 62) ∧ ∃ I : Nat → List (Option D) → Ow → Prop, I 0 env o1 ∧
      (∀ (i : Nat) env' o', (i : Int) < n → I i env' o' → GvD K B g (dI i) env' o' fun env2 o2 => SvD K B t env2 o2 ⟨I (i + 1), PS.rt, PS.nx, I (i + 1)⟩) ∧ ∀ env' o', I n.toNat env' o' → PS.nx env' o') :
    SvD K B (tFor (iRng1 tas) g t) env o PS := fun G H σ X S L D0 q =>
  h G H σ X S L _ fun vs as G1 H1 o1 e1 S1 r1 ⟨n, ha, hn, I, h0, hs, he⟩ => by
    subst ha
    rw [show vs = [.int n] from Reps.sc_inv (ws := [.int n]) r1]
    refine ⟨n, rfl, hn.1, hn.2, for_range (lo := 0) (n := n.toNat) (fun i => LoopI K B G1 (I i)) ⟨G1, env, o1, Same.refl G1, S1, L.mono e1, h0⟩ ?_ ?_⟩
    · rintro i σ' H' hi ⟨G2, env', o', e2, S2, L2, p⟩
      have e0 : (0 : Int) + (i : Int) = (i : Int) := Int.zero_add _
      rw [e0]
      refine hs i env' o' (by omega) p G2 H' σ' _ X S2 L2 (.sc _) _ fun σ3 env3 G3 H3 o3 e3 S3 L3 p3 => ?_
      exact p3 G3 H3 σ3 X S3 L3 _ (loop_ends (q.mono e1) (e2.trans e3))
    · rintro σ' H' ⟨G2, env', o', e2, S2, L2, p⟩
      exact q.nx σ' env' G2 H' o' (e1.trans e2) S2 L2 (he env' o' p)
theorem sv_forR2 {g : TG} {tas : TA} (h : EvA K B tas env o fun as o1 => ∃ a n : Int, as = [dI a, dI n] ∧ (-(2 ^ 62) ≤ a ∧ a < 2 ^ 62 ∧ -(2 ^ 62) ≤ n ∧ n < 2 ^ 62) ∧ ∃ I : Nat → List (Option D) → Ow → Prop, I 0 env o1 ∧
      (∀ (i : Nat) env' o', a + (i : Int) < n → I i env' o' → GvD K B g (dI (a + i)) env' o' fun env2 o2 => SvD K B t env2 o2 ⟨I (i + 1), PS.rt, PS.nx, I (i + 1)⟩) ∧ ∀ env' o', I (n - a).toNat env' o' → PS.nx env' o') :
    SvD K B (tFor (iRng2 tas) g t) env o PS := fun G H σ X S L D0 q =>
  h G H σ X S L _ fun vs as G1 H1 o1 e1 S1 r1 ⟨a, n, ha, hn, I, h0, hs, he⟩ => by
    subst ha
    rw [show vs = [.int a, .int n] from Reps.sc_inv (ws := [.int a, .int n]) r1]
    refine ⟨a, n, rfl, hn, for_range (lo := a) (n := (n - a).toNat) (fun i => LoopI K B G1 (I i)) ⟨G1, env, o1, Same.refl G1, S1, L.mono e1, h0⟩ ?_ ?_⟩
    · rintro i σ' H' hi ⟨G2, env', o', e2, S2, L2, p⟩
      refine hs i env' o' (by omega) p G2 H' σ' _ X S2 L2 (.sc _) _ fun σ3 env3 G3 H3 o3 e3 S3 L3 p3 => ?_
      exact p3 G3 H3 σ3 X S3 L3 _ (loop_ends (q.mono e1) (e2.trans e3))
    · rintro σ' H' ⟨G2, env', o', e2, S2, L2, p⟩
      exact q.nx σ' env' G2 H' o' (e1.trans e2) S2 L2 (he env' o' p)
theorem sv_while (I : Nat → List (Option D) → Ow → Prop) (m0 : Nat) (h0 : I m0 env o)
    (hs : ∀ m env' o', I m env' o' → EvT K B tt env' o' fun b o1 => (b = true → SvD K B t env' o1 ⟨fun e o2 => ∃ m', m' < m ∧ I m' e o2, PS.rt, PS.nx, fun e o2 => ∃ m', m' < m ∧ I m' e o2⟩) ∧ (b = false → PS.nx env' o1)) : SvD K B (tWhile tt t) env o PS := fun G H σ X S L D0 q => by
  refine ⟨fun m => LoopI K B G (I m), ⟨m0, G, env, o, Same.refl G, S, L, h0⟩, ?_⟩
  rintro m σ' H' ⟨G2, env', o', e2, S2, L2, p⟩
  refine hs m env' o' p G2 H' σ' X S2 L2 _ fun b G3 H3 o3 e3 S3 ⟨h1, h2⟩ => ?_
  cases b with
  | true =>
    refine iteT ⟨LoopI K B G fun e o2 => ∃ m', m' < m ∧ I m' e o2, fun σ4 H4 ⟨G4, env4, o4, e4, S4, L4, m', hm, p4⟩ => ⟨m', hm, G4, env4, o4, e4, S4, L4, p4⟩, ?_⟩
    exact h1 rfl G3 H3 σ' X S3 (L2.mono e3) _ (loop_ends q (e2.trans e3))
  | false => exact iteF (q.nx σ' env' G3 H3 o3 (e2.trans e3) S3 (L2.mono e3) (h2 rfl))
end

/-! ### list comprehensions: the list so far is owned, the last of all -/
/-- a target writes just these slots -/
def WT (vs : List Nat) (g : TG) : Prop := ∀ v σ H (Q : L2.St → Hp → Prop), g v σ H Q → g v σ H fun σ' H' => L2.wipe σ' vs = L2.wipe σ vs ∧ Q σ' H'
def WTs (vs : List Nat) (g : TGs) : Prop := ∀ v σ H (Q : L2.St → Hp → Prop), g v σ H Q → g v σ H fun σ' H' => L2.wipe σ' vs = L2.wipe σ vs ∧ Q σ' H'
theorem wipe_set {σ : L2.St} {j : Nat} {v : Option V} : ∀ {vs : List Nat}, j ∈ vs → L2.wipe (σ.set j v) vs = L2.wipe σ vs
  | [], h => by cases h
  | w :: vs, h => by
    show (L2.wipe (σ.set j v) vs).set w none = (L2.wipe σ vs).set w none
    by_cases q : j ∈ vs
    · rw [wipe_set q]
    · have e : j = w := by
        rcases List.mem_cons.mp h with z | z
        · exact z
        · exact absurd z q
      subst e
      clear h
      have key : ∀ us : List Nat, j ∉ us → L2.wipe (σ.set j v) us = (L2.wipe σ us).set j v := by
        intro us
        induction us with
        | nil => intro _; rfl
        | cons u us ih =>
          intro hn
          have h1 : j ≠ u := fun z => hn (by rw [z]; exact List.mem_cons_self)
          have h2 := ih fun z => hn (List.mem_cons_of_mem _ z)
          show (L2.wipe (σ.set j v) us).set u none = ((L2.wipe σ us).set u none).set j v
          rw [h2, List.set_comm _ _ h1]
      rw [key vs q, List.set_set]
theorem wt_name {vs : List Nat} {j : Nat} (h : j ∈ vs) : WT vs (gName j) := fun v σ H Q q => ⟨wipe_set h, q⟩
theorem wt_nil {vs : List Nat} : WTs vs gNil := fun v σ H Q ⟨a, b⟩ => ⟨a, rfl, b⟩
theorem wt_cons {vs : List Nat} {g : TG} {gs : TGs} (hm : ∀ v σ H (Q Q' : L2.St → Hp → Prop), (∀ σ' H', Q σ' H' → Q' σ' H') → g v σ H Q → g v σ H Q') (h1 : WT vs g) (h2 : WTs vs gs) : WTs vs (gCons g gs) := fun v σ H Q ⟨x, r, e, q⟩ => by
  refine ⟨x, r, e, hm _ _ _ _ _ (fun σ' H' ⟨a, b⟩ => ?_) (h1 x σ H _ q)⟩
  have := h2 r σ' H' Q b
  rw [a] at this
  exact this
theorem name_mono {j : Nat} : ∀ v σ H (Q Q' : L2.St → Hp → Prop), (∀ σ' H', Q σ' H' → Q' σ' H') → gName j v σ H Q → gName j v σ H Q' := fun v σ H Q Q' i q => i _ _ q
theorem wt_tup {vs : List Nat} {n : Nat} {gs : TGs} (h : WTs vs gs) : WT vs (gTup K n gs) := fun v σ H Q ⟨a, xs, e1, e2, e3, q⟩ => ⟨a, xs, e1, e2, e3, h xs σ H Q q⟩
theorem wipe_wipe (σ : L2.St) : ∀ vs : List Nat, L2.wipe (L2.wipe σ vs) vs = L2.wipe σ vs := by
  have key : ∀ (us vs : List Nat) (τ : L2.St), (∀ u ∈ us, u ∈ vs) → L2.wipe (L2.wipe τ us) vs = L2.wipe τ vs := by
    intro us
    induction us with
    | nil => intro vs τ _; rfl
    | cons u us ih =>
      intro vs τ h
      show L2.wipe ((L2.wipe τ us).set u none) vs = L2.wipe τ vs
      rw [wipe_set (h u List.mem_cons_self)]
      exact ih vs τ fun w hw => h w (List.mem_cons_of_mem _ hw)
  exact fun vs => key vs vs σ fun _ h => h

/-- the state within a comprehension: the list at q holds acc -/
def CompI (K : PySem.W.Frag) (B : Bs) (G0 : Hp) (q : Addr) (I : List D → Ow → Prop) (H : Hp) : Prop := ∃ G acc o, Same G0 G ∧ Sat K B G H (o ++ [(q, .lst acc)]) ∧ I acc o
/-- one element: from the state ahead of it to the state behind -/
theorem comp_elt {G0 G1 H1 : Hp} {q : Addr} {acc : List D} {o1 : Ow} {σ : L2.St} {I : List D → Ow → Prop} {e : List (Option D)} (X : XOk K B) (g : Same G0 G1) (S : Sat K B G1 H1 (o1 ++ [(q, .lst acc)])) (L : Sl K G1 σ e) (hl : acc.length < 1000000)
    (h : EvD K B te e (o1 ++ [(q, .lst acc)]) fun d o2 => ∃ o3, o2 = o3 ++ [(q, .lst acc)] ∧ I (acc ++ [d]) o3) : te σ H1 fun y H4 => ∃ ac, H4 q = some (.lst ac) ∧ ac.length < sizeLine ∧ CompI K B G0 q I (upd H4 q (.lst (ac ++ [y]))) :=
  h G1 H1 σ X S L _ fun v d G2 H2 o2 e2 S2 r2 ⟨o3, ho, hI⟩ => by
    subst ho
    have hi : (o3 ++ [(q, M.lst acc)])[o3.length]? = some (q, M.lst acc) := by simp
    obtain ⟨_, ⟨vs, g2, a1⟩, _⟩ := S2.ow _ (List.mem_of_getElem? hi)
    refine ⟨vs, g2, by rw [a1.length]; exact Nat.lt_of_lt_of_le hl (by decide), G2, acc ++ [d], o3, g.trans e2, ?_, hI⟩
    have S3 := S2.put (u := .lst (vs ++ [v])) (m' := .lst (acc ++ [d])) hi ⟨_, upd_same, a1.append (.cons r2 .nil)⟩
    have e : (o3 ++ [(q, M.lst acc)]).set o3.length (q, M.lst (acc ++ [d])) = o3 ++ [(q, M.lst (acc ++ [d]))] := by simp
    rw [e] at S3
    exact S3
theorem comp_end {G0 G H : Hp} {q : Addr} {acc : List D} {o1 : Ow} (S : Sat K B G H (o1 ++ [(q, .lst acc)])) (hb : B.H q = none) : ∃ G', Same G G' ∧ Sat K B G' H o1 ∧ Rep K G' (.ref q) (.lst acc) := by
  have hi : (o1 ++ [(q, M.lst acc)])[o1.length]? = some (q, M.lst acc) := by simp
  obtain ⟨G', e, S', r⟩ := S.freeze hi hb
  have e2 : (o1 ++ [(q, M.lst acc)]).eraseIdx o1.length = o1 := by
    rw [List.eraseIdx_append_of_length_le (Nat.le_refl _)]
    simp
  rw [e2] at S'
  exact ⟨G', e, S', r⟩
/-- what a comprehension asks of a turn -/
def TurnC (K : PySem.W.Frag) (B : Bs) (g : TG) (tt : TT) (te : TE) (env : List (Option D)) (vs : List Nat) (x : D) (I J : List D → Ow → Prop) : Prop :=
  ∀ (q : Addr) acc o', B.H q = none → I acc o' → acc.length < 1000000 ∧ GvD K B g x (wipeD env vs) (o' ++ [(q, .lst acc)]) fun env2 o2 => EvT K B tt env2 o2 fun b o3 =>
    (b = true → EvD K B te env2 o3 fun d o4 => ∃ o5, o4 = o5 ++ [(q, .lst acc)] ∧ J (acc ++ [d]) o5) ∧ (b = false → ∃ o5, o3 = o5 ++ [(q, .lst acc)] ∧ J acc o5)
theorem turnC {g : TG} {tt : TT} {vs : List Nat} {G0 H' : Hp} {q : Addr} {σ : L2.St} {x : V} {xd : D} {I J : List D → Ow → Prop} (X : XOk K B) (hw : WT vs g) (hb : B.H q = none) (L : Sl K G0 σ env) (rx : Rep K G0 x xd) (h : TurnC K B g tt te env vs xd I J) (p : CompI K B G0 q I H') :
    g x (L2.wipe σ vs) H' fun σ2 H2 => L2.wipe σ2 vs = L2.wipe σ vs ∧ tt σ2 H2 fun b H3 => if b = true then te σ2 H3 fun y H4 => ∃ acc, H4 q = some (.lst acc) ∧ acc.length < sizeLine ∧ CompI K B G0 q J (upd H4 q (.lst (acc ++ [y]))) else CompI K B G0 q J H3 := by
  obtain ⟨G1, acc, o1, e1, S1, hI⟩ := p
  obtain ⟨hl, h1⟩ := h q acc o1 hb hI
  have h2 := h1 G1 H' (L2.wipe σ vs) x X S1 ((L.mono e1).wipe vs) (rx.mono e1) (fun σ2 H2 => tt σ2 H2 fun b H3 => if b = true then te σ2 H3 fun y H4 => ∃ acc, H4 q = some (.lst acc) ∧ acc.length < sizeLine ∧ CompI K B G0 q J (upd H4 q (.lst (acc ++ [y]))) else CompI K B G0 q J H3)
    fun σ2 env2 G2 H2 o2 e2 S2 L2' ht => ?_
  · have h3 := hw _ _ _ _ h2
    rw [wipe_wipe] at h3
    exact h3
  · refine ht G2 H2 σ2 X S2 L2' _ fun b G3 H3 o3 e3 S3 ⟨hy, hn⟩ => ?_
    cases b with
    | true =>
      refine iteT ?_
      refine hy rfl G3 H3 σ2 X S3 (L2'.mono e3) _ fun v d G4 H4 o4 e4 S4 r4 ⟨o5, ho, hJ⟩ => ?_
      subst ho
      have hi : (o5 ++ [(q, M.lst acc)])[o5.length]? = some (q, M.lst acc) := by simp
      obtain ⟨_, ⟨ws, g2, a1⟩, _⟩ := S4.ow _ (List.mem_of_getElem? hi)
      refine ⟨ws, g2, by rw [a1.length]; exact Nat.lt_of_lt_of_le hl (by decide), G4, acc ++ [d], o5, ((e1.trans e2).trans e3).trans e4, ?_, hJ⟩
      have S5 := S4.put (u := .lst (ws ++ [v])) (m' := .lst (acc ++ [d])) hi ⟨_, upd_same, a1.append (.cons r4 .nil)⟩
      have e : (o5 ++ [(q, M.lst acc)]).set o5.length (q, M.lst (acc ++ [d])) = o5 ++ [(q, M.lst (acc ++ [d]))] := by simp
      rw [e] at S5
      exact S5
    | false =>
      refine iteF ?_
      obtain ⟨o5, ho, hJ⟩ := hn rfl
      subst ho
      exact ⟨G3, acc, o5, (e1.trans e2).trans e3, S3, hJ⟩
/-- [te for g in a list of data if tt] -/
theorem ed_lcL {g : TG} {tt : TT} {tl : TE} {vs : List Nat} (hw : WT vs g) (h : EvD K B tl env o fun d o1 => ∃ ds, d = .lst ds ∧ ∃ I : Nat → List D → Ow → Prop, I 0 [] o1 ∧ (∀ (i : Nat) x, ds[i]? = some x → TurnC K B g tt te env vs x (I i) (I (i + 1))) ∧ ∀ acc o', I ds.length acc o' → P (.lst acc) o') :
    EvD K B (tLc (iList K tl) g tt te vs) env o P := fun G H σ X S L Q k =>
  h G H σ X S L _ fun v d G1 H1 o1 e1 S1 r1 ⟨ds, hd, I, h0, hs, he⟩ => by
    subst hd
    cases r1 with
    | @lst a ws _ g1 a1 =>
      refine ⟨a, rfl, ⟨ws, .of (S1.sub _ _ g1)⟩, fun q hq => ?_⟩
      have hb := S1.bnone hq
      refine lc_list (K := K) (a := a) (xs := ws) (fun i H' => CompI K B G1 q (I i) H') ⟨G1, [], o1, Same.refl G1, S1.own (m := .lst []) hq ⟨[], upd_same, .nil⟩, h0⟩ (fun i H' _ ⟨G2, _, _, e2, S2, _⟩ => .of (S2.sub _ _ (e2 _ _ g1))) (fun i x H' hx p => ?_) fun H' ⟨G2, acc, o2, e2, S2, hI⟩ => ?_
      · obtain ⟨xd, hd, rd⟩ := a1.getV hx
        exact turnC X hw hb (L.mono e1) rd (hs i xd hd) p
      · rw [a1.length] at hI
        obtain ⟨G3, e3, S3, r3⟩ := comp_end (G0 := G1) S2 hb
        exact k _ _ G3 H' o2 ((e1.trans e2).trans e3) S3 r3 (he acc o2 hI)
/-- .. for g in a tuple -/
theorem ed_lcT {g : TG} {tt : TT} {tl : TE} {vs : List Nat} (hw : WT vs g) (h : EvD K B tl env o fun d o1 => ∃ ds, d = .tup ds ∧ ∃ I : Nat → List D → Ow → Prop, I 0 [] o1 ∧ (∀ (i : Nat) x, ds[i]? = some x → TurnC K B g tt te env vs x (I i) (I (i + 1))) ∧ ∀ acc o', I ds.length acc o' → P (.lst acc) o') :
    EvD K B (tLc (iTup K tl) g tt te vs) env o P := fun G H σ X S L Q k =>
  h G H σ X S L _ fun v d G1 H1 o1 e1 S1 r1 ⟨ds, hd, I, h0, hs, he⟩ => by
    subst hd
    cases r1 with
    | @tup a ws _ g1 a1 =>
      refine ⟨a, rfl, ⟨ws, .of (S1.sub _ _ g1)⟩, fun q hq => ?_⟩
      have hb := S1.bnone hq
      refine lc_tup (K := K) (a := a) (xs := ws) (fun i H' => CompI K B G1 q (I i) H') ⟨G1, [], o1, Same.refl G1, S1.own (m := .lst []) hq ⟨[], upd_same, .nil⟩, h0⟩ (fun i H' _ ⟨G2, _, _, e2, S2, _⟩ => .of (S2.sub _ _ (e2 _ _ g1))) (fun i x H' hx p => ?_) fun H' ⟨G2, acc, o2, e2, S2, hI⟩ => ?_
      · obtain ⟨xd, hd, rd⟩ := a1.getV hx
        exact turnC X hw hb (L.mono e1) rd (hs i xd hd) p
      · rw [a1.length] at hI
        obtain ⟨G3, e3, S3, r3⟩ := comp_end (G0 := G1) S2 hb
        exact k _ _ G3 H' o2 ((e1.trans e2).trans e3) S3 r3 (he acc o2 hI)
/-- .. for g in range(n) -/
theorem ed_lcR1 {g : TG} {tt : TT} {tas : TA} {vs : List Nat} (hw : WT vs g) (h : EvA K B tas env o fun as o1 => ∃ n : Int, as = [dI n] ∧ (-(2 ^ 62) ≤ n ∧ n < 2 ^ 62) ∧ ∃ I : Nat → List D → Ow → Prop, I 0 [] o1 ∧ (∀ (i : Nat), (i : Int) < n → TurnC K B g tt te env vs (dI i) (I i) (I (i + 1))) ∧ ∀ acc o', I n.toNat acc o' → P (.lst acc) o') :
    EvD K B (tLc (iRng1 tas) g tt te vs) env o P := fun G H σ X S L Q k =>
  h G H σ X S L _ fun ws as G1 H1 o1 e1 S1 r1 ⟨n, ha, hn, I, h0, hs, he⟩ => by
    subst ha
    rw [show ws = [.int n] from Reps.sc_inv (ws := [.int n]) r1]
    refine ⟨n, rfl, hn.1, hn.2, fun q hq => ?_⟩
    have hb := S1.bnone hq
    refine lc_range (lo := 0) (n := n.toNat) (fun i H' => CompI K B G1 q (I i) H') ⟨G1, [], o1, Same.refl G1, S1.own (m := .lst []) hq ⟨[], upd_same, .nil⟩, h0⟩ (fun i H' hi p => ?_) fun H' ⟨G2, acc, o2, e2, S2, hI⟩ => ?_
    · have e0 : (0 : Int) + (i : Int) = (i : Int) := Int.zero_add _
      rw [e0]
      exact turnC X hw hb (L.mono e1) (.sc _) (hs i (by omega)) p
    · obtain ⟨G3, e3, S3, r3⟩ := comp_end (G0 := G1) S2 hb
      exact k _ _ G3 H' o2 ((e1.trans e2).trans e3) S3 r3 (he acc o2 hI)
theorem ed_lcR2 {g : TG} {tt : TT} {tas : TA} {vs : List Nat} (hw : WT vs g) (h : EvA K B tas env o fun as o1 => ∃ a n : Int, as = [dI a, dI n] ∧ (-(2 ^ 62) ≤ a ∧ a < 2 ^ 62 ∧ -(2 ^ 62) ≤ n ∧ n < 2 ^ 62) ∧ ∃ I : Nat → List D → Ow → Prop, I 0 [] o1 ∧ (∀ (i : Nat), a + (i : Int) < n → TurnC K B g tt te env vs (dI (a + i)) (I i) (I (i + 1))) ∧ ∀ acc o', I (n - a).toNat acc o' → P (.lst acc) o') :
    EvD K B (tLc (iRng2 tas) g tt te vs) env o P := fun G H σ X S L Q k =>
  h G H σ X S L _ fun ws as G1 H1 o1 e1 S1 r1 ⟨a, n, ha, hn, I, h0, hs, he⟩ => by
    subst ha
    rw [show ws = [.int a, .int n] from Reps.sc_inv (ws := [.int a, .int n]) r1]
    refine ⟨a, n, rfl, hn, fun q hq => ?_⟩
    have hb := S1.bnone hq
    refine lc_range (lo := a) (n := (n - a).toNat) (fun i H' => CompI K B G1 q (I i) H') ⟨G1, [], o1, Same.refl G1, S1.own (m := .lst []) hq ⟨[], upd_same, .nil⟩, h0⟩ (fun i H' hi p => ?_) fun H' ⟨G2, acc, o2, e2, S2, hI⟩ => ?_
    · exact turnC X hw hb (L.mono e1) (.sc _) (hs i (by omega)) p
    · obtain ⟨G3, e3, S3, r3⟩ := comp_end (G0 := G1) S2 hb
      exact k _ _ G3 H' o2 ((e1.trans e2).trans e3) S3 r3 (he acc o2 hI)
/-- a comprehension whose turns change nothing that is owned: filter and map -/
theorem turn_pure {g : TG} {tt : TT} {vs : List Nat} {x : D} {o1 : Ow} {acc0 : List D} {r : Option D}
    (hl : acc0.length < 1000000) (h : ∀ q, B.H q = none → GvD K B g x (wipeD env vs) (o1 ++ [(q, .lst acc0)]) fun env2 o2 => EvT K B tt env2 o2 fun b o3 => (b = true → EvD K B te env2 o3 fun d o4 => r = some d ∧ o4 = o1 ++ [(q, .lst acc0)]) ∧ (b = false → r = none ∧ o3 = o1 ++ [(q, .lst acc0)])) :
    TurnC K B g tt te env vs x (fun acc o' => acc = acc0 ∧ o' = o1) (fun acc o' => acc = acc0 ++ r.toList ∧ o' = o1) := by
  intro q acc o' hb hI
  obtain ⟨h1, h2⟩ := hI
  subst h1 h2
  refine ⟨hl, fun G H σ v X S L rx Q k => h q hb G H σ v X S L rx Q fun σ' env' G' H' o2 e S' L' ht => k σ' env' G' H' o2 e S' L' (ht.imp fun b o3 ⟨hy, hn⟩ => ⟨fun z => (hy z).imp fun d o4 ⟨a, b⟩ => ⟨o', b, by subst a; exact ⟨rfl, rfl⟩⟩, fun z => ?_⟩)⟩
  obtain ⟨a, b⟩ := hn z
  subst a
  exact ⟨o', b, by simp⟩
end
end DK

set_option Elab.async false
set_option linter.all false
set_option maxRecDepth 100000
set_option maxHeartbeats 4000000
/-! DK5: a def's contract from its body; the law's end. -/
namespace DK
open PySem PySem.Spec PyProof.Rows L2
section
variable {P : Program} {w : World} {K : PySem.W.Frag} {mg : Str → Option Value} {base : Heap} {x qual : Str} {params : Arguments} {body : List Stmt} {scope : Scope} {dvs : List V} {kws : List (Str × V)} {f : Addr} {fd : FuncData} {N ps : List Str} {k : Nat} {R : DR}
def env0 (N : List Str) (ds : List D) : List (Option D) := ds.map some ++ List.replicate (N.length - ds.length) none
theorem sl_start {G : Hp} {vs : List V} {ds : List D} (r : Reps K G vs ds) : Sl K G (L2.start N vs) (env0 N ds) := by
  refine ⟨by simp [L2.start, env0, r.length], fun i d h => ?_⟩
  unfold env0 at h
  by_cases q : i < ds.length
  · rw [List.getElem?_append_left (by simpa using q), List.getElem?_map] at h
    obtain ⟨e, h1, h2⟩ := Option.map_eq_some_iff.mp h
    cases h2
    obtain ⟨v, h3, h4⟩ := r.get h1
    refine ⟨v, ?_, h4⟩
    unfold L2.start
    rw [List.getElem?_append_left (by rw [List.length_map, r.length]; exact q), List.getElem?_map, h3]
    rfl
  · rw [List.getElem?_append_right (by simpa using q)] at h
    have := List.mem_of_getElem? h
    simp at this
abbrev endsR (P : D → Ow → Prop) : DE := ⟨fun _ o => P dN o, P, fun _ _ => False, fun _ _ => False⟩
theorem body_run {vs : List V} {H : Hp} {Q : VK} {E : XK} {t : TS} (h : spR K R vs H Q E)
    (hb : ∀ (B : Bs) ds fp P X, B.E = E → B.X = X → B.M = fp.map (·.1) → R ds fp P X → SvD K B t (env0 N ds) fp (endsR P)) : t { nx := fun _ H' => Q .non H', rt := Q } (L2.start N vs) H := by
  obtain ⟨G, ds, fp, PD, X, e, r, hf, nd, hR, hX, hk⟩ := h
  exact hb ⟨G, H, fp.map (·.1), E, X⟩ ds fp PD X rfl rfl rfl hR G H _ hX (Sat.init e hf nd) (sl_start r) _
    ⟨fun σ' env' G' H' o' e' S L p => hk _ _ G' H' o' S (.sc _) p, fun v d G' H' o' e' S r p => hk v d G' H' o' S r p, fun _ _ _ _ _ _ _ _ p => p.elim, fun _ _ _ _ _ _ _ _ p => p.elim⟩
/-- a def that raises nothing -/
theorem fnR (F : FunD K x qual params body scope dvs kws f fd) (S : FnScope N ps scope) (len : ∀ ds fp P X, R ds fp P X → ds.length = ps.length)
    (hbody : ∀ (cdv : Value) (A : Around) (outer : List Env) (s : Shared) (H : Hp) (E : XK), Room k (A.deeper (envOfC qual scope s.heap.objs.size f cdv)) →
      ∃ t, PSs (cxOf CX0 P w K mg base N qual scope f cdv A outer s H E).nox body t ∧ ∀ (B : Bs) ds fp PD X, B.E = E → B.X = X → B.M = fp.map (·.1) → R ds fp PD X → SvD K B t (env0 N ds) fp (endsR PD)) : FnOk P w K mg base CX0 (k + 1) f fd ps (spR K R) := by
  refine F.ok S (fun vs H Q E h => ?_) fun cdv A outer s H vs Q E hr h => ?_
  · obtain ⟨G, ds, fp, PD, X, e, r, hf, nd, hR, _⟩ := h
    rw [r.length]
    exact len _ _ _ _ hR
  · obtain ⟨t, h1, h2⟩ := hbody cdv A outer s H E hr
    exact ⟨t, h1.nox, body_run h h2⟩
/-- a def that may raise -/
theorem fnX (F : FunD K x qual params body scope dvs kws f fd) (S : FnScope N ps scope) (len : ∀ ds fp P X, R ds fp P X → ds.length = ps.length)
    (hbody : ∀ (cdv : Value) (A : Around) (outer : List Env) (s : Shared) (H : Hp) (E : XK), Room k (A.deeper (envOfC qual scope s.heap.objs.size f cdv)) →
      ∃ t, PSs (cxOf (L2.CX P w) P w K mg base N qual scope f cdv A outer s H E) body t ∧ ∀ (B : Bs) ds fp PD X, B.E = E → B.X = X → B.M = fp.map (·.1) → R ds fp PD X → SvD K B t (env0 N ds) fp (endsR PD)) : FnOk P w K mg base (L2.CX P w) (k + 1) f fd ps (spR K R) := by
  refine F.ok S (fun vs H Q E h => ?_) fun cdv A outer s H vs Q E hr h => ?_
  · obtain ⟨G, ds, fp, PD, X, e, r, hf, nd, hR, _⟩ := h
    rw [r.length]
    exact len _ _ _ _ hR
  · obtain ⟨t, h1, h2⟩ := hbody cdv A outer s H E hr
    exact ⟨t, h1, body_run h h2⟩
end
section
variable {CX : CXT} {P : Program} {w : World} {K : PySem.W.Frag} {mg : Str → Option Value} {base : Heap} {N : List Str} {qual : Str} {scope : Scope} {f : Addr} {cd : Value} {A : Around} {outer : List Env} {s : Shared} {H : Hp} {E : XK}
theorem cxK : (cxOf CX P w K mg base N qual scope f cd A outer s H E).K = K := rfl
theorem cxN : (cxOf CX P w K mg base N qual scope f cd A outer s H E).nox.K = K := rfl
end
theorem fin {P : D → Ow → Prop} {a b : D} {o : Ow} (h : P a o) (e : a = b) : P b o := e ▸ h
/-- a pure def: what it asks of its arguments, what it answers -/
def pureR (pre : List D → Prop) (g : List D → D) : DR := fun ds fp P _ => fp = [] ∧ pre ds ∧ P (g ds) []
/-- raising a class -/
def tRz (E : XK) (C : Addr) : TS := fun _ _ H => E (.ref C) none H
theorem ps_rz {X : Cx} {E : XK} {C : Addr} {e : Expr} {pos : Pos} (hc : X.calm = true) (tk : L2.Takes X fun cls d _ H => E cls d H) (he : L2.PMk X e (fun _ H Q => Q (.ref C) none H)) : PS X (.Raise (some e) none pos) (tRz E C) := ps_raise hc tk he
theorem sv_rz {K : PySem.W.Frag} {B : Bs} {env : List (Option D)} {o : Ow} {PS : DE} {C : Addr} (h : B.X C none o) : SvD K B (tRz B.E C) env o PS := fun G H σ X S L D q => X.1 C G H o S h
end DK

set_option Elab.async false
set_option linter.all false
set_option maxRecDepth 100000
set_option maxHeartbeats 2000000
/-! DKH: the head's facts, the part of the heap told by places: all that stands behind the top; one Bool more -/
namespace DK
open PySem PySem.Spec PyProof.Rows L2
def asR (c : Nat) : List Addr := List.range c
def obsR (c : Nat) (fa : List He.Fa) (fn : List He.DefD) (ex : PySem.W.Frag → Bool) (g : Addr → Option Obj) : He.AlD × Bool := (He.obsD fa fn (He.frG g (asR c)), ex (He.frG g (asR c)))
structure SaysR (fa : List He.Fa) (fn : List He.DefD) (ex : PySem.W.Frag → Bool) (K : PySem.W.Frag) : Prop where
  d : He.SaysD fa fn K
  more : ex K = true
def hookR (c : Nat) (fa : List He.Fa) (fn : List He.DefD) (ex : PySem.W.Frag → Bool) : PySem.W.Hook where
  α := He.AlD × Bool
  obs := fun s => obsR c fa fn ex s.heap.get?
  val := fun _ => (He.valD fn, true)
  says := fun _ h => ∃ K : PySem.W.Frag, K.In h ∧ SaysR fa fn ex K
  of := fun _ _ e => ⟨_, He.frG_in, congrArg Prod.fst e, congrArg Prod.snd e⟩
  keeps := fun _ _ _ w k => ⟨w.choose, PySem.W.Frag.In.keeps w.choose_spec.1 k, w.choose_spec.2⟩
theorem obsR_eq {n : Nat} {fa : List He.Fa} {fn : List He.DefD} {ex : PySem.W.Frag → Bool} {g : Addr → Option Obj} {s : Shared} (h : ∀ a, g a = s.heap.get? a) : obsR n fa fn ex g = (hookR n fa fn ex).obs s := by
  cases (funext h : g = s.heap.get?)
  rfl
/-- C.m, C the class x, as a plain function -/
def cfnB (K : PySem.W.Frag) (C : Addr) (m : Str) (f : Addr) : Bool := PySem.W.readsIn K C (.type "type") && (He.eqO (PySem.W.specialIn K (.ref C) "__getattribute__") (some (some (.builtin "type.__getattribute__"))) &&
  ((match PySem.W.findCls K (.ref C) (.type "type") m with
    | some (.val (.ref g)) => decide (g = f)
    | _ => false) && PySem.W.keepIn K (.ref f)))
structure CFn (K : PySem.W.Frag) (C : Addr) (m : Str) (f : Addr) : Prop where
  r : ClX.CRead K C (.type "type")
  k : ClX.CVal K C (.type "type") m (.ref f) (.ref f)
  kp : PySem.W.keepIn K (.ref f) = true
theorem cfnB_ok {K : PySem.W.Frag} {C : Addr} {m : Str} {f : Addr} (h : cfnB K C m f = true) : CFn K C m f := by
  obtain ⟨h1, h2⟩ := He.ba h
  obtain ⟨h3, h4⟩ := He.ba h2
  obtain ⟨h5, h6⟩ := He.ba h4
  refine ⟨⟨h1, He.eqO_ok h3⟩, ⟨?_, rfl⟩, h6⟩
  split at h5
  · rename_i g e
    rw [e, of_decide_eq_true h5]
  · cases h5
def tCFn (C : Addr) (sp : Sp) (dvs : List V) (E : XK) (ta : TE) (t : TA) : TE := fun σ H Q => ta σ H fun x H1 => x = .ref C ∧ t σ H1 fun vs H2 => sp (vs ++ dvs) H2 Q E
section
variable {X : Cx} {CX : CXT} {k : Nat} {f C : Addr} {fd : FuncData} {ps : List Str} {sp : Sp} {dvs : List V} {ds : List Value} {E : XK} {m : Str} {pos apos : Pos} {e o : Expr} {es : List Expr} {ta : TE} {t : TA}
theorem pe_cfn {pl : Sem Bool} (he : PE X o ta) (c : CFn X.K C m f) (F : FnOk X.prog X.w X.K X.mg X.base CX k f fd ps sp) (hr : Room k X.A) (hb : Binds X.K fd ps ds) (hd : Vals dvs ds) (hx : Passes CX X E) (ha : PA X (e :: es) t)
    (hst : starEach (e :: es) X.env = (false, eval e X.env) :: starEach es X.env := by rfl) (hpl : (backTo pos (starEach es X.env)).any (·.1) = false := by rfl)
    (ht : eval (.Call (.Attribute o m apos) (e :: es) [] pos) X.env = (do
      let ov ← eval o X.env
      standAt apos.atName
      let (f, first) ← holding [ov] (getMethod ov m pl)
      callWith pos f first (backTo pos (starEach (e :: es) X.env)) (backToKw pos (keywordEach [] X.env))) := by rfl) :
    PE X (.Call (.Attribute o m apos) (e :: es) [] pos) (tCFn C sp dvs E ta t) := by
  refine ⟨fun pins s σ H Q I h => ?_⟩
  refine PySem.W.methodCall_KW (pl := pl) (thn (he.run pins s σ H _ I h) fun cv s1 ⟨cx, H1, I1, cr, ce, q⟩ => ?_) ht
  subst ce
  cases (show cv = Value.ref C from cr)
  refine PySem.W.method_cls I1.kIn c.r.ga (ClX.getcval_ok I1 c.r c.k fun s' I' => ?_)
  refine PySem.W.callWith_K (first := []) (h₀ := X.base) I'.ok.mod.kin c.kp (thn (ha.run pos pins s' σ H1 _ I' q) fun us s2 ⟨vs, H2, I2, r, q2⟩ => ⟨I2.kIn, ?_⟩) hst hpl
  exact run_fn F hr hb hd hx I2 r q2
end
end DK

set_option Elab.async false
set_option linter.all false
set_option maxRecDepth 100000
set_option maxHeartbeats 4000000
/-! DK6: defs as they are called: by a global's name, as a method, as a class. -/
namespace DK
open PySem PySem.Spec PyProof.Rows L2
structure Cal (P : Program) (w : World) (K : PySem.W.Frag) (mg : Str → Option Value) (base : Heap) (CX : CXT) (k : Nat) (x : Str) (ps : List Str) (sp : Sp) (dvs : List V) : Prop where
  ex : ∃ (f : Addr) (fd : FuncData) (ds : List Value), FnOk P w K mg base CX k f fd ps sp ∧ mg x = some (.ref f) ∧ PySem.W.keepIn K (.ref f) = true ∧ Binds K fd ps ds ∧ Vals dvs ds
structure Mth (P : Program) (w : World) (K : PySem.W.Frag) (mg : Str → Option Value) (base : Heap) (CX : CXT) (k : Nat) (C : Addr) (m : Str) (ps : List Str) (sp : Sp) (dvs : List V) : Prop where
  ex : ∃ (f : Addr) (fd : FuncData) (ds : List Value), Cls K C ∧ Meth K C m f ∧ FnOk P w K mg base CX k f fd ps sp ∧ Binds K fd ps ds ∧ Vals dvs ds
structure Mkr (P : Program) (w : World) (K : PySem.W.Frag) (mg : Str → Option Value) (base : Heap) (CX : CXT) (k : Nat) (C : Addr) (x : Str) (ps : List Str) (sp : Sp) (dvs : List V) : Prop where
  ex : ∃ (f : Addr) (fd : FuncData) (ds : List Value), Mk K C f ∧ mg x = some (.ref C) ∧ FnOk P w K mg base CX k f fd ps sp ∧ Binds K fd ps ds ∧ Vals dvs ds
structure Cfc (P : Program) (w : World) (K : PySem.W.Frag) (mg : Str → Option Value) (base : Heap) (CX : CXT) (k : Nat) (C : Addr) (m : Str) (ps : List Str) (sp : Sp) (dvs : List V) : Prop where
  ex : ∃ (f : Addr) (fd : FuncData) (ds : List Value), CFn K C m f ∧ FnOk P w K mg base CX k f fd ps sp ∧ Binds K fd ps ds ∧ Vals dvs ds
theorem Mth.cfc {P : Program} {w : World} {K : PySem.W.Frag} {mg : Str → Option Value} {base : Heap} {CX : CXT} {k : Nat} {C f : Addr} {fd : FuncData} {ds : List Value} {m : Str} {ps : List Str} {sp : Sp} {dvs : List V} (c : CFn K C m f) (F : FnOk P w K mg base CX k f fd ps sp) (b : Binds K fd ps ds) (v : Vals dvs ds) : Cfc P w K mg base CX k C m ps sp dvs := ⟨f, fd, ds, c, F, b, v⟩
section
variable {X : Cx} {CX : CXT} {j k : Nat} {C : Addr} {ps : List Str} {sp : Sp} {dvs : List V} {E : XK} {x m : Str} {p pos apos : Pos} {e o : Expr} {es : List Expr} {ta : TE} {t : TA}
theorem pe_tyn {T : String} (hg : Gl X x) (hm : X.mg x = none) (hv : bootBuiltins x = some (.type T)) (hn : x ≠ "__name__" := by decide) (hd : (x == ("__debug__" : Str)) = false := by decide) : PE X (.Name x pos) (tC (.ty T)) := pe_bltn hg hm hv rfl hn hd
theorem pe_gref {a : Addr} (hg : Gl X x) (hm : X.mg x = some (.ref a)) (hd : (x == ("__debug__" : Str)) = false := by decide) : PE X (.Name x pos) (tC (.ref a)) := pe_glob hg hm rfl hd
theorem pe_gint {i : Int} (hg : Gl X x) (hm : ∃ t, X.mg x = some (.int i t)) (hd : (x == ("__debug__" : Str)) = false := by decide) : PE X (.Name x pos) (tC (.int i)) := by
  obtain ⟨t, h⟩ := hm
  exact pe_glob hg h ⟨t, rfl⟩ hd
theorem pe_gstr {z : Str} (hg : Gl X x) (hm : ∃ t, X.mg x = some (.str z t)) (hd : (x == ("__debug__" : Str)) = false := by decide) : PE X (.Name x pos) (tC (.str z)) := by
  obtain ⟨t, h⟩ := hm
  exact pe_glob hg h ⟨t, rfl⟩ hd
theorem pe_cal (c : Cal X.prog X.w X.K X.mg X.base CX k x ps sp dvs) (hr : Room k X.A) (hg : Gl X x) (hx : Passes CX X E) (ha : PA X (e :: es) t)
    (hdb : (x == ("__debug__" : Str)) = false := by decide) (he : starEach (e :: es) X.env = (false, eval e X.env) :: starEach es X.env := by rfl) (hpl : (backTo pos (starEach es X.env)).any (·.1) = false := by rfl) :
    PE X (.Call (.Name x p) (e :: es) [] pos) (tCall sp dvs E t) := by
  obtain ⟨f, fd, ds, F, hm, hk, hb, hd⟩ := c.ex
  exact pe_call F hr hg hm hk hb hd hx ha hdb he hpl
theorem pe_cfc {pl : Sem Bool} (ho : PE X o ta) (c : Cfc X.prog X.w X.K X.mg X.base CX k C m ps sp dvs) (hr : Room k X.A) (hx : Passes CX X E) (ha : PA X (e :: es) t)
    (ht : eval (.Call (.Attribute o m apos) (e :: es) [] pos) X.env = (do
      let ov ← eval o X.env
      standAt apos.atName
      let (f, first) ← holding [ov] (getMethod ov m pl)
      callWith pos f first (backTo pos (starEach (e :: es) X.env)) (backToKw pos (keywordEach [] X.env))) := by rfl)
    (he : starEach (e :: es) X.env = (false, eval e X.env) :: starEach es X.env := by rfl) (hpl : (backTo pos (starEach es X.env)).any (·.1) = false := by rfl) :
    PE X (.Call (.Attribute o m apos) (e :: es) [] pos) (tCFn C sp dvs E ta t) := by
  obtain ⟨f, fd, ds, c', F, hb, hd⟩ := c.ex
  exact pe_cfn ho c' F hr hb hd hx ha he hpl ht
theorem pe_cal0 (c : Cal X.prog X.w X.K X.mg X.base CX k x ps sp dvs) (hr : Room k X.A) (hg : Gl X x) (hx : Passes CX X E) (hdb : (x == ("__debug__" : Str)) = false := by decide) :
    PE X (.Call (.Name x p) [] [] pos) (tCall sp dvs E tNil) := by
  obtain ⟨f, fd, ds, F, hm, hk, hb, hd⟩ := c.ex
  exact pe_call0 F hr hg hm hk hb hd hx hdb
theorem pe_mkr (c : Mkr X.prog X.w X.K X.mg X.base CX k C x ps sp dvs) (hr : Room (k + 1) X.A) (hg : Gl X x) (hx : Passes CX X E) (ha : PA X (e :: es) t)
    (hdb : (x == ("__debug__" : Str)) = false := by decide) (he : starEach (e :: es) X.env = (false, eval e X.env) :: starEach es X.env := by rfl) (hpl : (backTo pos (starEach es X.env)).any (·.1) = false := by rfl) :
    PE X (.Call (.Name x p) (e :: es) [] pos) (tMake C sp dvs E t) := by
  obtain ⟨f, fd, ds, M, hm, F, hb, hd⟩ := c.ex
  exact pe_make M F hr hg hm hb hd hx ha hdb he hpl
theorem pe_mkr0 (c : Mkr X.prog X.w X.K X.mg X.base CX k C x ps sp dvs) (hr : Room (k + 1) X.A) (hg : Gl X x) (hx : Passes CX X E) (hdb : (x == ("__debug__" : Str)) = false := by decide) :
    PE X (.Call (.Name x p) [] [] pos) (tMake C sp dvs E tNil) := by
  obtain ⟨f, fd, ds, M, hm, F, hb, hd⟩ := c.ex
  exact pe_make0 M F hr hg hm hb hd hx hdb
theorem pe_mth {pl : Sem Bool} (ho : PE X o ta) (c : Mth X.prog X.w X.K X.mg X.base CX k C m ps sp dvs) (hr : Room k X.A) (hx : Passes CX X E) (ha : PA X (e :: es) t)
    (ht : eval (.Call (.Attribute o m apos) (e :: es) [] pos) X.env = (do
      let ov ← eval o X.env
      standAt apos.atName
      let (f, first) ← holding [ov] (getMethod ov m pl)
      callWith pos f first (backTo pos (starEach (e :: es) X.env)) (backToKw pos (keywordEach [] X.env))) := by rfl)
    (he : starEach (e :: es) X.env = (false, eval e X.env) :: starEach es X.env := by rfl) (hpl : (backTo pos (starEach es X.env)).any (·.1) = false := by rfl) :
    PE X (.Call (.Attribute o m apos) (e :: es) [] pos) (tMeth C m sp dvs E ta t) := by
  obtain ⟨f, fd, ds, hc, hm, F, hb, hd⟩ := c.ex
  exact pe_meth ho hc hm F hr hb hd hx ha he hpl ht
theorem pe_mth0 {pl : Sem Bool} (ho : PE X o ta) (c : Mth X.prog X.w X.K X.mg X.base CX k C m ps sp dvs) (hr : Room k X.A) (hx : Passes CX X E)
    (ht : eval (.Call (.Attribute o m apos) [] [] pos) X.env = (do
      let ov ← eval o X.env
      standAt apos.atName
      let (f, first) ← holding [ov] (getMethod ov m pl)
      callWith pos f first (backTo pos (starEach [] X.env)) (backToKw pos (keywordEach [] X.env))) := by rfl) :
    PE X (.Call (.Attribute o m apos) [] [] pos) (tMeth C m sp dvs E ta tNil) := by
  obtain ⟨f, fd, ds, hc, hm, F, hb, hd⟩ := c.ex
  exact pe_meth0 ho hc hm F hr hb hd hx ht
end
section
variable {X : Cx}
def rEqU (K : PySem.W.Frag) : R2 := fun x y H Q => rEq x y H Q ∨ rEqD K x y H Q
def rNeU (K : PySem.W.Frag) : R2 := fun x y H Q => rNe x y H Q ∨ rNeD K x y H Q
theorem op_eqU {k : Nat} (hr : Room k X.A) : OpR X (compareOp .Eq) (rEqU X.K) := OpR.or op_eq (op_eqD hr.units)
theorem op_neU {k : Nat} (hr : Room k X.A) : OpR X (compareOp .NotEq) (rNeU X.K) := OpR.or op_ne (op_neD hr.units)
end
section
variable {K : PySem.W.Frag} {B : Bs} {o : Ow} {P : D → Ow → Prop} {x y : D}
theorem rv_eqU {a b : V} (h : scal a b = true) (q : P (dB (decide (a = b))) o) : RvD K B (rEqU K) (.sc a) (.sc b) o P := fun G H v w X S r1 r2 Q k => .inl (rv_eq h q G H v w X S r1 r2 Q k)
theorem rv_neU {a b : V} (h : scal a b = true) (q : P (dB (!decide (a = b))) o) : RvD K B (rNeU K) (.sc a) (.sc b) o P := fun G H v w X S r1 r2 Q k => .inl (rv_ne h q G H v w X S r1 r2 Q k)
theorem rv_eqT {a : V} (h : scal a a = true) (q : P (dB true) o) : RvD K B (rEqU K) (.sc a) (.sc a) o P := rv_eqU h (by rw [decide_eq_true rfl]; exact q)
theorem rv_eqF {a b : V} (h : scal a b = true) (n : ¬ a = b) (q : P (dB false) o) : RvD K B (rEqU K) (.sc a) (.sc b) o P := rv_eqU h (by rw [decide_eq_false n]; exact q)
theorem rv_neT {a b : V} (h : scal a b = true) (n : ¬ a = b) (q : P (dB true) o) : RvD K B (rNeU K) (.sc a) (.sc b) o P := rv_neU h (by rw [decide_eq_false n]; exact q)
theorem rv_neF {a : V} (h : scal a a = true) (q : P (dB false) o) : RvD K B (rNeU K) (.sc a) (.sc a) o P := rv_neU h (by rw [decide_eq_true rfl]; exact q)
theorem rv_eqUD {a b : PyData} (h1 : toPy x = some a) (h2 : toPy y = some b) (s1 : SeqAt.shaped a = true) (s2 : SeqAt.shaped b = true) (q : P (dB (PyData.eqv a b)) o) : RvD K B (rEqU K) x y o P := fun G H v w X S r1 r2 Q k => .inr (rv_eqD h1 h2 s1 s2 q G H v w X S r1 r2 Q k)
theorem rv_neUD {a b : PyData} (h1 : toPy x = some a) (h2 : toPy y = some b) (s1 : SeqAt.shaped a = true) (s2 : SeqAt.shaped b = true) (q : P (dB (!PyData.eqv a b)) o) : RvD K B (rNeU K) x y o P := fun G H v w X S r1 r2 Q k => .inr (rv_neD h1 h2 s1 s2 q G H v w X S r1 r2 Q k)
theorem ed_cfn {env : List (Option D)} {C : Addr} {R : DR} {dvs : List V} {ta : TE} {tas : TA} {E : XK} (h : EvD K B ta env o fun r o1 => r = dR C ∧ EvA K B tas env o1 fun ds o2 => ∃ A fp C', o2 = A ++ (fp ++ C') ∧ R (ds ++ dvs.map D.sc) fp (fun d fp' => P d (A ++ (fp' ++ C'))) X0) : EvD K B (tCFn C (spR K R) dvs E ta tas) env o P := fun G H σ X S L Q k =>
  h G H σ X S L _ fun v r G1 H1 o1 e1 S1 r1 ⟨hr, h1⟩ => by
    subst hr
    cases r1
    refine ⟨rfl, h1 G1 H1 σ X S1 (L.mono e1) _ fun vs ds G2 H2 o2 e2 S2 r2 ⟨A, fp, C', ho, hR⟩ => ?_⟩
    subst ho
    exact spR_call S2 (r2.append (Reps.sc dvs)) hR XOk.none fun v d G' H' fp' e3 S3 r3 p => k v d G' H' _ ((e1.trans e2).trans e3) S3 r3 p
/-- an expression that is never reached -/
def tNevE : TE := fun _ _ _ => False
theorem pe_nev {X : Cx} {e : Expr} : PE X e tNevE := ⟨fun _ _ _ _ _ _ h => h.elim⟩
/-- two readings of one expression -/
theorem PE.or {X : Cx} {e : Expr} {t u : TE} (h1 : PE X e t) (h2 : PE X e u) : PE X e (fun σ H Q => t σ H Q ∨ u σ H Q) := ⟨fun pins s σ H Q I h => h.elim (h1.run pins s σ H Q I) (h2.run pins s σ H Q I)⟩
def tOrE (t u : TE) : TE := fun σ H Q => t σ H Q ∨ u σ H Q
theorem pe_two {X : Cx} {e : Expr} {t u : TE} (h1 : PE X e t) (h2 : PE X e u) : PE X e (tOrE t u) := PE.or h1 h2
theorem ed_two1 {env : List (Option D)} {t u : TE} (h : EvD K B t env o P) : EvD K B (tOrE t u) env o P := fun G H σ X S L Q k => .inl (h G H σ X S L Q k)
theorem ed_two2 {env : List (Option D)} {t u : TE} (h : EvD K B u env o P) : EvD K B (tOrE t u) env o P := fun G H σ X S L Q k => .inr (h G H σ X S L Q k)
theorem rv_addSS {i j : Str} (hl : i.length + j.length ≤ 16000000) (q : P (dS (i ++ j)) o) : RvD K B rAddS (dS i) (dS j) o P := fun G H v w X S r1 r2 Q k => by
  cases r1
  cases r2
  exact ⟨i, j, rfl, rfl, Nat.le_trans hl (by decide), k _ _ G H o (Same.refl G) S (.sc _) q⟩
theorem rv_addII {i j : Int} (q : P (dI (i + j)) o) : RvD K B L2.rAdd (dI i) (dI j) o P := fun G H v w X S r1 r2 Q k => by
  cases r1
  cases r2
  exact ⟨i, j, rfl, rfl, k _ _ G H o (Same.refl G) S (.sc _) q⟩
/-- sorted(d), d an owned dict of whole numbers -/
def rSortedDI : List V → Hp → VK → Prop := fun xs H Q => ∃ (a : Addr) (kvs : List (Key × V)) (ks : List Int), xs = [.ref a] ∧ Rd H a (.dK kvs) ∧ kvs.map (·.1) = ks.map Sum.inl ∧ ks.length < 64 ∧ ∀ (ys : List Int) (p : Addr), ys.Perm ks → ys.Pairwise (· ≤ ·) → H p = none → Q (.ref p) (upd H p (.lst (ys.map V.int)))
theorem repK_keys {G : Hp} {vs : List (Key × V)} : ∀ {kvs : List (Key × D)}, RepK K G vs kvs → vs.map (·.1) = kvs.map (·.1) := by
  induction vs with
  | nil => intro kvs h; cases h; rfl
  | cons p vs ih => intro kvs h; cases h with | cons a r => rw [List.map_cons, List.map_cons, ih r]
theorem rc_sortedDI {r : D} {kvs : List (Key × D)} {ks : List Int} (hd : IsDic r o kvs) (hk : kvs.map (·.1) = ks.map Sum.inl) (hl : ks.length < 64) (q : ∀ ys : List Int, ys.Perm ks → ys.Pairwise (· ≤ ·) → P (.lst (ys.map dI)) o) : RcD K B rSortedDI [r] o P := fun G H vs X S rr Q k => by
  cases rr with
  | cons r1 r2 =>
    cases r2
    obtain ⟨a, kv, rfl, h1, h2⟩ := isDic_at S hd r1
    refine ⟨a, kv, ks, rfl, .inl h1, (repK_keys h2).trans hk, hl, fun ys p hp hs hn => ?_⟩
    obtain ⟨e, S2⟩ := S.data (u := .lst (ys.map V.int)) hn
    have rr : Reps K (upd G p (.lst (ys.map V.int))) (ys.map V.int) (ys.map dI) := by
      have h := Reps.sc (K := K) (G := upd G p (.lst (ys.map V.int))) (ys.map V.int)
      rw [List.map_map] at h
      exact h
    exact k _ _ _ _ o e S2 (.lst upd_same rr) (q ys hp hs)
/-! fields by their places -/
theorem lookup_at {fs : List (Str × D)} {f : Str} {d : D} (i : Nat) (h : fs[i]? = some (f, d)) (n : ((fs.take i).all fun p => !(f == p.1)) = true) : fs.lookup f = some d := by
  induction fs generalizing i with
  | nil => simp at h
  | cons p r ih =>
    cases i with
    | zero =>
      simp only [List.getElem?_cons_zero, Option.some.injEq] at h
      subst h
      simp [List.lookup]
    | succ i =>
      simp only [List.take_succ_cons, List.all_cons, Bool.and_eq_true, Bool.not_eq_true'] at n
      have := ih i (by simpa using h) n.2
      simp only [List.lookup, n.1, this]
theorem lookup_no {fs : List (Str × D)} {f : Str} (n : (fs.all fun p => !(f == p.1)) = true) : fs.lookup f = none := by
  induction fs with
  | nil => rfl
  | cons p r ih =>
    simp only [List.all_cons, Bool.and_eq_true, Bool.not_eq_true'] at n
    simp only [List.lookup, n.1, ih n.2]
theorem putFD_new {fs : List (Str × D)} {f : Str} {d : D} (n : (fs.all fun p => !(f == p.1)) = true) : putFD f d fs = fs ++ [(f, d)] := by
  induction fs with
  | nil => rfl
  | cons p r ih =>
    simp only [List.all_cons, Bool.and_eq_true, Bool.not_eq_true'] at n
    have h1 : ¬ p.1 = f := fun e => by
      have := n.1
      rw [e] at this
      simp at this
    unfold putFD
    rw [if_neg h1, ih n.2]
    rfl
theorem putFD_at {fs : List (Str × D)} {f : Str} {d e : D} (i : Nat) (h : fs[i]? = some (f, e)) (n : ((fs.take i).all fun p => !(f == p.1)) = true) : putFD f d fs = fs.set i (f, d) := by
  induction fs generalizing i with
  | nil => simp at h
  | cons p r ih =>
    cases i with
    | zero =>
      simp only [List.getElem?_cons_zero, Option.some.injEq] at h
      subst h
      unfold putFD
      rw [if_pos rfl]
      rfl
    | succ i =>
      simp only [List.take_succ_cons, List.all_cons, Bool.and_eq_true, Bool.not_eq_true'] at n
      have h1 : ¬ p.1 = f := fun q => by
        have := n.1
        rw [q] at this
        simp at this
      unfold putFD
      rw [if_neg h1, ih i (by simpa using h) n.2]
      rfl
def FldAt (fs : List (Str × D)) (f : Str) (d : D) : Prop := ∃ j : Nat, fs[j]? = some (f, d) ∧ ((fs.take j).all fun q => !(f == q.1)) = true
theorem FldAt.look {fs : List (Str × D)} {f : Str} {d : D} (h : FldAt fs f d) : fs.lookup f = some d := let ⟨j, a, b⟩ := h; lookup_at j a b
/-- the fields behind a store -/
inductive PutAt (fs : List (Str × D)) (f : Str) (d : D) : List (Str × D) → Prop where
  | new : (fs.all fun q => !(f == q.1)) = true → PutAt fs f d (fs ++ [(f, d)])
  | set (j : Nat) {e : D} : fs[j]? = some (f, e) → ((fs.take j).all fun q => !(f == q.1)) = true → PutAt fs f d (fs.set j (f, d))
theorem PutAt.eq {fs fs' : List (Str × D)} {f : Str} {d : D} (h : PutAt fs f d fs') : putFD f d fs = fs' := by
  cases h with
  | new n => exact putFD_new n
  | set j m n => exact putFD_at j m n
section
variable {env : List (Option D)} {PS : DE} {ta tv : TE} {C : Addr}
/-- o.f = v -/
theorem sv_fldA {f : Str} (h : EvD K B tv env o fun d o1 => EvD K B ta env o1 fun r o2 => ∃ (p C : Addr) (i : Nat) (fs : List (Str × D)), r = dR p ∧ o2[i]? = some (p, .ins C fs) ∧ Cls K C ∧ NoAttr K C f ∧ Nat.blt fs.length 1000 = true ∧ ∃ fs', PutAt fs f d fs' ∧ PS.nx env (o2.set i (p, .ins C fs'))) :
    SvD K B (sFld K ta tv f) env o PS := sv_fld (h.imp fun d o1 h1 => h1.imp fun r o2 ⟨p, C, i, fs, a, b, c, e, l, fs', m, q⟩ => ⟨p, C, i, fs, a, b, c, e, Nat.le_of_ble_eq_true l, by rw [m.eq]; exact q⟩)
theorem sv_fldaugA {f : Str} {rd : V → V → Hp → VK → Prop} (h : EvD K B ta env o fun r o1 => ∃ (p C : Addr) (i : Nat) (fs : List (Str × D)), r = dR p ∧ o1[i]? = some (p, .ins C fs) ∧ Cls K C ∧ NoAttr K C f ∧ Nat.blt fs.length 1000 = true ∧ ∃ d, FldAt fs f d ∧
      EvD K B tv env o1 fun e o2 => RvD K B rd d e o2 fun z o3 => o3 = o1 ∧ ∃ fs', PutAt fs f z fs' ∧ PS.nx env (o1.set i (p, .ins C fs'))) :
    SvD K B (sFldAug K ta tv rd f) env o PS := sv_fldaug (h.imp fun r o1 ⟨p, C, i, fs, a, b, c, e, l, d, m, h1⟩ => ⟨p, C, i, fs, d, a, b, c, e, m.look, h1.imp fun x o2 h2 => fun G H v w X S r1 r2 Q k => h2 G H v w X S r1 r2 Q fun u z G' H' o' e1 S' r' ⟨q1, fs', q2, q3⟩ => k u z G' H' o' e1 S' r' (by
      subst q1
      exact ⟨i, fs, b, Nat.le_of_ble_eq_true l, by rw [q2.eq]; exact q3⟩)⟩)
theorem ed_fldA {f : Str} (h : EvD K B ta env o fun r o1 => ∃ C fs, InsD C r o1 fs ∧ Cls K C ∧ NoAttr K C f ∧ ∃ d, FldAt fs f d ∧ P d o1) : EvD K B (tFld K ta f) env o P := fun G H σ X S L Q k =>
  h G H σ X S L _ fun v r G1 H1 o1 e1 S1 r1 ⟨C, fs, hi, hc, hn, d, m, hP⟩ => by
    obtain ⟨a, dx, vs, rfl, h1, h2⟩ := insD_at S1 hi r1
    obtain ⟨w, h3, h4⟩ := h2.lookup m.look
    exact ⟨a, C, dx, vs, w, rfl, h1, hc, hn, h3, k w d G1 H1 o1 e1 S1 h4 hP⟩
end
/-- x in a written or made tuple, list of flat things -/
theorem rv_inT {neg : Bool} {a : V} {vs : List V} (ha : flatV a = true) (hs : vs.all flatV = true) (q : P (dB (if neg then !inV a vs else inV a vs)) o) : RvD K B (rIn K neg) (.sc a) (.tup (vs.map D.sc)) o P := fun G H v w X S r1 r2 Q k => by
  cases r1
  cases r2 with
  | tup h1 a1 =>
    have e := Reps.sc_inv a1
    subst e
    exact ⟨_, _, rfl, .inr (.of (S.sub _ _ h1)), ha, hs, k _ _ G H o (Same.refl G) S (.sc _) q⟩
theorem rv_inL {neg : Bool} {a : V} {vs : List V} (ha : flatV a = true) (hs : vs.all flatV = true) (q : P (dB (if neg then !inV a vs else inV a vs)) o) : RvD K B (rIn K neg) (.sc a) (.lst (vs.map D.sc)) o P := fun G H v w X S r1 r2 Q k => by
  cases r1
  cases r2 with
  | lst h1 a1 =>
    have e := Reps.sc_inv a1
    subst e
    exact ⟨_, _, rfl, .inl (.of (S.sub _ _ h1)), ha, hs, k _ _ G H o (Same.refl G) S (.sc _) q⟩
/-- .. in a tuple of the module's own -/
theorem rv_inK {neg : Bool} {a : V} {t : Addr} {vs : List V} (ht : ∀ H, SqT K H t vs) (ha : flatV a = true) (hs : vs.all flatV = true) (q : P (dB (if neg then !inV a vs else inV a vs)) o) : RvD K B (rIn K neg) (.sc a) (dR t) o P := fun G H v w X S r1 r2 Q k => by
  cases r1
  cases r2
  exact ⟨_, vs, rfl, .inr (ht H), ha, hs, k _ _ G H o (Same.refl G) S (.sc _) q⟩
end
end DK

set_option Elab.async false
set_option linter.all false
set_option maxRecDepth 100000
set_option maxHeartbeats 4000000
/-! DK7: try with several clauses 'except C as e', a call in its body; isinstance of what was caught. -/
namespace DK
open PySem PySem.Spec PyProof.Rows L2
/-- one clause: its class, the slot of its name, its suite -/
structure Cla where
  c : Value
  i : Nat
  ts : Addr → Value → Option Addr → TS
def endsOff (D : Ends) (i : Nat) : Ends := { nx := fun σ' H' => D.nx (σ'.set i none) H', rt := D.rt, bk := fun σ' H' => D.bk (σ'.set i none) H', ct := fun σ' H' => D.ct (σ'.set i none) H' }
def wCla (K : PySem.W.Frag) (Wout : WX) (D : Ends) : List Cla → WX
  | [] => Wout
  | c :: r => fun cls d σ H => ∃ b, PySem.W.exmOne K cls c.c = some b ∧ (b = true → ∀ a, H a = none → c.ts a cls d (endsOff D c.i) (σ.set c.i (some (.ref a))) H) ∧ (b = false → wCla K Wout D r cls d σ H)
inductive ClaOk (X : Cx) : List ExceptHandler → List Cla → Prop
  | nil : ClaOk X [] []
  | cons {x n : Str} {c : Cla} {b₀ : Stmt} {suite : List Stmt} {np pos' : Pos} {hds : List ExceptHandler} {l : List Cla} (hc : Names X x c.c) (hi : X.N[c.i]? = some n) (hln : X.env.kindOf n = some .local)
      (hsu : ∀ (a : Addr) (oe : Obj) (cls : Value) (d : Option Addr) (pn : List (Addr × Obj)), Zc cls d oe → (∃ vs, oe.data = .fields vs) → PSs (X.suite a ((a, oe) :: pn)) (b₀ :: suite) (c.ts a cls d)) (r : ClaOk X hds l) :
      ClaOk X (.ExceptHandler (some (.Name x np)) (some n) (b₀ :: suite) pos' :: hds) (c :: l)
section
variable {X : Cx} {body : List Stmt} {h₀ : ExceptHandler} {hds : List ExceptHandler} {l : List Cla} {pos : Pos} {tb : WX → TS} {Wout : WX}
/-- an exception at a that has come down to the clauses of X: σ, H the state it left, t the state now -/
def Down (X : Cx) (pins : List (Addr × Obj)) (σ : L2.St) (H : Hp) (cls : Value) (d : Option Addr) (a : Addr) (t : Shared) : Prop :=
  ∃ (G : Heap) (r : Shared), Inv X pins σ H r ∧ (∀ b o, r.heap.get? b = some o → b ∉ frs X.stack → G.get? b = some o) ∧ r.heap.UpToSlots t.heap ∧ HandSPX.FlyingZ G (X.env :: X.outer) a (Zc cls d) t.heap ∧ H a = none ∧ t.os = r.os ∧ AllBare t.gens
theorem Down.state {pins : List (Addr × Obj)} {σ : L2.St} {H : Hp} {cls : Value} {d : Option Addr} {a : Addr} {t : Shared} (w : Down X pins σ H cls d a t) : Inv X pins σ H t :=
  let ⟨_, _, I, g, u, f, _, p, q⟩ := w
  I.landed g f.1 u p q
/-- the exception's object, and X's state with it pinned -/
theorem Down.held {pins : List (Addr × Obj)} {σ : L2.St} {H : Hp} {cls : Value} {d : Option Addr} {a : Addr} {t : Shared} (hf : X.env.frame = some X.env.locals) (w : Down X pins σ H cls d a t) :
    ∃ x, t.heap.get? a = some x ∧ Zc cls d x ∧ (∃ vs, x.data = .fields vs) ∧ Inv (X.suite a ((a, x) :: (X.pn ++ pins))) [] σ H t := by
  have I := w.state
  obtain ⟨G, r, _, _, _, f, na, _, _⟩ := w
  obtain ⟨x, vs, h1, h2, h3⟩ := f.there
  have out : ∀ b, b ∈ frs (X.env :: X.outer) → a ≠ b := fun b hb e => by
    subst e
    obtain ⟨_, y, h4, h5⟩ := f.2.2.1.mem hb
    cases h1.symm.trans h4
    exact h5 _ h3
  refine ⟨x, h1, h2, ⟨vs, h3⟩, I.suite h1 h3 na (out _ ?_) fun hb => out a ?_ rfl⟩
  · exact List.mem_filterMap.mpr ⟨_, List.mem_cons_self, hf⟩
  · obtain ⟨e, h4, h5⟩ := List.mem_filterMap.mp hb
    exact List.mem_filterMap.mpr ⟨e, List.mem_cons_of_mem _ h4, h5⟩
/-- no clause left: it flies on -/
theorem down_on {pins : List (Addr × Obj)} {σ : L2.St} {H : Hp} {cls : Value} {d : Option Addr} {a : Addr} {t : Shared} {Q : Flow → Shared → Prop} (hs : X.stack = X.env :: X.outer) (hf : X.env.frame = some X.env.locals) (tk : Takes X Wout) (w : Down X pins σ H cls d a t) (out : Wout cls d σ H) :
    wpAny (model X.prog X.w) X.A (handleBy (.ref a) X.env []) Q X.xe t := by
  obtain ⟨G, r, I, g, u, f, na, p, q⟩ := w
  apply wpAny_handleBy_nil
  obtain ⟨_, _, _, x, vs, T, _, _, h1, _, h2, h3, _⟩ := id f
  have up : wpAny (model X.prog X.w) X.A (setFlight (.ref a) X.env.frame) (fun _ t2 => wpAny (model X.prog X.w) X.A (throw (.ref a) : Sem Flow) Q X.xe t2) X.xe t := by
    rw [hf]
    exact HandSPX.setFlight_upZ f fun h4 f4 u4 => wpAny_throw (tk _ _ ⟨a, G, r, pins, σ, H, cls, d, rfl, I, g, u.trans u4, .inr (.inr (by rw [hs]; exact f4)), na, p, q, out⟩)
  unfold PySem.passOn
  refine wpAny_bind (wpAny_field h1 h2 h3 ?_)
  have ne : ¬ (Value.ref T == Value.none) = true := by simp
  rw [if_neg ne]
  first
    | exact wpAny_bind (wpAny_pure (wpAny_bind up))
    | exact wpAny_bind up
/-- what a suite ends with, its name gone -/
theorem suite_off {pins : List (Addr × Obj)} {D : Ends} {n : Str} {i : Nat} {a : Addr} {x : Obj} {t : Shared} {f : Flow} {pos' : Pos} (ok : X.Ok) (hN : X.N.Nodup) (hi : X.N[i]? = some n) (hl : X.env.kindOf n = some .local) (h : SP (X.suite a ((a, x) :: (X.pn ++ pins))) [] (endsOff D i) f t) :
    wpAny (model X.prog X.w) X.A (do bindName X.env n .none; unbindBehindTheSuite X.env n pos') (fun _ t2 => SP X pins D f t2) X.xe t := by
  cases f with
  | next => let ⟨τ, J, I, q⟩ := h; exact gone_ok (I.unsuite ok) hN hi hl fun t2 I2 => ⟨_, _, I2, q⟩
  | brk => let ⟨τ, J, I, q⟩ := h; exact gone_ok (I.unsuite ok) hN hi hl fun t2 I2 => ⟨_, _, I2, q⟩
  | cont => let ⟨τ, J, I, q⟩ := h; exact gone_ok (I.unsuite ok) hN hi hl fun t2 I2 => ⟨_, _, I2, q⟩
  | ret u => let ⟨v, τ, J, I, r, q⟩ := h; exact gone_ok (I.unsuite ok) hN hi hl fun t2 I2 => ⟨_, _, _, I2, r, q⟩
theorem down_go {pins : List (Addr × Obj)} {D : Ends} {σ : L2.St} {H : Hp} {cls : Value} {d : Option Addr} {a : Addr} {t : Shared} (hs : X.stack = X.env :: X.outer) (hf : X.env.frame = some X.env.locals) (hN : X.N.Nodup) (tk : Takes X Wout) (ok : X.Ok) (w : Down X pins σ H cls d a t) :
    ∀ {hds : List ExceptHandler} {l : List Cla}, ClaOk X hds l → wCla X.K Wout D l cls d σ H → wpAny (model X.prog X.w) X.A (handleBy (.ref a) X.env hds) (SP X pins D) X.xe t := by
  intro hds l hk
  induction hk with
  | nil => exact down_on hs hf tk w
  | @cons x n c b₀ suite np pos' hds2 l2 hc hi hln hsu r ih =>
    rintro ⟨b, hm, yes, no⟩
    obtain ⟨ox, o1, o2, o3, Io⟩ := w.held hf
    have I := w.state
    apply wpAny_handleBy_cons (hnb := by intro q; cases q)
    apply codeAny_handlers_test
    have ty : PySem.W.Looks (model X.prog X.w) t.heap (typeOf (.ref a)) cls := fun _ _ _ _ k q => wpAny_typeOf_ref (k _ _ o1) (o2.1.symm ▸ q)
    have asks := PySem.W.exm_one (M := model X.prog X.w) I.kIn ty hm
    have name : ∀ {Q : Value → Shared → Prop} {E : Value → Shared → Prop}, Q c.c t → wpAny (model X.prog X.w) (X.A.mark (some (.ref a))) (eval (.Name x np) X.env) Q E t := by
      intro Q E q
      rcases hc with ⟨g, g2, g3 | ⟨g3, g4, g5⟩⟩
      · exact ld_glob (X := X.suite a ((a, ox) :: (X.pn ++ pins))) Io g g3 q g2
      · exact ld_blt (X := X.suite a ((a, ox) :: (X.pn ++ pins))) Io g g3 g4 q g5 g2
    apply name
    apply asks.here
    cases b with
    | false => exact ih (no rfl)
    | true =>
      apply codeAny_handlers_suite_as
      obtain ⟨G, rr, J, g, u, f, na, p, q⟩ := w
      refine HandSPX.lands_againZ f fun h2 f2 u2 => ?_
      have w2 : Down X pins σ H cls d a { t with heap := h2 } := ⟨G, rr, J, g, u.trans u2, f2, na, p, q⟩
      obtain ⟨oy, p1, p2, p3, Iy⟩ := w2.held hf
      refine store_ok (X := X.suite a ((a, oy) :: (X.pn ++ pins))) (v := .ref a) Iy hN hi (.inl hln) rfl (fun t3 I3 => ?_) (.inr hln)
      exact wpAny_mono ((hsu a oy cls d (X.pn ++ pins) p2 p3).run [] t3 _ H _ I3 (yes rfl a na)) (fun fl t4 z => suite_off ok hN hi hln z) fun _ _ z => z.elim
theorem ps_try_cla (hs : X.stack = X.env :: X.outer) (hf : X.env.frame = some X.env.locals) (hN : X.N.Nodup) (tk : Takes X Wout)
    (hb : ∀ (W : WX) (pn : List (Addr × Obj)) (xe : Value → Shared → Prop), Takes (X.tr pn xe) W → PassesOwn (model X.prog X.w) X.A X.env xe → PSs (X.tr pn xe) body (tb W))
    (hh : ClaOk X (h₀ :: hds) l) : PS X (.Try body (h₀ :: hds) [] [] pos) (fun D σ H => tb (wCla X.K Wout D l) D σ H) := by
  constructor
  intro pins s σ H D I h
  have fr : X.A.frames = some (X.env :: X.outer) := I.ok.frames.trans (congrArg some hs)
  apply wpAny_Try_except
  let xe' : Value → Shared → Prop := fun e t1 => wpAny (model X.prog X.w) X.A (noteFrame e X.env) (fun _ t2 => wpAny (model X.prog X.w) X.A (setFlight e none) (fun _ t3 => wpAny (model X.prog X.w) X.A (handleBy e X.env (h₀ :: hds)) (SP X pins D) X.xe t3) X.xe t2) X.xe t1
  have takes : Takes (X.tr (X.pn ++ pins) xe') (wCla X.K Wout D l) := by
    rintro u t ⟨a, G, r, pins2, σ2, H2, cls, d, rfl, J, g, up, sky, na, p, q, w⟩
    rw [show (X.tr (X.pn ++ pins) xe').stack = X.env :: X.outer from hs] at sky
    refine Sky.land Zc.steady fr hf sky fun h3 f3 u3 => ?_
    exact down_go (t := { t with heap := h3 }) hs hf hN tk I.ok ⟨G, r, J.ofTry I.ok, g, up.trans u3, f3, na, p, q⟩ hh w
  refine wpAny_mono ((hb _ _ _ takes PassesOwn.looking).run [] s σ H D (I.toTry _) h) (fun f t z => ?_) fun _ _ z => z
  cases f with
  | next => let ⟨τ, J, I2, q⟩ := z; exact wpAny_execs_nil ⟨τ, J, I2.ofTry I.ok, q⟩
  | brk => let ⟨τ, J, I2, q⟩ := z; exact ⟨τ, J, I2.ofTry I.ok, q⟩
  | cont => let ⟨τ, J, I2, q⟩ := z; exact ⟨τ, J, I2.ofTry I.ok, q⟩
  | ret u => let ⟨v, τ, J, I2, r, q⟩ := z; exact ⟨v, τ, J, I2.ofTry I.ok, r, q⟩
end
/-- isinstance(e, c), e what was caught, of a class of its own -/
def rIsX (K : PySem.W.Frag) (a : Addr) (cls : Value) (d : Option Addr) : List V → Hp → VK → Prop := fun xs H Q => ∃ D, cls = .ref D ∧ d = none ∧ ExcC K D ∧ rIsE K D a xs H Q
theorem call_isX {X : Cx} {a : Addr} {cls : Value} {d : Option Addr} {oe : Obj} {pn : List (Addr × Obj)} (hz : Zc cls d oe) (hf : ∃ vs, oe.data = .fields vs) : CallR (X.suite a ((a, oe) :: pn)) (.builtin "isinstance") (rIsX X.K a cls d) := by
  intro pins s σ H xs us Q I r h
  obtain ⟨D, rfl, rfl, c, h⟩ := h
  exact call_isE c hz hf pins s σ H xs us Q I r h
section
variable {K : PySem.W.Frag} {B : Bs} {env : List (Option D)} {o : Ow} {P : D → Ow → Prop}
theorem rc_isX {a C D : Addr} {b : Bool} (x : ExcC K D) (hk : PySem.W.kitOne K (.ref D) (.ref C) = some b) (q : P (dB b) o) : RcD K B (rIsX K a (.ref D) none) [dR a, dR C] o P := fun G H vs X S r Q k => by
  rw [show vs = [.ref a, .ref C] from Reps.sc_inv (ws := [.ref a, .ref C]) r]
  exact ⟨D, rfl, rfl, x, .ref C, .ref C, b, rfl, fun u h => h, hk, k _ _ G H o (Same.refl G) S (.sc _) q⟩
theorem rc_isXT {a D : Addr} {n : String} {b : Bool} (x : ExcC K D) (hk : PySem.W.kitOne K (.ref D) (.type n) = some b) (q : P (dB b) o) : RcD K B (rIsX K a (.ref D) none) [dR a, .sc (.ty n)] o P := fun G H vs X S r Q k => by
  rw [show vs = [.ref a, .ty n] from Reps.sc_inv (ws := [.ref a, .ty n]) r]
  exact ⟨D, rfl, rfl, x, .ty n, .type n, b, rfl, fun u h => h, hk, k _ _ G H o (Same.refl G) S (.sc _) q⟩
/-- what the clauses wish of an exception of class cl, o owned -/
def ClaD (K : PySem.W.Frag) (B : Bs) (env : List (Option D)) (PS : DE) : List Cla → Addr → Ow → Prop
  | [], _, _ => False
  | c :: r, cl, o => ∃ b, PySem.W.exmOne K (.ref cl) c.c = some b ∧
      (b = true → ∀ a, SvD K B (c.ts a (.ref cl) none) (env.set c.i (some (dR a))) o { nx := fun e o' => PS.nx (e.set c.i none) o', rt := PS.rt, bk := fun e o' => PS.bk (e.set c.i none) o', ct := fun e o' => PS.ct (e.set c.i none) o' }) ∧
      (b = false → ClaD K B env PS r cl o)
theorem ends_off {G : Hp} {PS : DE} {D : Ends} {i : Nat} (q : EndsOk K B G PS D) : EndsOk K B G { nx := fun e o' => PS.nx (e.set i none) o', rt := PS.rt, bk := fun e o' => PS.bk (e.set i none) o', ct := fun e o' => PS.ct (e.set i none) o' } (endsOff D i) :=
  ⟨fun σ env G H o e S L p => q.nx _ _ G H o e S (L.unset i) p, q.rt, fun σ env G H o e S L p => q.bk _ _ G H o e S (L.unset i) p, fun σ env G H o e S L p => q.ct _ _ G H o e S (L.unset i) p⟩
theorem claD_ok {PS : DE} {D : Ends} {G0 : Hp} (X : XOk K B) (q : EndsOk K B G0 PS D) : ∀ (l : List Cla) (cl : Addr) (o : Ow) (G H : Hp) (σ : L2.St), Same G0 G → Sat K B G H o → Sl K G σ env → ClaD K B env PS l cl o → wCla K (fun _ _ _ _ => False) D l (.ref cl) none σ H
  | [], _, _, _, _, _, _, _, _, h => h
  | c :: r, cl, o, G, H, σ, e, S, L, ⟨b, h1, h2, h3⟩ =>
    ⟨b, h1, fun hb a ha => h2 hb a G H _ X S (L.set c.i (.sc (.ref a))) _ (ends_off (q.mono e)), fun hb => claD_ok X q r cl o G H σ e S L (h3 hb)⟩
/-- try: f(..) except C as e: .. -/
theorem sv_try {PS : DE} {R : DR} {tas : TA} {l : List Cla} (h : EvA K B tas env o fun ds o1 => ∃ A fp C, o1 = A ++ (fp ++ C) ∧ R ds fp (fun _ fp' => PS.nx env (A ++ (fp' ++ C))) (fun cl fs fp' => fs = none ∧ ClaD K B env PS l cl (A ++ (fp' ++ C)))) :
    SvD K B (fun D σ H => tDrop (tCallS (spR K R) (WE (wCla K (fun _ _ _ _ => False) D l)) tas) D σ H) env o PS := fun G H σ X S L D q =>
  h G H σ X S L _ fun vs ds G1 H1 o1 e1 S1 r1 ⟨A, fp, C, ho, hR⟩ => by
    subst ho
    refine spR_call S1 r1 hR ⟨fun cl G2 H2 o2 T hx => ?_, fun cl G2 H2 o2 d vs fs T _ _ _ hx => by cases hx.1⟩ fun v d G2 H2 fp' e2 S2 r2 p => q.nx σ env G2 H2 _ (e1.trans e2) S2 ((L.mono e1).mono e2) p
    exact claD_ok X q l cl _ G2 H2 σ (e1.trans T.gx) (S1.called T) ((L.mono e1).mono T.gx) hx.2
/-- the call in the body of a try -/
theorem pe_calS {X : Cx} {CX : CXT} {k : Nat} {x : Str} {ps : List Str} {sp : Sp} {E : L2.St → XK} {p pos : Pos} {e : Expr} {es : List Expr} {t : TA} (c : Cal X.prog X.w X.K X.mg X.base CX k x ps sp []) (hr : Room k X.A) (hg : Gl X x) (hx : ∀ σ, PassesAt CX X σ (E σ)) (ha : PA X (e :: es) t)
    (hdb : (x == ("__debug__" : Str)) = false := by decide) (he : starEach (e :: es) X.env = (false, eval e X.env) :: starEach es X.env := by rfl) (hpl : (backTo pos (starEach es X.env)).any (·.1) = false := by rfl) :
    PE X (.Call (.Name x p) (e :: es) [] pos) (tCallS sp E t) := by
  obtain ⟨f, fd, ds, F, hm, hk, hb, hd⟩ := c.ex
  cases hd
  exact pe_callS F hr hg hm hk hb hx ha hdb he hpl
end
end DK

set_option Elab.async false
set_option linter.all false
set_option maxRecDepth 100000
set_option maxHeartbeats 4000000
/-! DK8: what is owned by choice; defs that read what was handed in; facts of exceptions; small laws. -/
namespace DK
open PySem PySem.Spec PyProof.Rows L2
/-- the thing made here is owned -/
def tO (t : TE) : TE := t
theorem pe_own {X : Cx} {e : Expr} {t : TE} (h : PE X e t) : PE X e (tO t) := h
theorem ps_own {X : Cx} {st : Stmt} {t : TE} {g : TG} (h : PS X st (tAsg t g)) : PS X st (tAsg (tO t) g) := h
section
variable {K : PySem.W.Frag} {B : Bs} {env : List (Option D)} {o : Ow} {P : D → Ow → Prop} {ta tb tc te tk tv : TE} {tt : TT}
theorem ed_oL {tas : TA} (h : EvA K B tas env o fun xs o1 => xs.length ≤ 1000000 ∧ ∀ p, B.H p = none → P (dR p) (o1 ++ [(p, .lst xs)])) : EvD K B (tO (tLst tas)) env o P := ed_lstO h
theorem ed_oD (h : ∀ p, B.H p = none → P (dR p) (o ++ [(p, .dic [])])) : EvD K B (tO tDNewK) env o P := ed_dnewO h
/-- an owned list by a comprehension -/
theorem ed_oLcL {g : TG} {tt : TT} {tl : TE} {vs : List Nat} (hw : WT vs g) (h : EvD K B tl env o fun d o1 => ∃ ds, d = .lst ds ∧ ∃ I : Nat → List D → Ow → Prop, I 0 [] o1 ∧ (∀ (i : Nat) x, ds[i]? = some x → TurnC K B g tt te env vs x (I i) (I (i + 1))) ∧ ∀ acc o' q, B.H q = none → I ds.length acc o' → P (dR q) (o' ++ [(q, .lst acc)])) :
    EvD K B (tO (tLc (iList K tl) g tt te vs)) env o P := fun G H σ X S L Q k =>
  h G H σ X S L _ fun v d G1 H1 o1 e1 S1 r1 ⟨ds, hd, I, h0, hs, he⟩ => by
    subst hd
    cases r1 with
    | @lst a ws _ g1 a1 =>
      refine ⟨a, rfl, ⟨ws, .of (S1.sub _ _ g1)⟩, fun q hq => ?_⟩
      have hb := S1.bnone hq
      refine lc_list (K := K) (a := a) (xs := ws) (fun i H' => CompI K B G1 q (I i) H') ⟨G1, [], o1, Same.refl G1, S1.own (m := .lst []) hq ⟨[], upd_same, .nil⟩, h0⟩ (fun i H' _ ⟨G2, _, _, e2, S2, _⟩ => .of (S2.sub _ _ (e2 _ _ g1))) (fun i x H' hx p => ?_) fun H' ⟨G2, acc, o2, e2, S2, hI⟩ => ?_
      · obtain ⟨xd, hd, rd⟩ := a1.getV hx
        exact turnC X hw hb (L.mono e1) rd (hs i xd hd) p
      · rw [a1.length] at hI
        exact k _ (dR q) G2 H' _ (e1.trans e2) S2 (.sc _) (he acc o2 q hb hI)
/-- a dict by a comprehension over the values of an owned dict with nothing in it -/
theorem ed_oDc0 {g : TG} {f : Str} {vs : List Nat} {i j m : Nat} {k C d : Addr} {fs : List (Str × D)} (h1 : env[i]? = some (some (dR k))) (h2 : o[j]? = some (k, .ins C fs)) (hc : Cls K C) (hn : NoAttr K C f) (hl : FldAt fs f (dR d)) (h3 : o[m]? = some (d, .dic []))
    (hq : ∀ q, B.H q = none → P (dR q) (o ++ [(q, .dic [])])) : EvD K B (tO (tLockE (tDc (iVals (tFld K (tVar i) f)) g tt tk tv vs))) env o P := fun G H σ X S L Q kk => by
  obtain ⟨v, e1, r1⟩ := L.get i _ h1
  cases r1
  obtain ⟨_, ⟨dx, fv, a1, a2⟩, _⟩ := S.ow _ (List.mem_of_getElem? h2)
  obtain ⟨_, ⟨ks, b1, b2⟩, _⟩ := S.ow _ (List.mem_of_getElem? h3)
  cases b2
  obtain ⟨u, l1, l2⟩ := a2.lookup hl.look
  cases l2
  dsimp only at a1 b1
  have hkd : k ≠ d := fun z => by rw [z, b1] at a1; cases a1
  refine ⟨d, .dK [], b1, trivial, fun od => ?_⟩
  refine ⟨_, e1, k, C, dx, fv, .ref d, rfl, by rw [upd_ne hkd]; exact a1, hc, hn, l1, d, od, [], rfl, upd_same, fun D hD => ?_⟩
  have hDd : D ≠ d := fun z => by rw [z, upd_same] at hD; cases hD
  have hHD : H D = none := by rw [upd_ne hDd] at hD; exact hD
  refine ⟨fun i m H' => i = 0 ∧ H' = upd (upd H d (.frz od (.dK []))) D (.dK []), ⟨0, rfl, rfl⟩, ?_⟩
  rintro i m H' ⟨rfl, rfl⟩
  have hfr : (upd (upd H d (.frz od (.dK []))) D (.dK [])) d = some (.frz od (.dK [])) := by rw [upd_ne hDd.symm, upd_same]
  refine .inl ⟨⟨hfr, Nat.le_refl _⟩, hfr, ?_⟩
  have e : upd (upd (upd H d (.frz od (.dK []))) D (.dK [])) d (.dK []) = upd H D (.dK []) := by
    funext a
    by_cases q : a = d
    · subst q
      rw [upd_same, upd_ne hDd.symm, b1]
    · rw [upd_ne q]
      by_cases q2 : a = D
      · subst q2
        rw [upd_same, upd_same]
      · rw [upd_ne q2, upd_ne q2, upd_ne q]
  rw [e]
  exact kk _ (dR D) G _ _ (Same.refl G) (S.own (m := .dic []) hHD ⟨[], upd_same, .nil⟩) (.sc _) (hq D (S.bnone hHD))
end
/-- a def's contract that speaks of the heap of data as it was when the def was called -/
def spG (K : PySem.W.Frag) (R : Hp → DR) : Sp := fun vs H Q E => ∃ (G : Hp) (ds : List D) (fp : Ow) (P : D → Ow → Prop) (X : Addr → Option (List (Str × D)) → Ow → Prop), Same G H ∧ Reps K G vs ds ∧ (∀ pm ∈ fp, G pm.1 = none ∧ MOk K G H pm.1 pm.2) ∧ (fp.map (·.1)).Nodup ∧
  R G ds fp P X ∧ XOk K ⟨G, H, fp.map (·.1), E, X⟩ ∧ ∀ v d G' H' fp', Sat K ⟨G, H, fp.map (·.1), E, X⟩ G' H' fp' → Rep K G' v d → P d fp' → Q v H'
section
variable {P : Program} {w : World} {K : PySem.W.Frag} {mg : Str → Option Value} {base : Heap} {x qual : Str} {params : Arguments} {body : List Stmt} {scope : Scope} {dvs : List V} {kws : List (Str × V)} {f : Addr} {fd : FuncData} {N ps : List Str} {k : Nat} {R : Hp → DR}
theorem fnG (F : FunD K x qual params body scope dvs kws f fd) (S : FnScope N ps scope) (len : ∀ G ds fp P X, R G ds fp P X → ds.length = ps.length)
    (hbody : ∀ (cdv : Value) (A : Around) (outer : List Env) (s : Shared) (H : Hp) (E : XK), Room k (A.deeper (envOfC qual scope s.heap.objs.size f cdv)) →
      ∃ t, PSs (cxOf CX0 P w K mg base N qual scope f cdv A outer s H E).nox body t ∧ ∀ (B : Bs) ds fp PD X, B.E = E → B.X = X → B.M = fp.map (·.1) → R B.G ds fp PD X → SvD K B t (env0 N ds) fp (endsR PD)) : FnOk P w K mg base CX0 (k + 1) f fd ps (spG K R) := by
  refine F.ok S (fun vs H Q E h => ?_) fun cdv A outer s H vs Q E hr h => ?_
  · obtain ⟨G, ds, fp, PD, X, e, r, hf, nd, hR, _⟩ := h
    rw [r.length]
    exact len _ _ _ _ _ hR
  · obtain ⟨t, h1, h2⟩ := hbody cdv A outer s H E hr
    refine ⟨t, h1.nox, ?_⟩
    obtain ⟨G, ds, fp, PD, X, e, r, hf, nd, hR, hX, hk⟩ := h
    exact h2 ⟨G, H, fp.map (·.1), E, X⟩ ds fp PD X rfl rfl rfl hR G H _ hX (Sat.init e hf nd) (sl_start r) _
      ⟨fun σ' env' G' H' o' e' S L p => hk _ _ G' H' o' S (.sc _) p, fun v d G' H' o' e' S r p => hk v d G' H' o' S r p, fun _ _ _ _ _ _ _ _ p => p.elim, fun _ _ _ _ _ _ _ _ p => p.elim⟩
end
section
variable {K : PySem.W.Frag} {B : Bs} {env : List (Option D)} {o : Ow} {P : D → Ow → Prop}
theorem ed_callG {R : Hp → DR} {tas : TA} {E : XK} (h : EvA K B tas env o fun ds o1 => ∀ G, Same B.G G → R G ds [] (fun d fp' => fp' = [] ∧ P d o1) X0) : EvD K B (tCall (spG K R) [] E tas) env o P := fun G H σ X S L Q k =>
  h G H σ X S L _ fun vs ds G1 H1 o1 e1 S1 r1 hR => by
    have S2 : Sat K B G1 H1 (o1 ++ ([] ++ [])) := by simpa using S1
    have r2 : Reps K G1 (vs ++ []) ds := by simpa using r1
    obtain ⟨h1, h2⟩ := sat_split S2
    exact ⟨G1, ds, [], _, X0, S1.sub, r2, h1, h2, hR G1 S1.gx, XOk.none, fun v d G' H' fp' T rv ⟨p1, p2⟩ => by
      subst p1
      exact k v d G' H' o1 (e1.trans T.gx) (by simpa using S2.called T) rv p2⟩
/-- facts of an exception class -/
def excCB (K : PySem.W.Frag) (D : Addr) : Bool := He.eqO (PySem.W.findIn K (.ref D) "__getattribute__") (some (some (.builtin "BaseException.__getattribute__"))) && (He.eqO (PySem.W.findIn K (.ref D) "__getattr__") (some none) && (decide (PySem.W.subIn K (.ref D) (.type "BaseException") = some true) &&
  (PySem.W.hasDictIn K D && (He.eqO (PySem.W.findIn K (.ref D) "__class__") (some (some (.builtin "object.__class__"))) && (He.eqO (PySem.W.specialIn K (.builtin "object.__class__") "__get__") (some (some (.builtin "getset_descriptor.__get__"))) &&
  (decide (PySem.W.takesIn K (.builtin "object.__class__") = some true) && decide (PySem.W.mroIn K D (.type "object") = some true)))))))
theorem excCB_ok {D : Addr} (h : excCB K D = true) : ExcC K D := by
  obtain ⟨h1, h⟩ := He.ba h
  obtain ⟨h2, h⟩ := He.ba h
  obtain ⟨h3, h⟩ := He.ba h
  obtain ⟨h4, h⟩ := He.ba h
  obtain ⟨h5, h⟩ := He.ba h
  obtain ⟨h6, h⟩ := He.ba h
  obtain ⟨h7, h8⟩ := He.ba h
  exact ⟨He.eqO_ok h1, He.eqO_ok h2, of_decide_eq_true h3, h4, He.eqO_ok h5, He.eqO_ok h6, of_decide_eq_true h7, of_decide_eq_true h8⟩
theorem kit_self {D : Addr} : PySem.W.kitOne K (.ref D) (.ref D) = some true := by
  unfold PySem.W.kitOne
  rw [if_pos (by simp)]
end
theorem itemD_mem {xs : List D} {i : Int} (h0 : 0 ≤ i) (h1 : i < xs.length) : ∃ d, itemD xs i = some d ∧ d ∈ xs := by
  have hl : i.toNat < xs.length := by omega
  refine ⟨xs[i.toNat], ?_, List.getElem_mem hl⟩
  have e := itemD_nat (xs := xs) (i := i.toNat) (d := xs[i.toNat]) (List.getElem?_eq_getElem hl)
  rwa [Int.toNat_of_nonneg h0] at e
theorem str_app_assoc (a b c : Str) : (a ++ b) ++ c = a ++ (b ++ c) := by
  show Str.append (Str.append a b) c = Str.append a (Str.append b c)
  unfold Str.append
  rw [Array.append_assoc]
theorem str_app_len (a b : Str) : (a ++ b).length = a.length + b.length := by
  show (a.cps ++ b.cps).size = _
  rw [Array.size_append]
  rfl
theorem str_app_nil (a : Str) : a ++ (⟨#[]⟩ : Str) = a := by
  show Str.append a ⟨#[]⟩ = a
  unfold Str.append
  simp
/-- small ints tell few signs -/
def txtI (i : Int) : Str := toString i
theorem txt_small : ∀ n : Nat, n < 400 → (Str.ofString (toString (n : Int))).length ≤ 3 := by decide +kernel
end DK

set_option Elab.async false
set_option linter.all false
set_option maxRecDepth 100000
set_option maxHeartbeats 4000000
/-! DK9: pure methods, join, comparisons of data with itself, texts that are sound. -/
namespace DK
open PySem PySem.Spec PyProof.Rows L2
theorem pe_joinU {X : Cx} {o e : Expr} {to te : TE} {apos pos : Pos} (ho : PE X o to) (he : PE X e te) (hs : starEach [e] X.env = [(false, eval e X.env)] := by rfl) (hbase : attributeBase o "join" X.env (eval o X.env) = eval o X.env := by rfl) (hline : (apos.endLine == pos.line) = true := by rfl) :
    PE X (.Call (.Attribute o "join" apos) [e] [] pos) (tM1 (rJoinU X.K) to te) := pe_join ho he hs hbase hline
section
variable {K : PySem.W.Frag} {B : Bs} {env : List (Option D)} {o : Ow} {P : D → Ow → Prop} {ta tb tc te tk tv : TE} {tt : TT} {x y d : D}
theorem rm_joinO {a : Str} {ys : List Str} {p : Addr} {i : Nat} (hi : o[i]? = some (p, .lst (ys.map dS))) (hl : (ys.map (·.length)).sum + ys.length * a.length ≤ 16777216) (q : P (dS (Txt.join a ys)) o) : RmD K B "str" (rJoinU K) (dS a) [dR p] o P := fun G H v vs X S r1 r Q k => by
  cases r1
  cases r with
  | cons r1 r2 =>
    cases r2
    cases r1
    obtain ⟨_, ⟨ws, g2, a1⟩, _⟩ := S.ow _ (List.mem_of_getElem? hi)
    rw [show ys.map dS = (ys.map V.str).map D.sc by simp] at a1
    have e := Reps.sc_inv a1
    subst e
    exact ⟨a, _, ys, rfl, rfl, .inl (.of g2), hl, k _ _ G H o (Same.refl G) S (.sc _) q⟩
/-- a method that leaves what is owned -/
theorem ed_methP {C : Addr} {m : Str} {R : DR} {tas : TA} {E : XK} (h : EvD K B ta env o fun r o1 => ∃ fs, InsD C r o1 fs ∧ fs.lookup m = none ∧ EvA K B tas env o1 fun ds o2 => R (r :: ds) [] (fun d fp' => fp' = [] ∧ P d o2) X0) :
    EvD K B (tMeth C m (spR K R) [] E ta tas) env o P := fun G H σ X S L Q k =>
  h G H σ X S L _ fun v r G1 H1 o1 e1 S1 r1 ⟨fs, hi, hl, h1⟩ => by
    obtain ⟨a, dx, vs, hv, h2, h3⟩ := insD_at S1 hi r1
    refine ⟨a, dx, vs, hv, h2, h3.lookup_none hl, ?_⟩
    refine h1 G1 H1 σ X S1 (L.mono e1) _ fun ws ds G2 H2 o2 e2 S2 r2 hR => ?_
    have S3 : Sat K B G2 H2 (o2 ++ ([] ++ [])) := by simpa using S2
    have r3 : Reps K G2 (v :: (ws ++ [])) (r :: ds) := .cons (r1.mono e2) (by simpa using r2)
    refine spR_call S3 r3 hR XOk.none fun v d G' H' fp' e3 S4 r4 ⟨p1, p2⟩ => ?_
    subst p1
    exact k v d G' H' o2 ((e1.trans e2).trans e3) (by simpa using S4) r4 p2
/-- the state's owned things in another order -/
theorem Sat.perm {G H : Hp} {o o' : Ow} (S : Sat K B G H o) (h : o.Perm o') : Sat K B G H o' :=
  ⟨S.sub, S.gx, S.gn, S.hx, S.dom, fun pm hm => S.ow pm (h.mem_iff.mpr hm), ((h.map _).nodup_iff).mp S.nd⟩
theorem shaped_lay {a : PyData} (h : SeqAt.shaped a = true) : a.canLay0 = true := by
  unfold SeqAt.shaped at h
  exact (Bool.and_eq_true_iff.mp h).1
theorem rv_eqSame {a : PyData} (h : toPy d = some a) (s : SeqAt.shaped a = true) (q : P (dB true) o) : RvD K B (rEqU K) d d o P := rv_eqUD h h s s (by rw [SeqAt.eqv_refl a (shaped_lay s)]; exact q)
theorem rv_neSame {a : PyData} (h : toPy d = some a) (s : SeqAt.shaped a = true) (q : P (dB false) o) : RvD K B (rNeU K) d d o P := rv_neUD h h s s (by rw [SeqAt.eqv_refl a (shaped_lay s)]; exact q)
end
def okT (z : Str) : Bool := PyData.strOk z
theorem okT_app {a b : Str} (ha : okT a = true) (hb : okT b = true) : okT (a ++ b) = true := by
  unfold okT PyData.strOk at *
  show (a.cps ++ b.cps).all _ = true
  rw [Array.all_append, ha, hb]
  rfl
theorem okT_small : ∀ n : Nat, n < 400 → okT (Str.ofString (toString (n : Int))) = true := by decide +kernel
/-- sound data without objects -/
def shOk : D → Bool
  | .sc .non => true
  | .sc (.bl _) => true
  | .sc (.int _) => true
  | .sc (.str z) => okT z
  | .tup [] => true
  | .lst [] => true
  | _ => false
theorem shOk_py {d : D} (h : shOk d = true) : ∃ a, toPy d = some a ∧ a.canLay0 = true ∧ a.depth ≤ 1 := by
  cases d with
  | sc v =>
    cases v with
    | non => exact ⟨.none, rfl, by simp [PyData.canLay0], by simp [PyData.depth]⟩
    | bl b => exact ⟨.bool b, rfl, by simp [PyData.canLay0], by simp [PyData.depth]⟩
    | int b => exact ⟨.int b, rfl, by simp [PyData.canLay0], by simp [PyData.depth]⟩
    | str b => exact ⟨.str b, rfl, by simpa [PyData.canLay0, shOk, okT] using h, by simp [PyData.depth]⟩
    | _ => simp [shOk] at h
  | lst xs =>
    cases xs with
    | nil => exact ⟨.list [], rfl, by simp [PyData.canLay0, PyData.canLayAll0], by simp [PyData.depth, PyData.depthAll]⟩
    | cons _ _ => simp [shOk] at h
  | tup xs =>
    cases xs with
    | nil => exact ⟨.tuple [], rfl, by simp [PyData.canLay0, PyData.canLayAll0], by simp [PyData.depth, PyData.depthAll]⟩
    | cons _ _ => simp [shOk] at h
  | _ => simp [shOk] at h
theorem shOks_py : ∀ {xs : List D}, xs.all shOk = true → ∃ as, toPys xs = some as ∧ PyData.canLayAll0 as = true ∧ PyData.depthAll as ≤ 1
  | [], _ => ⟨[], rfl, by simp [PyData.canLayAll0], by simp [PyData.depthAll]⟩
  | x :: xs, h => by
    simp only [List.all_cons, Bool.and_eq_true] at h
    obtain ⟨a, h1, h2, h3⟩ := shOk_py h.1
    obtain ⟨as, h4, h5, h6⟩ := shOks_py h.2
    exact ⟨a :: as, by simp [toPys, h1, h4], by simp [PyData.canLayAll0, h2, h5], by simp [PyData.depthAll]; omega⟩
/-- a list of tuples of such: a log -/
def logOk : D → Bool
  | .tup xs => xs.all shOk
  | _ => false
theorem logOk_py : ∀ {xs : List D}, xs.all logOk = true → ∃ as, toPys xs = some as ∧ PyData.canLayAll0 as = true ∧ PyData.depthAll as ≤ 2
  | [], _ => ⟨[], rfl, by simp [PyData.canLayAll0], by simp [PyData.depthAll]⟩
  | .tup x :: xs, h => by
    simp only [List.all_cons, Bool.and_eq_true] at h
    obtain ⟨a, h1, h2, h3⟩ := shOks_py (xs := x) h.1
    obtain ⟨as, h4, h5, h6⟩ := logOk_py h.2
    exact ⟨.tuple a :: as, by simp [toPys, toPy, h1, h4], by simp [PyData.canLayAll0, PyData.canLay0, h2, h5], by simp [PyData.depthAll, PyData.depth]; omega⟩
  | .sc v :: xs, h => by simp [logOk] at h
  | .lst v :: xs, h => by simp [logOk] at h
  | .dic v :: xs, h => by simp [logOk] at h
  | .obj v w :: xs, h => by simp [logOk] at h
theorem log_py {xs : List D} (h : xs.all logOk = true) : ∃ a, toPy (.lst xs) = some a ∧ SeqAt.shaped a = true := by
  obtain ⟨as, h1, h2, h3⟩ := logOk_py h
  refine ⟨.list as, by simp [toPy, h1], ?_⟩
  unfold SeqAt.shaped
  have e1 : (PyData.list as).canLay0 = PyData.canLayAll0 as := by simp [PyData.canLay0]
  have e2 : (PyData.list as).depth = PyData.depthAll as + 1 := by simp [PyData.depth]
  rw [e1, e2, h2, decide_eq_true (by omega)]
  rfl
section
variable {K : PySem.W.Frag} {B : Bs} {env : List (Option D)} {o : Ow} {P : D → Ow → Prop}
/-- a list of flat sound things is not the empty one, or is -/
theorem rv_neNil {xs : List D} (h : xs.all shOk = true) (q : P (dB (!xs.isEmpty)) o) : RvD K B (rNeU K) (.lst xs) (.lst []) o P := by
  obtain ⟨as, h1, h2, h3⟩ := shOks_py h
  refine rv_neUD (a := .list as) (b := .list []) (by simp [toPy, h1]) rfl ?_ (by rfl) ?_
  · unfold SeqAt.shaped
    have e1 : (PyData.list as).canLay0 = PyData.canLayAll0 as := by simp [PyData.canLay0]
    have e2 : (PyData.list as).depth = PyData.depthAll as + 1 := by simp [PyData.depth]
    rw [e1, e2, h2, decide_eq_true (by omega)]
    rfl
  · have e : PyData.eqv (.list as) (.list []) = xs.isEmpty := by
      cases xs with
      | nil => simp only [toPys, Option.some.injEq] at h1; subst h1; simp [PyData.eqv, PyData.eqvAll]
      | cons x xs =>
        simp only [toPys] at h1
        cases e1 : toPy x with
        | none => rw [e1] at h1; simp at h1
        | some a =>
          cases e2 : toPys xs with
          | none => rw [e1, e2] at h1; simp at h1
          | some b =>
            rw [e1, e2] at h1
            simp only [Option.some.injEq] at h1
            subst h1
            simp [PyData.eqv, PyData.eqvAll]
    rw [e]
    exact q
theorem rv_neLog {xs : List D} (h : xs.all logOk = true) (q : P (dB (!xs.isEmpty)) o) : RvD K B (rNeU K) (.lst xs) (.lst []) o P := by
  obtain ⟨as, h1, h2, h3⟩ := logOk_py h
  refine rv_neUD (a := .list as) (b := .list []) (by simp [toPy, h1]) rfl ?_ (by rfl) ?_
  · unfold SeqAt.shaped
    have e1 : (PyData.list as).canLay0 = PyData.canLayAll0 as := by simp [PyData.canLay0]
    have e2 : (PyData.list as).depth = PyData.depthAll as + 1 := by simp [PyData.depth]
    rw [e1, e2, h2, decide_eq_true (by omega)]
    rfl
  · have e : PyData.eqv (.list as) (.list []) = xs.isEmpty := by
      cases xs with
      | nil => simp only [toPys, Option.some.injEq] at h1; subst h1; simp [PyData.eqv, PyData.eqvAll]
      | cons x xs =>
        simp only [toPys] at h1
        cases e1 : toPy x with
        | none => rw [e1] at h1; simp at h1
        | some a =>
          cases e2 : toPys xs with
          | none => rw [e1, e2] at h1; simp at h1
          | some b =>
            rw [e1, e2] at h1
            simp only [Option.some.injEq] at h1
            subst h1
            simp [PyData.eqv, PyData.eqvAll]
    rw [e]
    exact q
end
end DK
namespace DK
open PySem PySem.Spec PyProof.Rows L2
theorem call_listUK {X : Cx} {K : PySem.W.Frag} (h : X.K = K) : CallR X (.type "list") (rListU K) := h ▸ call_listU
theorem call_tupUK {X : Cx} {K : PySem.W.Frag} (h : X.K = K) : CallR X (.type "tuple") (rTupU K) := h ▸ call_tupU
end DK
namespace DK
open PySem PySem.Spec PyProof.Rows L2
theorem pg_tupK {X : Cx} {K : PySem.W.Frag} (e : X.K = K) {es : List Expr} {k : Nat} {t : TGs} {n : Nat} {pos : Pos} (hc : X.calm = true) (h : PGs X es t)
    (hn : (assignEach es X.env).length = n := by rfl) (hst : (assignEach es X.env).findIdx? (·.1) = none := by rfl) : PG X (.Tuple es k pos) (gTup K n t) := e ▸ pg_tup hc h hn hst
end DK
namespace DK
open PySem PySem.Spec PyProof.Rows L2
theorem log2_small {i : Int} (h0 : 0 ≤ i) (h : i < 2 ^ 62) : i.natAbs.log2 < 1920 := by
  by_cases q : i.natAbs = 0
  · rw [q]; decide
  · have h1 : i.natAbs < 2 ^ 62 := by omega
    have := (Nat.log2_lt q).mpr h1
    omega
end DK
namespace DK
open PySem PySem.Spec PyProof.Rows L2
/-- what is given back here was owned, and is data from here on -/
def tF (t : TE) : TE := t
theorem pe_frz {X : Cx} {e : Expr} {t : TE} (h : PE X e t) : PE X e (tF t) := h
theorem ed_tF {K : PySem.W.Frag} {B : Bs} {env : List (Option D)} {o : Ow} {P : D → Ow → Prop} {te : TE} (h : EvD K B te env o fun d o' => ∃ (i : Nat) (p : Addr) (m : M), d = dR p ∧ o'[i]? = some (p, m) ∧ B.H p = none ∧ P m.toD (o'.eraseIdx i)) : EvD K B (tF te) env o P := EvD.freeze h
end DK

set_option Elab.async false
set_option linter.all false
set_option maxRecDepth 100000
set_option maxHeartbeats 4000000
/-! DK10: calls by place in what is owned; loops over a few things, unrolled; maps. -/
namespace DK
open PySem PySem.Spec PyProof.Rows L2
theorem cut3 {α : Type} (o : List α) (i n : Nat) : o = o.take i ++ ((o.drop i).take n ++ o.drop (i + n)) := by
  rw [← List.drop_drop, List.take_append_drop, List.take_append_drop]
section
variable {K : PySem.W.Frag} {B : Bs} {env : List (Option D)} {o : Ow} {P : D → Ow → Prop} {ta tb tc te tk tv tl : TE} {tt : TT} {t : TS} {g : TG} {vs : List Nat} {PS : DE}
theorem ed_callN (i n : Nat) {R : DR} {tas : TA} {E : XK} (h : EvA K B tas env o fun ds o1 => R ds ((o1.drop i).take n) (fun d fp' => P d (o1.take i ++ (fp' ++ o1.drop (i + n)))) X0) : EvD K B (tCall (spR K R) [] E tas) env o P :=
  ed_call fun G H σ X S L Q k => h G H σ X S L Q fun vs ds G' H' o' e S' r p => k vs ds G' H' o' e S' r ⟨_, _, _, cut3 o' i n, by simpa using p⟩
theorem ed_callXN (i n : Nat) {R : DR} {tas : TA} (h : EvA K B tas env o fun ds o1 => R ds ((o1.drop i).take n) (fun d fp' => P d (o1.take i ++ (fp' ++ o1.drop (i + n)))) (fun cl fs fp' => B.X cl fs (o1.take i ++ (fp' ++ o1.drop (i + n))))) : EvD K B (tCall (spR K R) [] B.E tas) env o P :=
  ed_callX fun G H σ X S L Q k => h G H σ X S L Q fun vs ds G' H' o' e S' r p => k vs ds G' H' o' e S' r ⟨_, _, _, cut3 o' i n, by simpa using p⟩
theorem ed_methN (i n : Nat) {C : Addr} {m : Str} {R : DR} {tas : TA} {E : XK} (h : EvD K B ta env o fun r o1 => ∃ fs, InsD C r o1 fs ∧ fs.lookup m = none ∧ EvA K B tas env o1 fun ds o2 => R (r :: ds) ((o2.drop i).take n) (fun d fp' => P d (o2.take i ++ (fp' ++ o2.drop (i + n)))) X0) :
    EvD K B (tMeth C m (spR K R) [] E ta tas) env o P :=
  ed_meth (h.imp fun r o1 ⟨fs, a, b, c⟩ => ⟨fs, a, b, fun G H σ X S L Q k => c G H σ X S L Q fun vs ds G' H' o' e S' r p => k vs ds G' H' o' e S' r ⟨_, _, _, cut3 o' i n, by simpa using p⟩⟩)
theorem ed_methXN (i n : Nat) {C : Addr} {m : Str} {R : DR} {tas : TA} (h : EvD K B ta env o fun r o1 => ∃ fs, InsD C r o1 fs ∧ fs.lookup m = none ∧ EvA K B tas env o1 fun ds o2 => R (r :: ds) ((o2.drop i).take n) (fun d fp' => P d (o2.take i ++ (fp' ++ o2.drop (i + n)))) (fun cl fs fp' => B.X cl fs (o2.take i ++ (fp' ++ o2.drop (i + n))))) :
    EvD K B (tMeth C m (spR K R) [] B.E ta tas) env o P :=
  ed_methX (h.imp fun r o1 ⟨fs, a, b, c⟩ => ⟨fs, a, b, fun G H σ X S L Q k => c G H σ X S L Q fun vs ds G' H' o' e S' r p => k vs ds G' H' o' e S' r ⟨_, _, _, cut3 o' i n, by simpa using p⟩⟩)
/-- a loop over a few things, one after the other -/
def ForU (K : PySem.W.Frag) (B : Bs) (g : TG) (t : TS) (PS : DE) : List D → List (Option D) → Ow → Prop
  | [], env, o => PS.nx env o
  | x :: r, env, o => GvD K B g x env o fun env2 o2 => SvD K B t env2 o2 ⟨fun e o => ForU K B g t PS r e o, PS.rt, PS.nx, fun e o => ForU K B g t PS r e o⟩
theorem sv_forU (h : EvD K B tl env o fun d o1 => ∃ ds, d = .lst ds ∧ ForU K B g t PS ds env o1) : SvD K B (tFor (iList K tl) g t) env o PS :=
  sv_forL (h.imp fun d o1 ⟨ds, e, u⟩ => ⟨ds, e, fun i e o => ForU K B g t PS (ds.drop i) e o, u, fun i x e o hx p => by
    have hl := (List.getElem?_eq_some_iff.mp hx).1
    have hd : ds.drop i = x :: ds.drop (i + 1) := by
      rw [List.drop_eq_getElem_cons hl]
      rw [(List.getElem?_eq_some_iff.mp hx).2]
    replace p : ForU K B g t PS (ds.drop i) e o := p
    rw [hd] at p
    exact p, fun e o p => by replace p : ForU K B g t PS (ds.drop ds.length) e o := p; rw [List.drop_length] at p; exact p⟩)
/-- [F(x) for x in a list] -/
def MapT (K : PySem.W.Frag) (B : Bs) (g : TG) (te : TE) (env : List (Option D)) (vs : List Nat) (F : D → D) (o1 : Ow) (x : D) : Prop :=
  ∀ q acc, B.H q = none → GvD K B g x (wipeD env vs) (o1 ++ [(q, .lst acc)]) fun env2 o2 => EvD K B te env2 o2 fun d o4 => d = F x ∧ o4 = o1 ++ [(q, .lst acc)]
theorem map_turn {F : D → D} {o1 : Ow} {ds : List D} {i : Nat} {x : D} (hl : ds.length ≤ 1000000) (hx : ds[i]? = some x) (h : MapT K B g te env vs F o1 x) :
    TurnC K B g tYes te env vs x (fun acc o' => acc = (ds.take i).map F ∧ o' = o1) (fun acc o' => acc = (ds.take (i + 1)).map F ∧ o' = o1) := by
  have hi := (List.getElem?_eq_some_iff.mp hx).1
  have e : (ds.take (i + 1)).map F = (ds.take i).map F ++ (some (F x)).toList := by
    rw [List.take_add_one, hx, List.map_append]
    rfl
  rw [e]
  refine turn_pure (by rw [List.length_map, List.length_take]; omega) fun q hq G H σ v X S L rx Q k => h q _ hq G H σ v X S L rx Q fun σ' env' G' H' o2 e S' L' ht => k σ' env' G' H' o2 e S' L' ?_
  exact et_yes ⟨fun _ => ht.imp fun d o4 ⟨a, b⟩ => ⟨by rw [a], b⟩, fun z => by cases z⟩
theorem ed_mapL (hw : WT vs g) (h : EvD K B tl env o fun d o1 => ∃ ds, d = .lst ds ∧ ds.length ≤ 1000000 ∧ ∃ F : D → D, (∀ x ∈ ds, MapT K B g te env vs F o1 x) ∧ P (.lst (ds.map F)) o1) : EvD K B (tLc (iList K tl) g tYes te vs) env o P :=
  ed_lcL hw (h.imp fun d o1 ⟨ds, e, hl, F, hs, hp⟩ => ⟨ds, e, fun i acc o' => acc = (ds.take i).map F ∧ o' = o1, ⟨rfl, rfl⟩, fun i x hx => map_turn hl hx (hs x (List.mem_of_getElem? hx)), fun acc o' ⟨a, b⟩ => by
    subst a b
    rw [List.take_length]
    exact hp⟩)
theorem ed_mapT (hw : WT vs g) (h : EvD K B tl env o fun d o1 => ∃ ds, d = .tup ds ∧ ds.length ≤ 1000000 ∧ ∃ F : D → D, (∀ x ∈ ds, MapT K B g te env vs F o1 x) ∧ P (.lst (ds.map F)) o1) : EvD K B (tLc (iTup K tl) g tYes te vs) env o P :=
  ed_lcT hw (h.imp fun d o1 ⟨ds, e, hl, F, hs, hp⟩ => ⟨ds, e, fun i acc o' => acc = (ds.take i).map F ∧ o' = o1, ⟨rfl, rfl⟩, fun i x hx => map_turn hl hx (hs x (List.mem_of_getElem? hx)), fun acc o' ⟨a, b⟩ => by
    subst a b
    rw [List.take_length]
    exact hp⟩)
theorem ed_oMapL (hw : WT vs g) (h : EvD K B tl env o fun d o1 => ∃ ds, d = .lst ds ∧ ds.length ≤ 1000000 ∧ ∃ F : D → D, (∀ x ∈ ds, MapT K B g te env vs F o1 x) ∧ ∀ q, B.H q = none → P (dR q) (o1 ++ [(q, .lst (ds.map F))])) : EvD K B (tO (tLc (iList K tl) g tYes te vs)) env o P :=
  ed_oLcL hw (h.imp fun d o1 ⟨ds, e, hl, F, hs, hp⟩ => ⟨ds, e, fun i acc o' => acc = (ds.take i).map F ∧ o' = o1, ⟨rfl, rfl⟩, fun i x hx => map_turn hl hx (hs x (List.mem_of_getElem? hx)), fun acc o' q hq ⟨a, b⟩ => by
    subst a b
    rw [List.take_length]
    exact hp q hq⟩)
end
/-- a number as text -/
def nT (n : Nat) : Str := Str.ofString (toString (n : Int))
def strD : D → D
  | .sc (.int i) => dS (Str.ofString (toString i))
  | .sc (.str z) => dS z
  | d => d
theorem nT_len {n : Nat} (h : n < 400) : (nT n).length ≤ 3 := txt_small n h
theorem nT_ok {n : Nat} (h : n < 400) : okT (nT n) = true := okT_small n h
end DK
namespace DK
open PySem PySem.Spec PyProof.Rows L2
/-- what stands at a place of a list that is written out -/
inductive At {α : Type} : List α → Nat → α → Prop
  | z {x : α} {e : List α} : At (x :: e) 0 x
  | s {x y : α} {e : List α} {i : Nat} : At e i x → At (y :: e) (i + 1) x
inductive SetAt {α : Type} : List α → Nat → α → List α → Prop
  | z {x y : α} {e : List α} : SetAt (y :: e) 0 x (x :: e)
  | s {x y : α} {e e' : List α} {i : Nat} : SetAt e i x e' → SetAt (y :: e) (i + 1) x (y :: e')
theorem At.get {α : Type} {l : List α} {i : Nat} {x : α} (h : At l i x) : l[i]? = some x := by
  induction h with
  | z => rfl
  | s _ ih => simpa using ih
theorem SetAt.eq {α : Type} {l l' : List α} {i : Nat} {x : α} (h : SetAt l i x l') : l.set i x = l' := by
  induction h with
  | z => rfl
  | s _ ih => simp [ih]
section
variable {K : PySem.W.Frag} {B : Bs} {env env' : List (Option D)} {o : Ow} {P : D → Ow → Prop} {d : D}
theorem ed_varA {i : Nat} (h : At env i (some d)) (q : P d o) : EvD K B (tVar i) env o P := ed_var h.get q
theorem gv_nameA {N : List (Option D) → Ow → Prop} {i : Nat} (h : SetAt env i (some d) env') (q : N env' o) : GvD K B (gName i) d env o N := gv_name (by rw [h.eq]; exact q)
end
end DK
namespace DK
open PySem PySem.Spec PyProof.Rows L2
/-- behind this, fewer things are held as owned -/
def tW (t : TE) : TE := t
def DropTo (o : Ow) (P : Ow → Prop) : Prop := ∃ o2, o2.Sublist o ∧ P o2
theorem DropTo.mk {o : Ow} {P : Ow → Prop} (o2 : Ow) (h : o2.Sublist o) (q : P o2) : DropTo o P := ⟨o2, h, q⟩
theorem pe_weak {X : Cx} {e : Expr} {t : TE} (h : PE X e t) : PE X e (tW t) := h
theorem ed_tW {K : PySem.W.Frag} {B : Bs} {env : List (Option D)} {o : Ow} {P : D → Ow → Prop} {te : TE} (h : EvD K B te env o fun d o' => DropTo o' fun o2 => P d o2) : EvD K B (tW te) env o P := fun G H σ X S L Q q =>
  h G H σ X S L Q fun v d G' H' o' e S' r ⟨o2, hs, hP⟩ => q v d G' H' o2 e (S'.drop hs) r hP
theorem ps_lockW {X : Cx} {st : Stmt} {t : TE} {g : TG} (h : PS X st (tLock (tAsg t g))) : PS X st (tLock (tAsg t g)) := h
end DK
namespace DK
open PySem PySem.Spec PyProof.Rows L2
section
variable {X : Cx}
/-- what each part of a comprehension's block asks, whatever the block's own places -/
abbrev InBlk (X : Cx) (scope : Scope) (p : Cx → Prop) : Prop := ∀ (s : Shared) (H : Hp) (C : Addr) (cl : List (Str × Addr)) (fp : List Addr), p (X.blk s H scope (compEnvC scope cl C X.env) fp)
/-- name = {k: v for ..} on one line, the name a local -/
theorem ps_setDc {i : Nat} {y : Str} {py pos spos : Pos} {kx vx tg iter : Expr} {ifs : List Expr} {scope : Scope} {own : List (Str × Nat)} {wi : TI} {g : TG} {tt : TT} {tk tv : TE} (calm : X.calm = true) (nd : X.N.Nodup) (at_ : X.N[i]? = some y) (loc : X.env.scope.names.lookup y = some .local)
    (sw : swapsWith (.DictComp kx vx [⟨tg, iter, ifs, 0⟩] scope pos) (some (.Name y py)) spos.line X.env = pure true) (hi : PI X tg iter wi) (ok : BlkOk X.N X.env.scope scope own)
    (tgt : InBlk X scope fun Y => PG Y tg g) (tst : InBlk X scope fun Y => PTs Y ifs tt) (key : InBlk X scope fun Y => PE Y kx tk) (val : InBlk X scope fun Y => PE Y vx tv) (fold : ∀ x, foldedSetIterable iter X.env x = pure x := by intro _; rfl) :
    PS X (.Assign [.Name y py] (.DictComp kx vx [⟨tg, iter, ifs, 0⟩] scope pos) spos) (tAsg (tDc wi g tt tk tv (own.map (·.2))) (gName i)) := by
  constructor
  intro pins s σ H D I (h : tDc wi g tt tk tv (own.map (·.2)) σ H fun x J => gName i x σ J D.nx)
  have main := dc_core (pos := pos) (pos' := firstIterPos [⟨tg, iter, ifs, 0⟩] pos) (use := some (assign (.Name y py) X.env)) (Qf := fun _ t => SP X pins D .next t) calm nd I hi ok tgt tst key val fold h fun L C t m J It q hn f => by
    obtain ⟨z0, z1, z2, z3, z4, z5⟩ := f
    apply wpAny_assign_Name
    refine store_ok2 (v := V.ref L) It nd at_ (.inl loc) rfl (fun u Iu w => ?_) (.inr loc)
    obtain ⟨b, sb, hb⟩ := w
    have ne : C ≠ b := hb.elim (fun z => z.symm ▸ z1) fun z => (z4 y b z).symm
    exact ⟨m, hn.sameBut sb ne, fun v3 sb3 => ⟨_, J, Iu.turned (t' := u.toks) (fun c o hc e => (sb3.2 c hc).trans e) z0 z1 z3 z4 z5, q⟩⟩
  rw [exec_Assign_Name_used _ _ _ _ sw]
  apply wpAny_bind
  apply wpAny_standAt
  apply wpAny_bind
  exact wpAny_bind (thn main fun _ _ z => wpAny_pure (wpAny_pure z))
/-- the value dropped in is the same thing as with a list -/
theorem sw_trueD {kx vx : Expr} {gs : List Comprehension} {scope : Scope} {pos py : Pos} {y : Str} {l : Nat} {env : Env} (hk : env.scope.kind = .function) (hy : env.scope.names.lookup y = some .local) (hl : (py.line == pos.line) = true)
    (ha : (scope.names.any fun (n, k) => n == y && (k == .local || k == .cell)) = false) : swapsWith (.DictComp kx vx gs scope pos) (some (.Name y py)) l env = pure true :=
  (show swapsWith (.DictComp kx vx gs scope pos) (some (.Name y py)) l env = swapsWith (.ListComp kx gs scope pos) (some (.Name y py)) l env from rfl).trans (sw_true hk hy hl ha)
end
section
variable {K : PySem.W.Frag} {B : Bs} {env : List (Option D)} {o : Ow} {PS : DE} {tk tv : TE} {tt : TT}
theorem sv_oDc0 {g : TG} {f : Str} {vs : List Nat} {i j m n : Nat} {k C d : Addr} {fs : List (Str × D)} (h1 : env[i]? = some (some (dR k))) (h2 : o[j]? = some (k, .ins C fs)) (hc : Cls K C) (hn : NoAttr K C f) (hl : FldAt fs f (dR d)) (h3 : o[m]? = some (d, .dic []))
    (hq : ∀ q, B.H q = none → PS.nx (env.set n (some (dR q))) (o ++ [(q, .dic [])])) : SvD K B (tLock (tAsg (tDc (iVals (tFld K (tVar i) f)) g tt tk tv vs) (gName n))) env o PS := fun G H σ X S L D0 kk => by
  obtain ⟨v, e1, r1⟩ := L.get i _ h1
  cases r1
  obtain ⟨_, ⟨dx, fv, a1, a2⟩, _⟩ := S.ow _ (List.mem_of_getElem? h2)
  obtain ⟨_, ⟨ks, b1, b2⟩, _⟩ := S.ow _ (List.mem_of_getElem? h3)
  cases b2
  obtain ⟨u, l1, l2⟩ := a2.lookup hl.look
  cases l2
  dsimp only at a1 b1
  have hkd : k ≠ d := fun z => by rw [z, b1] at a1; cases a1
  refine ⟨d, .dK [], b1, trivial, fun od => ?_⟩
  refine ⟨_, e1, k, C, dx, fv, .ref d, rfl, by rw [upd_ne hkd]; exact a1, hc, hn, l1, d, od, [], rfl, upd_same, fun D hD => ?_⟩
  have hDd : D ≠ d := fun z => by rw [z, upd_same] at hD; cases hD
  have hHD : H D = none := by rw [upd_ne hDd] at hD; exact hD
  refine ⟨fun i m H' => i = 0 ∧ H' = upd (upd H d (.frz od (.dK []))) D (.dK []), ⟨0, rfl, rfl⟩, ?_⟩
  rintro i m H' ⟨rfl, rfl⟩
  have hfr : (upd (upd H d (.frz od (.dK []))) D (.dK [])) d = some (.frz od (.dK [])) := by rw [upd_ne hDd.symm, upd_same]
  refine .inl ⟨⟨hfr, Nat.le_refl _⟩, hfr, ?_⟩
  have e : upd (upd (upd H d (.frz od (.dK []))) D (.dK [])) d (.dK []) = upd H D (.dK []) := by
    funext a
    by_cases q : a = d
    · subst q
      rw [upd_same, upd_ne hDd.symm, b1]
    · rw [upd_ne q]
      by_cases q2 : a = D
      · subst q2
        rw [upd_same, upd_same]
      · rw [upd_ne q2, upd_ne q2, upd_ne q]
  rw [e]
  exact kk.nx _ _ G _ _ (Same.refl G) (S.own (m := .dic []) hHD ⟨[], upd_same, .nil⟩) (L.set n (.sc (.ref D))) (hq D (S.bnone hHD))
end
end DK
namespace DK
open PySem PySem.Spec PyProof.Rows L2
section
variable {K : PySem.W.Frag} {B : Bs} {env : List (Option D)} {o : Ow} {PS : DE} {t : TS} {g : TG} {x : D} {r : List D}
theorem forU_nil (h : PS.nx env o) : ForU K B g t PS [] env o := h
theorem forU_cons (h : GvD K B g x env o fun env2 o2 => SvD K B t env2 o2 ⟨fun e o => ForU K B g t PS r e o, PS.rt, PS.nx, fun e o => ForU K B g t PS r e o⟩) : ForU K B g t PS (x :: r) env o := h
end
end DK

set_option Elab.async false
set_option linter.all false
set_option maxRecDepth 100000
set_option maxHeartbeats 4000000
/-! DK11: zip of data, what +, list(..) make as owned, numbers. -/
namespace DK
open PySem PySem.Spec PyProof.Rows L2
section
variable {K : PySem.W.Frag} {B : Bs} {env : List (Option D)} {o : Ow} {P : D → Ow → Prop} {ta tb tc te tk tv tl : TE} {tt : TT} {t : TS} {g : TG} {vs : List Nat} {PS : DE}
theorem tYes_eq {σ : L2.St} {H : Hp} {Q : Bool → Hp → Prop} (h : Q true H) : tYes σ H Q := h
theorem map_go {G H : Hp} {σ : L2.St} {v : V} {x F : D} {q : Addr} {acc : List D} {o1 : Ow} {Nx : Hp → Prop} (X : XOk K B) (hw : WT vs g) (hb : B.H q = none) (hl : acc.length < 1000000) (S : Sat K B G H (o1 ++ [(q, .lst acc)])) (L : Sl K G σ env) (rx : Rep K G v x) (h : MapT K B g te env vs (fun _ => F) o1 x)
    (hn : ∀ G' H', Same G G' → Sat K B G' H' (o1 ++ [(q, .lst (acc ++ [F]))]) → Nx H') :
    g v (L2.wipe σ vs) H fun σ2 H2 => L2.wipe σ2 vs = L2.wipe σ vs ∧ tYes σ2 H2 fun b H3 => if b = true then te σ2 H3 fun y H4 => ∃ acc, H4 q = some (.lst acc) ∧ acc.length < sizeLine ∧ Nx (upd H4 q (.lst (acc ++ [y]))) else Nx H3 := by
  have h2 := h q acc hb G H (L2.wipe σ vs) v X S (L.wipe vs) rx (fun σ2 H2 => tYes σ2 H2 fun b H3 => if b = true then te σ2 H3 fun y H4 => ∃ acc, H4 q = some (.lst acc) ∧ acc.length < sizeLine ∧ Nx (upd H4 q (.lst (acc ++ [y]))) else Nx H3)
    fun σ2 env2 G2 H2 o2 e2 S2 L2' ht => ?_
  · have h3 := hw _ _ _ _ h2
    rw [wipe_wipe] at h3
    exact h3
  · refine tYes_eq (iteT ?_)
    refine ht G2 H2 σ2 X S2 L2' _ fun v d G4 H4 o4 e4 S4 r4 ⟨hd, ho⟩ => ?_
    subst hd ho
    have hi : (o1 ++ [(q, M.lst acc)])[o1.length]? = some (q, M.lst acc) := by simp
    obtain ⟨_, ⟨ws, g2, a1⟩, _⟩ := S4.ow _ (List.mem_of_getElem? hi)
    refine ⟨ws, g2, by rw [a1.length]; exact Nat.lt_of_lt_of_le hl (by decide), hn G4 _ (e2.trans e4) ?_⟩
    have S5 := S4.put (u := .lst (ws ++ [v])) (m' := .lst (acc ++ [d])) hi ⟨_, upd_same, a1.append (.cons r4 .nil)⟩
    have e : (o1 ++ [(q, M.lst acc)]).set o1.length (q, M.lst (acc ++ [d])) = o1 ++ [(q, M.lst (acc ++ [d]))] := by simp
    rw [e] at S5
    exact S5
/-- [F for x, y in zip(a, b)] -/
theorem ed_mapZ {tas : TA} (hw : WT vs g) (h : EvA K B tas env o fun as o1 => ∃ xs ys, (as = [.lst xs, .lst ys] ∨ as = [.tup xs, .tup ys]) ∧ xs.length = ys.length ∧ xs.length ≤ 1000000 ∧ ∃ F : D, (∀ (i : Nat) x y, xs[i]? = some x → ys[i]? = some y → MapT K B g te env vs (fun _ => F) o1 (.tup [x, y])) ∧ P (.lst (List.replicate xs.length F)) o1) :
    EvD K B (tLc (RZ.iZipA K tas) g tYes te vs) env o P := fun G H σ X S L Q k =>
  h G H σ X S L _ fun ws as G1 H1 o1 e1 S1 r1 ⟨xs, ys, ha, hxy, hl, F, hm, hP⟩ => by
    rcases ha with ha | ha
    · subst ha
      cases r1 with
      | cons r1 rr =>
        cases rr with
        | cons r2 rr =>
          cases rr
          cases r1 with
          | @lst a us _ g1 a1 =>
            cases r2 with
            | @lst b us2 _ g2 a2 =>
              refine ⟨a, b, us, us2, rfl, .inl ⟨.of (S1.sub _ _ g1), .of (S1.sub _ _ g2), fun q hq => ?_⟩⟩
              have hb := S1.bnone hq
              refine ⟨fun i m H' => m = xs.length - i ∧ i ≤ xs.length ∧ ∃ G2, Same G1 G2 ∧ Sat K B G2 H' (o1 ++ [(q, .lst (List.replicate i F))]), ⟨xs.length, rfl, Nat.zero_le _, G1, Same.refl G1, S1.own (m := .lst []) hq ⟨[], upd_same, .nil⟩⟩, ?_⟩
              rintro i m H' ⟨rfl, hi, G2, e2, S2⟩
              have q1 : SqL K H' a us := .of (S2.sub _ _ (e2 _ _ g1))
              have q2 : SqL K H' b us2 := .of (S2.sub _ _ (e2 _ _ g2))
              have l1 : us.length = xs.length := a1.length
              have l2 : us2.length = ys.length := a2.length
              by_cases hlt : i < xs.length
              · refine .inr ⟨⟨us, us2, us[i]'(by omega), us2[i]'(by omega), q1, q2, List.getElem?_eq_getElem (by omega), List.getElem?_eq_getElem (by omega)⟩, fun H'' => ∃ G2, Same G1 G2 ∧ Sat K B G2 H'' (o1 ++ [(q, .lst (List.replicate (i + 1) F))]), fun H'' p => ⟨xs.length - (i + 1), by omega, rfl, hlt, p⟩, ?_⟩
                rintro v H'' ⟨T, x', y', rfl, hT, rfl, f1, f2⟩
                obtain ⟨dx, hx, rx⟩ := a1.getV (f1 us q1)
                obtain ⟨dy, hy, ry⟩ := a2.getV (f2 us2 q2)
                obtain ⟨e3, S3⟩ := S2.data (u := .tup [x', y']) hT
                have e13 := e2.trans e3
                refine map_go X hw hb (by rw [List.length_replicate]; omega) S3 ((L.mono e1).mono e13) (.tup upd_same (.cons (rx.mono e13) (.cons (ry.mono e13) .nil))) (hm i dx dy hx hy) fun G4 H4 e4 S4 => ⟨G4, e13.trans e4, ?_⟩
                rw [List.replicate_succ']
                exact S4
              · have e : i = xs.length := by omega
                subst e
                refine .inl ⟨⟨us, us2, q1, q2, .inl (by omega)⟩, ?_⟩
                obtain ⟨G3, e3, S3, r3⟩ := comp_end (G0 := G1) S2 hb
                exact k _ _ G3 H' o1 ((e1.trans e2).trans e3) S3 r3 hP
    · subst ha
      cases r1 with
      | cons r1 rr =>
        cases rr with
        | cons r2 rr =>
          cases rr
          cases r1 with
          | @tup a us _ g1 a1 =>
            cases r2 with
            | @tup b us2 _ g2 a2 =>
              refine ⟨a, b, us, us2, rfl, .inr ⟨.of (S1.sub _ _ g1), .of (S1.sub _ _ g2), fun q hq => ?_⟩⟩
              have hb := S1.bnone hq
              refine ⟨fun i m H' => m = xs.length - i ∧ i ≤ xs.length ∧ ∃ G2, Same G1 G2 ∧ Sat K B G2 H' (o1 ++ [(q, .lst (List.replicate i F))]), ⟨xs.length, rfl, Nat.zero_le _, G1, Same.refl G1, S1.own (m := .lst []) hq ⟨[], upd_same, .nil⟩⟩, ?_⟩
              rintro i m H' ⟨rfl, hi, G2, e2, S2⟩
              have q1 : SqT K H' a us := .of (S2.sub _ _ (e2 _ _ g1))
              have q2 : SqT K H' b us2 := .of (S2.sub _ _ (e2 _ _ g2))
              have l1 : us.length = xs.length := a1.length
              have l2 : us2.length = ys.length := a2.length
              by_cases hlt : i < xs.length
              · refine .inr ⟨⟨us, us2, us[i]'(by omega), us2[i]'(by omega), q1, q2, List.getElem?_eq_getElem (by omega), List.getElem?_eq_getElem (by omega)⟩, fun H'' => ∃ G2, Same G1 G2 ∧ Sat K B G2 H'' (o1 ++ [(q, .lst (List.replicate (i + 1) F))]), fun H'' p => ⟨xs.length - (i + 1), by omega, rfl, hlt, p⟩, ?_⟩
                rintro v H'' ⟨T, x', y', rfl, hT, rfl, f1, f2⟩
                obtain ⟨dx, hx, rx⟩ := a1.getV (f1 us q1)
                obtain ⟨dy, hy, ry⟩ := a2.getV (f2 us2 q2)
                obtain ⟨e3, S3⟩ := S2.data (u := .tup [x', y']) hT
                have e13 := e2.trans e3
                refine map_go X hw hb (by rw [List.length_replicate]; omega) S3 ((L.mono e1).mono e13) (.tup upd_same (.cons (rx.mono e13) (.cons (ry.mono e13) .nil))) (hm i dx dy hx hy) fun G4 H4 e4 S4 => ⟨G4, e13.trans e4, ?_⟩
                rw [List.replicate_succ']
                exact S4
              · have e : i = xs.length := by omega
                subst e
                refine .inl ⟨⟨us, us2, q1, q2, .inl (by omega)⟩, ?_⟩
                obtain ⟨G3, e3, S3, r3⟩ := comp_end (G0 := G1) S2 hb
                exact k _ _ G3 H' o1 ((e1.trans e2).trans e3) S3 r3 hP
/-- xs + ys, owned -/
theorem ed_oAdd (h : EvD K B ta env o fun x o1 => EvD K B tb env o1 fun y o2 => ∃ xs ys, x = .lst xs ∧ y = .lst ys ∧ xs.length + ys.length ≤ 1000000 ∧ ∀ p, B.H p = none → P (dR p) (o2 ++ [(p, .lst (xs ++ ys))])) : EvD K B (tO (tOp (rAddU K) ta tb)) env o P := fun G H σ X S L Q k =>
  h G H σ X S L _ fun v x G1 H1 o1 e1 S1 r1 h1 => h1 G1 H1 σ X S1 (L.mono e1) _ fun w y G2 H2 o2 e2 S2 r2 ⟨xs, ys, hx, hy, hl, hP⟩ => by
    subst hx hy
    have r1' := r1.mono e2
    cases r1' with
    | lst g1 a1 =>
      cases r2 with
      | lst g2 a2 =>
        refine .inr (.inr (.inl ⟨_, _, _, _, rfl, rfl, S2.sub _ _ g1, S2.sub _ _ g2, ?_, fun l hq => ?_⟩))
        · rw [a1.length, a2.length]
          exact Nat.le_trans hl (by decide)
        · exact k _ (dR l) G2 _ _ (e1.trans e2) (S2.own (m := .lst (xs ++ ys)) hq ⟨_, upd_same, a1.append a2⟩) (.sc _) (hP l (S2.bnone hq))
/-- list(t), owned -/
theorem ed_oListT {tas : TA} (h : EvA K B tas env o fun as o1 => ∃ xs, as = [.tup xs] ∧ ∀ p, B.H p = none → P (dR p) (o1 ++ [(p, .lst xs)])) : EvD K B (tO (tCB (rListU K) tas)) env o P := fun G H σ X S L Q k =>
  h G H σ X S L _ fun ws as G1 H1 o1 e1 S1 r1 ⟨xs, ha, hP⟩ => by
    subst ha
    exact rc_listTO hP G1 H1 ws X S1 r1 Q fun u d G3 H3 o3 e3 => k u d G3 H3 o3 (e1.trans e3)
end
theorem call_isXK {X : Cx} {K : PySem.W.Frag} (h : X.K = K) {a : Addr} {cls : Value} {d : Option Addr} {oe : Obj} {pn : List (Addr × Obj)} (hz : Zc cls d oe) (hf : ∃ vs, oe.data = .fields vs) : CallR (X.suite a ((a, oe) :: pn)) (.builtin "isinstance") (rIsX K a cls d) := h ▸ call_isX hz hf
theorem ix_seqK {X : Cx} {K : PySem.W.Frag} (h : X.K = K) : IxR X (rIx K) := h ▸ ix_seq
theorem atI_int {ns : List Int} {k : Int} (h0 : 0 ≤ k) (h1 : k < (ns.map V.int).length) : ∃ n, atI (ns.map V.int) k = some (V.int n) := by
  have hl : k.toNat < (ns.map V.int).length := by omega
  have hl2 : k.toNat < ns.length := by simpa using hl
  refine ⟨ns[k.toNat], ?_⟩
  unfold atI ixN
  rw [if_pos h0, if_pos h1]
  simp [hl2]
theorem emod_lt {a m : Int} (h : 0 < m) : 0 ≤ a % m ∧ a % m < m := ⟨Int.emod_nonneg a (by omega), Int.emod_lt_of_pos a h⟩
theorem log2_lt {m : Int} (h0 : 0 < m) (h : m < 2 ^ 62) : m.natAbs.log2 < 9000 := by
  have := log2_small (i := m) (by omega) h
  omega
end DK
namespace DK
open PySem PySem.Spec PyProof.Rows L2
end DK
namespace DK
open PySem PySem.Spec PyProof.Rows L2
theorem boot_ValueError : bootBuiltins ("ValueError" : Str) = some (.type "ValueError") := by decide +kernel
end DK
namespace DK
open PySem PySem.Spec PyProof.Rows L2
/-- what is called may raise, but does not here -/
theorem passF {X : Cx} {P : Program} {w : World} : Passes (L2.CX P w) X L2.E0 := fun _ _ _ _ _ _ _ ⟨_, _, _, _, _, _, _, _, _, _, _, _, h⟩ => h.elim
theorem okT_join {sg : Str} (hs : okT sg = true) : ∀ l : List Str, (∀ z ∈ l, okT z = true) → okT (Txt.join sg l) = true
  | [], _ => by rw [TL.join_eq]; show okT Str.empty = true; decide +kernel
  | [x], h => by rw [TL.join_eq]; simpa [Str.join] using h x (by simp)
  | x :: y :: r, h => by
    have ih := okT_join hs (y :: r) fun z hz => h z (List.mem_cons_of_mem _ hz)
    rw [TL.join_eq] at ih ⊢
    exact okT_app (okT_app (h x List.mem_cons_self) hs) ih
end DK

namespace K84
open PySem PySem.Spec PyProof.Rows L2 DK
def top (i : Nat) : Stmt := PySem.Challenge.pw_notefall_k84_begun_on_a_bare_shelf.main.body.getD i (.Pass ⟨0, 0, 0, 0⟩)
abbrev s_is_whole : Stmt := top 14
abbrev s_is_rule : Stmt := top 18
abbrev s_Roomzz_initzz : Stmt := inClass (top 32) 0
abbrev s_Room_is_leaf : Stmt := inClass (top 32) 1
abbrev s_Leafzz_initzz : Stmt := inClass (top 33) 0
abbrev s_Leaf_told : Stmt := inClass (top 33) 3
abbrev s_Storezz_initzz : Stmt := inClass (top 41) 0
abbrev s_Store_image : Stmt := inClass (top 41) 24
abbrev s_rooms_told : Stmt := top 42
abbrev s_joined : Stmt := top 44
abbrev s_room_text : Stmt := top 50
abbrev s_head_text : Stmt := top 51
abbrev s_page_of : Stmt := top 52
abbrev s_Keptzz_initzz : Stmt := inClass (top 54) 0
abbrev s_Kept_settle : Stmt := inClass (top 54) 2
abbrev s_places_of : Stmt := top 55
abbrev s_free_place : Stmt := top 56
abbrev s_begin : Stmt := top 57
abbrev s_Shelfzz_initzz : Stmt := inClass (top 60) 0
abbrev s_Shelf_write : Stmt := inClass (top 60) 1
abbrev s_Shelf_line : Stmt := inClass (top 60) 2
abbrev s_Shelf_blot : Stmt := inClass (top 60) 3
abbrev s_Shelf_page : Stmt := inClass (top 60) 4
abbrev s_Shelf_places : Stmt := inClass (top 60) 5
abbrev s_Shelf_journal : Stmt := inClass (top 60) 6
abbrev s_Shelf_log : Stmt := inClass (top 60) 7
abbrev s_law_cell_at : Stmt := top 62
abbrev s_law_digit : Stmt := top 63
abbrev s_law_alike : Stmt := top 64
abbrev s_law_rule : Stmt := top 65
abbrev s_law_no_rules : Stmt := top 66
abbrev s_law_page : Stmt := top 67
abbrev s_law_due : Stmt := top 68
abbrev s_law_begun : Stmt := top 69
abbrev s_law_refused : Stmt := top 70
abbrev s_law_not_bare : Stmt := top 71
abbrev s_law : Stmt := top 72
def d_is_whole : He.DefD := ⟨("is_whole", none), "is_whole", "is_whole", defArgs s_is_whole, defBody s_is_whole, defScope s_is_whole, [], []⟩
def d_is_rule : He.DefD := ⟨("is_rule", none), "is_rule", "is_rule", defArgs s_is_rule, defBody s_is_rule, defScope s_is_rule, [], []⟩
def d_Roomzz_initzz : He.DefD := ⟨("Room", some "__init__"), "__init__", "Room.__init__", defArgs s_Roomzz_initzz, defBody s_Roomzz_initzz, defScope s_Roomzz_initzz, [], []⟩
def d_Room_is_leaf : He.DefD := ⟨("Room", some "is_leaf"), "is_leaf", "Room.is_leaf", defArgs s_Room_is_leaf, defBody s_Room_is_leaf, defScope s_Room_is_leaf, [], []⟩
def d_Leafzz_initzz : He.DefD := ⟨("Leaf", some "__init__"), "__init__", "Leaf.__init__", defArgs s_Leafzz_initzz, defBody s_Leafzz_initzz, defScope s_Leafzz_initzz, [], []⟩
def d_Leaf_told : He.DefD := ⟨("Leaf", some "told"), "told", "Leaf.told", defArgs s_Leaf_told, defBody s_Leaf_told, defScope s_Leaf_told, [], []⟩
def d_Storezz_initzz : He.DefD := ⟨("Store", some "__init__"), "__init__", "Store.__init__", defArgs s_Storezz_initzz, defBody s_Storezz_initzz, defScope s_Storezz_initzz, [], []⟩
def d_Store_image : He.DefD := ⟨("Store", some "image"), "image", "Store.image", defArgs s_Store_image, defBody s_Store_image, defScope s_Store_image, [], []⟩
def d_rooms_told : He.DefD := ⟨("rooms_told", none), "rooms_told", "rooms_told", defArgs s_rooms_told, defBody s_rooms_told, defScope s_rooms_told, [], []⟩
def d_joined : He.DefD := ⟨("joined", none), "joined", "joined", defArgs s_joined, defBody s_joined, defScope s_joined, [], []⟩
def d_room_text : He.DefD := ⟨("room_text", none), "room_text", "room_text", defArgs s_room_text, defBody s_room_text, defScope s_room_text, [], []⟩
def d_head_text : He.DefD := ⟨("head_text", none), "head_text", "head_text", defArgs s_head_text, defBody s_head_text, defScope s_head_text, [], []⟩
def d_page_of : He.DefD := ⟨("page_of", none), "page_of", "page_of", defArgs s_page_of, defBody s_page_of, defScope s_page_of, [], []⟩
def d_Keptzz_initzz : He.DefD := ⟨("Kept", some "__init__"), "__init__", "Kept.__init__", defArgs s_Keptzz_initzz, defBody s_Keptzz_initzz, defScope s_Keptzz_initzz, [], []⟩
def d_Kept_settle : He.DefD := ⟨("Kept", some "settle"), "settle", "Kept.settle", defArgs s_Kept_settle, defBody s_Kept_settle, defScope s_Kept_settle, [], []⟩
def d_places_of : He.DefD := ⟨("places_of", none), "places_of", "places_of", defArgs s_places_of, defBody s_places_of, defScope s_places_of, [], []⟩
def d_free_place : He.DefD := ⟨("free_place", none), "free_place", "free_place", defArgs s_free_place, defBody s_free_place, defScope s_free_place, [], []⟩
def d_begin : He.DefD := ⟨("begin", none), "begin", "begin", defArgs s_begin, defBody s_begin, defScope s_begin, [], []⟩
def d_Shelfzz_initzz : He.DefD := ⟨("Shelf", some "__init__"), "__init__", "Shelf.__init__", defArgs s_Shelfzz_initzz, defBody s_Shelfzz_initzz, defScope s_Shelfzz_initzz, [], []⟩
def d_Shelf_write : He.DefD := ⟨("Shelf", some "write"), "write", "Shelf.write", defArgs s_Shelf_write, defBody s_Shelf_write, defScope s_Shelf_write, [], []⟩
def d_Shelf_line : He.DefD := ⟨("Shelf", some "line"), "line", "Shelf.line", defArgs s_Shelf_line, defBody s_Shelf_line, defScope s_Shelf_line, [], []⟩
def d_Shelf_blot : He.DefD := ⟨("Shelf", some "blot"), "blot", "Shelf.blot", defArgs s_Shelf_blot, defBody s_Shelf_blot, defScope s_Shelf_blot, [], []⟩
def d_Shelf_page : He.DefD := ⟨("Shelf", some "page"), "page", "Shelf.page", defArgs s_Shelf_page, defBody s_Shelf_page, defScope s_Shelf_page, [], []⟩
def d_Shelf_places : He.DefD := ⟨("Shelf", some "places"), "places", "Shelf.places", defArgs s_Shelf_places, defBody s_Shelf_places, defScope s_Shelf_places, [], []⟩
def d_Shelf_journal : He.DefD := ⟨("Shelf", some "journal"), "journal", "Shelf.journal", defArgs s_Shelf_journal, defBody s_Shelf_journal, defScope s_Shelf_journal, [], []⟩
def d_Shelf_log : He.DefD := ⟨("Shelf", some "log"), "log", "Shelf.log", defArgs s_Shelf_log, defBody s_Shelf_log, defScope s_Shelf_log, [], []⟩
def d_law_cell_at : He.DefD := ⟨("_law_cell_at", none), "_law_cell_at", "_law_cell_at", defArgs s_law_cell_at, defBody s_law_cell_at, defScope s_law_cell_at, [], []⟩
def d_law_digit : He.DefD := ⟨("_law_digit", none), "_law_digit", "_law_digit", defArgs s_law_digit, defBody s_law_digit, defScope s_law_digit, [], []⟩
def d_law_alike : He.DefD := ⟨("_law_alike", none), "_law_alike", "_law_alike", defArgs s_law_alike, defBody s_law_alike, defScope s_law_alike, [], []⟩
def d_law_rule : He.DefD := ⟨("_law_rule", none), "_law_rule", "_law_rule", defArgs s_law_rule, defBody s_law_rule, defScope s_law_rule, [], []⟩
def d_law_no_rules : He.DefD := ⟨("_law_no_rules", none), "_law_no_rules", "_law_no_rules", defArgs s_law_no_rules, defBody s_law_no_rules, defScope s_law_no_rules, [], []⟩
def d_law_page : He.DefD := ⟨("_law_page", none), "_law_page", "_law_page", defArgs s_law_page, defBody s_law_page, defScope s_law_page, [], []⟩
def d_law_due : He.DefD := ⟨("_law_due", none), "_law_due", "_law_due", defArgs s_law_due, defBody s_law_due, defScope s_law_due, [], []⟩
def d_law_begun : He.DefD := ⟨("_law_begun", none), "_law_begun", "_law_begun", defArgs s_law_begun, defBody s_law_begun, defScope s_law_begun, [], []⟩
def d_law_refused : He.DefD := ⟨("_law_refused", none), "_law_refused", "_law_refused", defArgs s_law_refused, defBody s_law_refused, defScope s_law_refused, [], []⟩
def d_law_not_bare : He.DefD := ⟨("_law_not_bare", none), "_law_not_bare", "_law_not_bare", defArgs s_law_not_bare, defBody s_law_not_bare, defScope s_law_not_bare, [], []⟩
def d_law : He.DefD := ⟨("law", none), "law", "law", defArgs s_law, defBody s_law, defScope s_law, [], []⟩
def fn : List He.DefD := [d_is_whole, d_is_rule, d_Roomzz_initzz, d_Room_is_leaf, d_Leafzz_initzz, d_Leaf_told, d_Storezz_initzz, d_Store_image, d_rooms_told, d_joined, d_room_text, d_head_text, d_page_of, d_Keptzz_initzz, d_Kept_settle, d_places_of, d_free_place, d_begin, d_Shelfzz_initzz, d_Shelf_write, d_Shelf_line, d_Shelf_blot, d_Shelf_page, d_Shelf_places, d_Shelf_journal, d_Shelf_log, d_law_cell_at, d_law_digit, d_law_alike, d_law_rule, d_law_no_rules, d_law_page, d_law_due, d_law_begun, d_law_refused, d_law_not_bare, d_law]
def fa0 : List He.Fa := [.glo "is_whole", .glo "is_rule", .glo "rooms_told", .glo "joined", .glo "room_text", .glo "head_text", .glo "page_of", .glo "places_of", .glo "free_place", .glo "begin", .glo "_law_cell_at", .glo "_law_digit", .glo "_law_alike", .glo "_law_rule", .glo "_law_no_rules", .glo "_law_page", .glo "_law_due", .glo "_law_begun", .glo "_law_refused", .glo "_law_not_bare"]
def fa1 : List He.Fa := [.glo "law", .free "isinstance", .free "int", .free "bool", .free "str", .glo "PLANS", .free "tuple", .free "len", .cls "Room", .cls "Leaf", .noat "Room" "number", .noat "Leaf" "number", .meth "Room" "is_leaf", .meth "Leaf" "is_leaf", .glo "Room", .mkr "Room", .noat "Leaf" "rows", .free "list", .meth "Leaf" "told", .glo "Leaf"]
def fa2 : List He.Fa := [.mkr "Leaf", .glo "NoRule", .exc "NoRule", .cls "Store", .noat "Store" "rule", .noat "Store" "last", .noat "Store" "kept", .noat "Store" "fresh", .noat "Store" "top", .noat "Store" "done", .noat "Store" "busy", .meth "Store" "image", .cls "Kept", .noat "Kept" "store", .noat "Kept" "shelf", .noat "Kept" "series", .noat "Kept" "stands", .meth "Kept" "settle", .glo "Store", .mkr "Store"]
def fa3 : List He.Fa := [.glo "Kept", .mkr "Kept", .glo "NotBare", .exc "NotBare", .cls "Shelf", .noat "Shelf" "texts", .noat "Shelf" "lines", .noat "Shelf" "writes", .noat "Shelf" "first_texts", .noat "Shelf" "first_lines", .int "LARGEST" 1000000, .glo "NoPlace", .exc "NoPlace", .meth "Shelf" "write", .meth "Shelf" "line", .meth "Shelf" "blot", .meth "Shelf" "page", .free "sorted", .meth "Shelf" "places", .meth "Shelf" "journal"]
def fa4 : List He.Fa := [.meth "Shelf" "log", .free "dict", .free "all", .free "zip", .glo "FallError", .exc "FallError", .free "ValueError", .glo "Shelf", .mkr "Shelf", .exm "NoRule" "NoRule" true, .exm "NotBare" "NoRule" false, .exm "NotBare" "FallError" true]
def fa : List He.Fa := fa0 ++ (fa1 ++ (fa2 ++ (fa3 ++ (fa4))))
def loose0 : List Str := [("_wall" : Str), ("__name__" : Str), ("FallError" : Str), ("NoAction" : Str), ("NoKey" : Str), ("NoStretch" : Str), ("NoRule" : Str), ("NoMark" : Str), ("NoMany" : Str), ("NoPlace" : Str), ("NotBare" : Str), ("END" : Str), ("PLANS" : Str), ("is_whole" : Str), ("is_number" : Str), ("is_key" : Str), ("is_stretch" : Str), ("is_rule" : Str), ("is_half" : Str), ("is_action" : Str)]
def loose1 : List Str := [("sure_action" : Str), ("done_to" : Str), ("acts" : Str), ("holds" : Str), ("value_of" : Str), ("seen" : Str), ("Room" : Str), ("Leaf" : Str), ("versions_in" : Str), ("value_in" : Str), ("do_note" : Str), ("values_in" : Str), ("pairs_in" : Str), ("Store" : Str), ("rooms_told" : Str), ("joined" : Str), ("none_text" : Str), ("there_text" : Str), ("note_text" : Str), ("version_text" : Str)]
def loose2 : List Str := [("row_text" : Str), ("room_text" : Str), ("head_text" : Str), ("page_of" : Str), ("Kept" : Str), ("places_of" : Str), ("free_place" : Str), ("begin" : Str), ("LARGEST" : Str), ("Shelf" : Str), ("_law_cell_at" : Str), ("_law_digit" : Str), ("_law_alike" : Str), ("_law_rule" : Str), ("_law_no_rules" : Str), ("_law_page" : Str), ("_law_due" : Str), ("_law_begun" : Str), ("_law_refused" : Str), ("_law_not_bare" : Str)]
def loose : List Str := loose0 ++ loose1 ++ loose2
def ex (K : PySem.W.Frag) : Bool := [He.tupB K "PLANS" [.str "fullest", .str "eldest"], cfnB K (He.ga K "Room") "__init__" (He.ma K (He.ga K "Room") "__init__"), excCB K (He.ga K "NoRule"), excCB K (He.ga K "NotBare"), decide (PySem.W.kitOne K (.ref (He.ga K "NoRule")) (.ref (He.ga K "NotBare")) = some false), decide (PySem.W.kitOne K (.ref (He.ga K "NoRule")) (.type "ValueError") = some true), decide (PySem.W.kitOne K (.ref (He.ga K "NotBare")) (.type "ValueError") = some true), decide (He.ma K (He.ga K "Leaf") "is_leaf" = He.ma K (He.ga K "Room") "is_leaf")].all id
/-- the top as the walk sees it -/
structure Cxt (K : PySem.W.Frag) (mg : Str → Option Value) : Prop where
  r : SaysR fa fn ex K
  kin : ∃ h, K.In h ∧ h.Ns mainGlobals mg
theorem Cxt.c {K : PySem.W.Frag} {mg : Str → Option Value} (T : Cxt K mg) : He.SaysD fa fn K := T.r.d
section
variable {K : PySem.W.Frag} {mg : Str → Option Value}
theorem g_is_whole (T : Cxt K mg) : mg "is_whole" = some (.ref (He.ga K "is_whole")) := let ⟨h, X, G⟩ := T.kin; He.glo_ok X G (T.c.fact 0 (f := .glo "is_whole") rfl)
theorem g_is_rule (T : Cxt K mg) : mg "is_rule" = some (.ref (He.ga K "is_rule")) := let ⟨h, X, G⟩ := T.kin; He.glo_ok X G (T.c.fact 1 (f := .glo "is_rule") rfl)
theorem g_rooms_told (T : Cxt K mg) : mg "rooms_told" = some (.ref (He.ga K "rooms_told")) := let ⟨h, X, G⟩ := T.kin; He.glo_ok X G (T.c.fact 2 (f := .glo "rooms_told") rfl)
theorem g_joined (T : Cxt K mg) : mg "joined" = some (.ref (He.ga K "joined")) := let ⟨h, X, G⟩ := T.kin; He.glo_ok X G (T.c.fact 3 (f := .glo "joined") rfl)
theorem g_room_text (T : Cxt K mg) : mg "room_text" = some (.ref (He.ga K "room_text")) := let ⟨h, X, G⟩ := T.kin; He.glo_ok X G (T.c.fact 4 (f := .glo "room_text") rfl)
theorem g_head_text (T : Cxt K mg) : mg "head_text" = some (.ref (He.ga K "head_text")) := let ⟨h, X, G⟩ := T.kin; He.glo_ok X G (T.c.fact 5 (f := .glo "head_text") rfl)
theorem g_page_of (T : Cxt K mg) : mg "page_of" = some (.ref (He.ga K "page_of")) := let ⟨h, X, G⟩ := T.kin; He.glo_ok X G (T.c.fact 6 (f := .glo "page_of") rfl)
theorem g_places_of (T : Cxt K mg) : mg "places_of" = some (.ref (He.ga K "places_of")) := let ⟨h, X, G⟩ := T.kin; He.glo_ok X G (T.c.fact 7 (f := .glo "places_of") rfl)
theorem g_free_place (T : Cxt K mg) : mg "free_place" = some (.ref (He.ga K "free_place")) := let ⟨h, X, G⟩ := T.kin; He.glo_ok X G (T.c.fact 8 (f := .glo "free_place") rfl)
theorem g_begin (T : Cxt K mg) : mg "begin" = some (.ref (He.ga K "begin")) := let ⟨h, X, G⟩ := T.kin; He.glo_ok X G (T.c.fact 9 (f := .glo "begin") rfl)
theorem g_law_cell_at (T : Cxt K mg) : mg "_law_cell_at" = some (.ref (He.ga K "_law_cell_at")) := let ⟨h, X, G⟩ := T.kin; He.glo_ok X G (T.c.fact 10 (f := .glo "_law_cell_at") rfl)
theorem g_law_digit (T : Cxt K mg) : mg "_law_digit" = some (.ref (He.ga K "_law_digit")) := let ⟨h, X, G⟩ := T.kin; He.glo_ok X G (T.c.fact 11 (f := .glo "_law_digit") rfl)
theorem g_law_alike (T : Cxt K mg) : mg "_law_alike" = some (.ref (He.ga K "_law_alike")) := let ⟨h, X, G⟩ := T.kin; He.glo_ok X G (T.c.fact 12 (f := .glo "_law_alike") rfl)
theorem g_law_rule (T : Cxt K mg) : mg "_law_rule" = some (.ref (He.ga K "_law_rule")) := let ⟨h, X, G⟩ := T.kin; He.glo_ok X G (T.c.fact 13 (f := .glo "_law_rule") rfl)
theorem g_law_no_rules (T : Cxt K mg) : mg "_law_no_rules" = some (.ref (He.ga K "_law_no_rules")) := let ⟨h, X, G⟩ := T.kin; He.glo_ok X G (T.c.fact 14 (f := .glo "_law_no_rules") rfl)
theorem g_law_page (T : Cxt K mg) : mg "_law_page" = some (.ref (He.ga K "_law_page")) := let ⟨h, X, G⟩ := T.kin; He.glo_ok X G (T.c.fact 15 (f := .glo "_law_page") rfl)
theorem g_law_due (T : Cxt K mg) : mg "_law_due" = some (.ref (He.ga K "_law_due")) := let ⟨h, X, G⟩ := T.kin; He.glo_ok X G (T.c.fact 16 (f := .glo "_law_due") rfl)
theorem g_law_begun (T : Cxt K mg) : mg "_law_begun" = some (.ref (He.ga K "_law_begun")) := let ⟨h, X, G⟩ := T.kin; He.glo_ok X G (T.c.fact 17 (f := .glo "_law_begun") rfl)
theorem g_law_refused (T : Cxt K mg) : mg "_law_refused" = some (.ref (He.ga K "_law_refused")) := let ⟨h, X, G⟩ := T.kin; He.glo_ok X G (T.c.fact 18 (f := .glo "_law_refused") rfl)
theorem g_law_not_bare (T : Cxt K mg) : mg "_law_not_bare" = some (.ref (He.ga K "_law_not_bare")) := let ⟨h, X, G⟩ := T.kin; He.glo_ok X G (T.c.fact 19 (f := .glo "_law_not_bare") rfl)
theorem g_law (T : Cxt K mg) : mg "law" = some (.ref (He.ga K "law")) := let ⟨h, X, G⟩ := T.kin; He.glo_ok X G (T.c.fact 20 (f := .glo "law") rfl)
theorem f_isinstance (T : Cxt K mg) : mg "isinstance" = none := let ⟨h, X, G⟩ := T.kin; He.free_ok X G (T.c.fact 21 (f := .free "isinstance") rfl)
theorem f_int (T : Cxt K mg) : mg "int" = none := let ⟨h, X, G⟩ := T.kin; He.free_ok X G (T.c.fact 22 (f := .free "int") rfl)
theorem f_bool (T : Cxt K mg) : mg "bool" = none := let ⟨h, X, G⟩ := T.kin; He.free_ok X G (T.c.fact 23 (f := .free "bool") rfl)
theorem f_str (T : Cxt K mg) : mg "str" = none := let ⟨h, X, G⟩ := T.kin; He.free_ok X G (T.c.fact 24 (f := .free "str") rfl)
theorem g_PLANS (T : Cxt K mg) : mg "PLANS" = some (.ref (He.ga K "PLANS")) := let ⟨h, X, G⟩ := T.kin; He.glo_ok X G (T.c.fact 25 (f := .glo "PLANS") rfl)
theorem f_tuple (T : Cxt K mg) : mg "tuple" = none := let ⟨h, X, G⟩ := T.kin; He.free_ok X G (T.c.fact 26 (f := .free "tuple") rfl)
theorem f_len (T : Cxt K mg) : mg "len" = none := let ⟨h, X, G⟩ := T.kin; He.free_ok X G (T.c.fact 27 (f := .free "len") rfl)
theorem cl_Room (T : Cxt K mg) : Cls K (He.ga K "Room") := He.cls_ok (T.c.fact 28 (f := .cls "Room") rfl)
theorem cl_Leaf (T : Cxt K mg) : Cls K (He.ga K "Leaf") := He.cls_ok (T.c.fact 29 (f := .cls "Leaf") rfl)
theorem na_Room_number (T : Cxt K mg) : NoAttr K (He.ga K "Room") "number" := He.noat_ok (T.c.fact 30 (f := .noat "Room" "number") rfl)
theorem na_Leaf_number (T : Cxt K mg) : NoAttr K (He.ga K "Leaf") "number" := He.noat_ok (T.c.fact 31 (f := .noat "Leaf" "number") rfl)
theorem me_Room_is_leaf (T : Cxt K mg) : Meth K (He.ga K "Room") "is_leaf" (He.ma K (He.ga K "Room") "is_leaf") := He.meth_ok (T.c.fact 32 (f := .meth "Room" "is_leaf") rfl)
theorem me_Leaf_is_leaf (T : Cxt K mg) : Meth K (He.ga K "Leaf") "is_leaf" (He.ma K (He.ga K "Leaf") "is_leaf") := He.meth_ok (T.c.fact 33 (f := .meth "Leaf" "is_leaf") rfl)
theorem g_Room (T : Cxt K mg) : mg "Room" = some (.ref (He.ga K "Room")) := let ⟨h, X, G⟩ := T.kin; He.glo_ok X G (T.c.fact 34 (f := .glo "Room") rfl)
theorem mk_Room (T : Cxt K mg) : Mk K (He.ga K "Room") (He.ma K (He.ga K "Room") "__init__") := He.mkr_ok (T.c.fact 35 (f := .mkr "Room") rfl)
theorem na_Leaf_rows (T : Cxt K mg) : NoAttr K (He.ga K "Leaf") "rows" := He.noat_ok (T.c.fact 36 (f := .noat "Leaf" "rows") rfl)
theorem f_list (T : Cxt K mg) : mg "list" = none := let ⟨h, X, G⟩ := T.kin; He.free_ok X G (T.c.fact 37 (f := .free "list") rfl)
theorem me_Leaf_told (T : Cxt K mg) : Meth K (He.ga K "Leaf") "told" (He.ma K (He.ga K "Leaf") "told") := He.meth_ok (T.c.fact 38 (f := .meth "Leaf" "told") rfl)
theorem g_Leaf (T : Cxt K mg) : mg "Leaf" = some (.ref (He.ga K "Leaf")) := let ⟨h, X, G⟩ := T.kin; He.glo_ok X G (T.c.fact 39 (f := .glo "Leaf") rfl)
theorem mk_Leaf (T : Cxt K mg) : Mk K (He.ga K "Leaf") (He.ma K (He.ga K "Leaf") "__init__") := He.mkr_ok (T.c.fact 40 (f := .mkr "Leaf") rfl)
theorem g_NoRule (T : Cxt K mg) : mg "NoRule" = some (.ref (He.ga K "NoRule")) := let ⟨h, X, G⟩ := T.kin; He.glo_ok X G (T.c.fact 41 (f := .glo "NoRule") rfl)
theorem ex_NoRule (T : Cxt K mg) : PySem.W.excIn K (He.ga K "NoRule") He.veBase "ValueError.__new__" = true ∧ PySem.W.keepIn K (.ref (He.ga K "NoRule")) = true ∧ PySem.W.subIn K (.ref (He.ga K "NoRule")) (.type "BaseException") = some true ∧ PySem.W.typeIn K (.ref (He.ga K "NoRule")) = some (.type "type") := He.exc_ok (T.c.fact 42 (f := .exc "NoRule") rfl)
theorem cl_Store (T : Cxt K mg) : Cls K (He.ga K "Store") := He.cls_ok (T.c.fact 43 (f := .cls "Store") rfl)
theorem na_Store_rule (T : Cxt K mg) : NoAttr K (He.ga K "Store") "rule" := He.noat_ok (T.c.fact 44 (f := .noat "Store" "rule") rfl)
theorem na_Store_last (T : Cxt K mg) : NoAttr K (He.ga K "Store") "last" := He.noat_ok (T.c.fact 45 (f := .noat "Store" "last") rfl)
theorem na_Store_kept (T : Cxt K mg) : NoAttr K (He.ga K "Store") "kept" := He.noat_ok (T.c.fact 46 (f := .noat "Store" "kept") rfl)
theorem na_Store_fresh (T : Cxt K mg) : NoAttr K (He.ga K "Store") "fresh" := He.noat_ok (T.c.fact 47 (f := .noat "Store" "fresh") rfl)
theorem na_Store_top (T : Cxt K mg) : NoAttr K (He.ga K "Store") "top" := He.noat_ok (T.c.fact 48 (f := .noat "Store" "top") rfl)
theorem na_Store_done (T : Cxt K mg) : NoAttr K (He.ga K "Store") "done" := He.noat_ok (T.c.fact 49 (f := .noat "Store" "done") rfl)
theorem na_Store_busy (T : Cxt K mg) : NoAttr K (He.ga K "Store") "busy" := He.noat_ok (T.c.fact 50 (f := .noat "Store" "busy") rfl)
theorem me_Store_image (T : Cxt K mg) : Meth K (He.ga K "Store") "image" (He.ma K (He.ga K "Store") "image") := He.meth_ok (T.c.fact 51 (f := .meth "Store" "image") rfl)
theorem cl_Kept (T : Cxt K mg) : Cls K (He.ga K "Kept") := He.cls_ok (T.c.fact 52 (f := .cls "Kept") rfl)
theorem na_Kept_store (T : Cxt K mg) : NoAttr K (He.ga K "Kept") "store" := He.noat_ok (T.c.fact 53 (f := .noat "Kept" "store") rfl)
theorem na_Kept_shelf (T : Cxt K mg) : NoAttr K (He.ga K "Kept") "shelf" := He.noat_ok (T.c.fact 54 (f := .noat "Kept" "shelf") rfl)
theorem na_Kept_series (T : Cxt K mg) : NoAttr K (He.ga K "Kept") "series" := He.noat_ok (T.c.fact 55 (f := .noat "Kept" "series") rfl)
theorem na_Kept_stands (T : Cxt K mg) : NoAttr K (He.ga K "Kept") "stands" := He.noat_ok (T.c.fact 56 (f := .noat "Kept" "stands") rfl)
theorem me_Kept_settle (T : Cxt K mg) : Meth K (He.ga K "Kept") "settle" (He.ma K (He.ga K "Kept") "settle") := He.meth_ok (T.c.fact 57 (f := .meth "Kept" "settle") rfl)
theorem g_Store (T : Cxt K mg) : mg "Store" = some (.ref (He.ga K "Store")) := let ⟨h, X, G⟩ := T.kin; He.glo_ok X G (T.c.fact 58 (f := .glo "Store") rfl)
theorem mk_Store (T : Cxt K mg) : Mk K (He.ga K "Store") (He.ma K (He.ga K "Store") "__init__") := He.mkr_ok (T.c.fact 59 (f := .mkr "Store") rfl)
theorem g_Kept (T : Cxt K mg) : mg "Kept" = some (.ref (He.ga K "Kept")) := let ⟨h, X, G⟩ := T.kin; He.glo_ok X G (T.c.fact 60 (f := .glo "Kept") rfl)
theorem mk_Kept (T : Cxt K mg) : Mk K (He.ga K "Kept") (He.ma K (He.ga K "Kept") "__init__") := He.mkr_ok (T.c.fact 61 (f := .mkr "Kept") rfl)
theorem g_NotBare (T : Cxt K mg) : mg "NotBare" = some (.ref (He.ga K "NotBare")) := let ⟨h, X, G⟩ := T.kin; He.glo_ok X G (T.c.fact 62 (f := .glo "NotBare") rfl)
theorem ex_NotBare (T : Cxt K mg) : PySem.W.excIn K (He.ga K "NotBare") He.veBase "ValueError.__new__" = true ∧ PySem.W.keepIn K (.ref (He.ga K "NotBare")) = true ∧ PySem.W.subIn K (.ref (He.ga K "NotBare")) (.type "BaseException") = some true ∧ PySem.W.typeIn K (.ref (He.ga K "NotBare")) = some (.type "type") := He.exc_ok (T.c.fact 63 (f := .exc "NotBare") rfl)
theorem cl_Shelf (T : Cxt K mg) : Cls K (He.ga K "Shelf") := He.cls_ok (T.c.fact 64 (f := .cls "Shelf") rfl)
theorem na_Shelf_texts (T : Cxt K mg) : NoAttr K (He.ga K "Shelf") "texts" := He.noat_ok (T.c.fact 65 (f := .noat "Shelf" "texts") rfl)
theorem na_Shelf_lines (T : Cxt K mg) : NoAttr K (He.ga K "Shelf") "lines" := He.noat_ok (T.c.fact 66 (f := .noat "Shelf" "lines") rfl)
theorem na_Shelf_writes (T : Cxt K mg) : NoAttr K (He.ga K "Shelf") "writes" := He.noat_ok (T.c.fact 67 (f := .noat "Shelf" "writes") rfl)
theorem na_Shelf_first_texts (T : Cxt K mg) : NoAttr K (He.ga K "Shelf") "first_texts" := He.noat_ok (T.c.fact 68 (f := .noat "Shelf" "first_texts") rfl)
theorem na_Shelf_first_lines (T : Cxt K mg) : NoAttr K (He.ga K "Shelf") "first_lines" := He.noat_ok (T.c.fact 69 (f := .noat "Shelf" "first_lines") rfl)
theorem i_LARGEST (T : Cxt K mg) : ∃ t, mg "LARGEST" = some (.int 1000000 t) := let ⟨h, X, G⟩ := T.kin; He.int_ok X G (T.c.fact 70 (f := .int "LARGEST" 1000000) rfl)
theorem g_NoPlace (T : Cxt K mg) : mg "NoPlace" = some (.ref (He.ga K "NoPlace")) := let ⟨h, X, G⟩ := T.kin; He.glo_ok X G (T.c.fact 71 (f := .glo "NoPlace") rfl)
theorem ex_NoPlace (T : Cxt K mg) : PySem.W.excIn K (He.ga K "NoPlace") He.veBase "ValueError.__new__" = true ∧ PySem.W.keepIn K (.ref (He.ga K "NoPlace")) = true ∧ PySem.W.subIn K (.ref (He.ga K "NoPlace")) (.type "BaseException") = some true ∧ PySem.W.typeIn K (.ref (He.ga K "NoPlace")) = some (.type "type") := He.exc_ok (T.c.fact 72 (f := .exc "NoPlace") rfl)
theorem me_Shelf_write (T : Cxt K mg) : Meth K (He.ga K "Shelf") "write" (He.ma K (He.ga K "Shelf") "write") := He.meth_ok (T.c.fact 73 (f := .meth "Shelf" "write") rfl)
theorem me_Shelf_line (T : Cxt K mg) : Meth K (He.ga K "Shelf") "line" (He.ma K (He.ga K "Shelf") "line") := He.meth_ok (T.c.fact 74 (f := .meth "Shelf" "line") rfl)
theorem me_Shelf_blot (T : Cxt K mg) : Meth K (He.ga K "Shelf") "blot" (He.ma K (He.ga K "Shelf") "blot") := He.meth_ok (T.c.fact 75 (f := .meth "Shelf" "blot") rfl)
theorem me_Shelf_page (T : Cxt K mg) : Meth K (He.ga K "Shelf") "page" (He.ma K (He.ga K "Shelf") "page") := He.meth_ok (T.c.fact 76 (f := .meth "Shelf" "page") rfl)
theorem f_sorted (T : Cxt K mg) : mg "sorted" = none := let ⟨h, X, G⟩ := T.kin; He.free_ok X G (T.c.fact 77 (f := .free "sorted") rfl)
theorem me_Shelf_places (T : Cxt K mg) : Meth K (He.ga K "Shelf") "places" (He.ma K (He.ga K "Shelf") "places") := He.meth_ok (T.c.fact 78 (f := .meth "Shelf" "places") rfl)
theorem me_Shelf_journal (T : Cxt K mg) : Meth K (He.ga K "Shelf") "journal" (He.ma K (He.ga K "Shelf") "journal") := He.meth_ok (T.c.fact 79 (f := .meth "Shelf" "journal") rfl)
theorem me_Shelf_log (T : Cxt K mg) : Meth K (He.ga K "Shelf") "log" (He.ma K (He.ga K "Shelf") "log") := He.meth_ok (T.c.fact 80 (f := .meth "Shelf" "log") rfl)
theorem f_dict (T : Cxt K mg) : mg "dict" = none := let ⟨h, X, G⟩ := T.kin; He.free_ok X G (T.c.fact 81 (f := .free "dict") rfl)
theorem f_all (T : Cxt K mg) : mg "all" = none := let ⟨h, X, G⟩ := T.kin; He.free_ok X G (T.c.fact 82 (f := .free "all") rfl)
theorem f_zip (T : Cxt K mg) : mg "zip" = none := let ⟨h, X, G⟩ := T.kin; He.free_ok X G (T.c.fact 83 (f := .free "zip") rfl)
theorem g_FallError (T : Cxt K mg) : mg "FallError" = some (.ref (He.ga K "FallError")) := let ⟨h, X, G⟩ := T.kin; He.glo_ok X G (T.c.fact 84 (f := .glo "FallError") rfl)
theorem ex_FallError (T : Cxt K mg) : PySem.W.excIn K (He.ga K "FallError") He.veBase "ValueError.__new__" = true ∧ PySem.W.keepIn K (.ref (He.ga K "FallError")) = true ∧ PySem.W.subIn K (.ref (He.ga K "FallError")) (.type "BaseException") = some true ∧ PySem.W.typeIn K (.ref (He.ga K "FallError")) = some (.type "type") := He.exc_ok (T.c.fact 85 (f := .exc "FallError") rfl)
theorem f_ValueError (T : Cxt K mg) : mg "ValueError" = none := let ⟨h, X, G⟩ := T.kin; He.free_ok X G (T.c.fact 86 (f := .free "ValueError") rfl)
theorem g_Shelf (T : Cxt K mg) : mg "Shelf" = some (.ref (He.ga K "Shelf")) := let ⟨h, X, G⟩ := T.kin; He.glo_ok X G (T.c.fact 87 (f := .glo "Shelf") rfl)
theorem mk_Shelf (T : Cxt K mg) : Mk K (He.ga K "Shelf") (He.ma K (He.ga K "Shelf") "__init__") := He.mkr_ok (T.c.fact 88 (f := .mkr "Shelf") rfl)
theorem em_NoRule_NoRule (T : Cxt K mg) : PySem.W.exmOne K (.ref (He.ga K "NoRule")) (.ref (He.ga K "NoRule")) = some true := He.exm_ok (T.c.fact 89 (f := .exm "NoRule" "NoRule" true) rfl)
theorem em_NotBare_NoRule (T : Cxt K mg) : PySem.W.exmOne K (.ref (He.ga K "NotBare")) (.ref (He.ga K "NoRule")) = some false := He.exm_ok (T.c.fact 90 (f := .exm "NotBare" "NoRule" false) rfl)
theorem em_NotBare_FallError (T : Cxt K mg) : PySem.W.exmOne K (.ref (He.ga K "NotBare")) (.ref (He.ga K "FallError")) = some true := He.exm_ok (T.c.fact 91 (f := .exm "NotBare" "FallError" true) rfl)
theorem x_PLANS (T : Cxt K mg) : ∀ H, SqT K H (He.ga K "PLANS") [.str "fullest", .str "eldest"] := fun H => He.tupB_ok (vs := [.str "fullest", .str "eldest"]) (H := H) <| (List.all_eq_true.mp T.r.more _ (List.mem_of_getElem? (i := 0) rfl))
theorem x_cfn_Room_zzinitzz (T : Cxt K mg) : CFn K (He.ga K "Room") "__init__" (He.ma K (He.ga K "Room") "__init__") := cfnB_ok (List.all_eq_true.mp T.r.more _ (List.mem_of_getElem? (i := 1) rfl))
theorem x_xc_NoRule (T : Cxt K mg) : ExcC K (He.ga K "NoRule") := excCB_ok (List.all_eq_true.mp T.r.more _ (List.mem_of_getElem? (i := 2) rfl))
theorem x_xc_NotBare (T : Cxt K mg) : ExcC K (He.ga K "NotBare") := excCB_ok (List.all_eq_true.mp T.r.more _ (List.mem_of_getElem? (i := 3) rfl))
theorem x_kit_NoRule_NotBare (T : Cxt K mg) : PySem.W.kitOne K (.ref (He.ga K "NoRule")) (.ref (He.ga K "NotBare")) = some false := of_decide_eq_true (List.all_eq_true.mp T.r.more _ (List.mem_of_getElem? (i := 4) rfl))
theorem x_kit_NoRule_ValueError (T : Cxt K mg) : PySem.W.kitOne K (.ref (He.ga K "NoRule")) (.type "ValueError") = some true := of_decide_eq_true (List.all_eq_true.mp T.r.more _ (List.mem_of_getElem? (i := 5) rfl))
theorem x_kit_NotBare_ValueError (T : Cxt K mg) : PySem.W.kitOne K (.ref (He.ga K "NotBare")) (.type "ValueError") = some true := of_decide_eq_true (List.all_eq_true.mp T.r.more _ (List.mem_of_getElem? (i := 6) rfl))
theorem x_inh_Leaf_is_leaf (T : Cxt K mg) : He.ma K (He.ga K "Leaf") "is_leaf" = He.ma K (He.ga K "Room") "is_leaf" := of_decide_eq_true (List.all_eq_true.mp T.r.more _ (List.mem_of_getElem? (i := 7) rfl))
end
end K84
set_option maxHeartbeats 0
namespace K84
open PySem PySem.Spec PyProof.Rows L2 DK
abbrev RW : PySem.W.OpenRow := PySem.W.OpenLaw.row PySem.Challenge.rw_notefall_k84_begun_on_a_bare_shelf
abbrev hk : PySem.W.Hook := hookR 900 fa fn ex
def ob (s : PySem.W.SharedT) : He.AlD × Bool := obsR 900 fa fn ex (HandSHeadRun.getT s)
theorem ob_eq (s : PySem.W.SharedT) : ob s = hk.obs s.abs := obsR_eq (HandSHeadRun.getT_eq s)
theorem run (w : World) : HandSHeadRun.RunEq RW (PySem.W.view RW.prog [72]) hk ob 20000 loose w := by
  intro os
  kernel_rfl
end K84
set_option maxHeartbeats 4000000

set_option Elab.async false
set_option linter.all false
set_option maxRecDepth 100000
set_option maxHeartbeats 4000000
open PySem PySem.Spec PyProof.Rows L2 DK
/-- places in a list written out -/
local macro_rules | `(tactic| walk_at "setat") => `(tactic| with_reducible (first | refine gv_nameA SetAt.z ?_ | refine gv_nameA (SetAt.s SetAt.z) ?_ | refine gv_nameA (SetAt.s (SetAt.s SetAt.z)) ?_ | refine gv_nameA (SetAt.s (SetAt.s (SetAt.s SetAt.z))) ?_ | refine gv_nameA (SetAt.s (SetAt.s (SetAt.s (SetAt.s SetAt.z)))) ?_ | refine gv_nameA (SetAt.s (SetAt.s (SetAt.s (SetAt.s (SetAt.s SetAt.z))))) ?_ | refine gv_nameA (SetAt.s (SetAt.s (SetAt.s (SetAt.s (SetAt.s (SetAt.s SetAt.z)))))) ?_ | refine gv_nameA (SetAt.s (SetAt.s (SetAt.s (SetAt.s (SetAt.s (SetAt.s (SetAt.s SetAt.z))))))) ?_ | refine gv_nameA (SetAt.s (SetAt.s (SetAt.s (SetAt.s (SetAt.s (SetAt.s (SetAt.s (SetAt.s SetAt.z)))))))) ?_ | refine gv_nameA (SetAt.s (SetAt.s (SetAt.s (SetAt.s (SetAt.s (SetAt.s (SetAt.s (SetAt.s (SetAt.s SetAt.z))))))))) ?_ | refine gv_nameA (SetAt.s (SetAt.s (SetAt.s (SetAt.s (SetAt.s (SetAt.s (SetAt.s (SetAt.s (SetAt.s (SetAt.s SetAt.z)))))))))) ?_ | refine gv_nameA (SetAt.s (SetAt.s (SetAt.s (SetAt.s (SetAt.s (SetAt.s (SetAt.s (SetAt.s (SetAt.s (SetAt.s (SetAt.s SetAt.z))))))))))) ?_ | refine gv_nameA (SetAt.s (SetAt.s (SetAt.s (SetAt.s (SetAt.s (SetAt.s (SetAt.s (SetAt.s (SetAt.s (SetAt.s (SetAt.s (SetAt.s SetAt.z)))))))))))) ?_ | refine gv_nameA (SetAt.s (SetAt.s (SetAt.s (SetAt.s (SetAt.s (SetAt.s (SetAt.s (SetAt.s (SetAt.s (SetAt.s (SetAt.s (SetAt.s (SetAt.s SetAt.z))))))))))))) ?_ | refine gv_nameA (SetAt.s (SetAt.s (SetAt.s (SetAt.s (SetAt.s (SetAt.s (SetAt.s (SetAt.s (SetAt.s (SetAt.s (SetAt.s (SetAt.s (SetAt.s (SetAt.s SetAt.z)))))))))))))) ?_ | refine gv_nameA (SetAt.s (SetAt.s (SetAt.s (SetAt.s (SetAt.s (SetAt.s (SetAt.s (SetAt.s (SetAt.s (SetAt.s (SetAt.s (SetAt.s (SetAt.s (SetAt.s (SetAt.s SetAt.z))))))))))))))) ?_ | refine gv_nameA (SetAt.s (SetAt.s (SetAt.s (SetAt.s (SetAt.s (SetAt.s (SetAt.s (SetAt.s (SetAt.s (SetAt.s (SetAt.s (SetAt.s (SetAt.s (SetAt.s (SetAt.s (SetAt.s SetAt.z)))))))))))))))) ?_ | refine gv_nameA (SetAt.s (SetAt.s (SetAt.s (SetAt.s (SetAt.s (SetAt.s (SetAt.s (SetAt.s (SetAt.s (SetAt.s (SetAt.s (SetAt.s (SetAt.s (SetAt.s (SetAt.s (SetAt.s (SetAt.s SetAt.z))))))))))))))))) ?_ | refine gv_nameA (SetAt.s (SetAt.s (SetAt.s (SetAt.s (SetAt.s (SetAt.s (SetAt.s (SetAt.s (SetAt.s (SetAt.s (SetAt.s (SetAt.s (SetAt.s (SetAt.s (SetAt.s (SetAt.s (SetAt.s (SetAt.s SetAt.z)))))))))))))))))) ?_ | refine gv_nameA (SetAt.s (SetAt.s (SetAt.s (SetAt.s (SetAt.s (SetAt.s (SetAt.s (SetAt.s (SetAt.s (SetAt.s (SetAt.s (SetAt.s (SetAt.s (SetAt.s (SetAt.s (SetAt.s (SetAt.s (SetAt.s (SetAt.s SetAt.z))))))))))))))))))) ?_ | refine gv_nameA (SetAt.s (SetAt.s (SetAt.s (SetAt.s (SetAt.s (SetAt.s (SetAt.s (SetAt.s (SetAt.s (SetAt.s (SetAt.s (SetAt.s (SetAt.s (SetAt.s (SetAt.s (SetAt.s (SetAt.s (SetAt.s (SetAt.s (SetAt.s SetAt.z)))))))))))))))))))) ?_ | refine gv_nameA (SetAt.s (SetAt.s (SetAt.s (SetAt.s (SetAt.s (SetAt.s (SetAt.s (SetAt.s (SetAt.s (SetAt.s (SetAt.s (SetAt.s (SetAt.s (SetAt.s (SetAt.s (SetAt.s (SetAt.s (SetAt.s (SetAt.s (SetAt.s (SetAt.s SetAt.z))))))))))))))))))))) ?_ | refine gv_nameA (SetAt.s (SetAt.s (SetAt.s (SetAt.s (SetAt.s (SetAt.s (SetAt.s (SetAt.s (SetAt.s (SetAt.s (SetAt.s (SetAt.s (SetAt.s (SetAt.s (SetAt.s (SetAt.s (SetAt.s (SetAt.s (SetAt.s (SetAt.s (SetAt.s (SetAt.s SetAt.z)))))))))))))))))))))) ?_ | refine gv_nameA (SetAt.s (SetAt.s (SetAt.s (SetAt.s (SetAt.s (SetAt.s (SetAt.s (SetAt.s (SetAt.s (SetAt.s (SetAt.s (SetAt.s (SetAt.s (SetAt.s (SetAt.s (SetAt.s (SetAt.s (SetAt.s (SetAt.s (SetAt.s (SetAt.s (SetAt.s (SetAt.s SetAt.z))))))))))))))))))))))) ?_))
local macro_rules | `(tactic| walk_at "at") => `(tactic| with_reducible (first | refine ed_varA At.z ?_ | refine ed_varA (At.s At.z) ?_ | refine ed_varA (At.s (At.s At.z)) ?_ | refine ed_varA (At.s (At.s (At.s At.z))) ?_ | refine ed_varA (At.s (At.s (At.s (At.s At.z)))) ?_ | refine ed_varA (At.s (At.s (At.s (At.s (At.s At.z))))) ?_ | refine ed_varA (At.s (At.s (At.s (At.s (At.s (At.s At.z)))))) ?_ | refine ed_varA (At.s (At.s (At.s (At.s (At.s (At.s (At.s At.z))))))) ?_ | refine ed_varA (At.s (At.s (At.s (At.s (At.s (At.s (At.s (At.s At.z)))))))) ?_ | refine ed_varA (At.s (At.s (At.s (At.s (At.s (At.s (At.s (At.s (At.s At.z))))))))) ?_ | refine ed_varA (At.s (At.s (At.s (At.s (At.s (At.s (At.s (At.s (At.s (At.s At.z)))))))))) ?_ | refine ed_varA (At.s (At.s (At.s (At.s (At.s (At.s (At.s (At.s (At.s (At.s (At.s At.z))))))))))) ?_ | refine ed_varA (At.s (At.s (At.s (At.s (At.s (At.s (At.s (At.s (At.s (At.s (At.s (At.s At.z)))))))))))) ?_ | refine ed_varA (At.s (At.s (At.s (At.s (At.s (At.s (At.s (At.s (At.s (At.s (At.s (At.s (At.s At.z))))))))))))) ?_ | refine ed_varA (At.s (At.s (At.s (At.s (At.s (At.s (At.s (At.s (At.s (At.s (At.s (At.s (At.s (At.s At.z)))))))))))))) ?_ | refine ed_varA (At.s (At.s (At.s (At.s (At.s (At.s (At.s (At.s (At.s (At.s (At.s (At.s (At.s (At.s (At.s At.z))))))))))))))) ?_ | refine ed_varA (At.s (At.s (At.s (At.s (At.s (At.s (At.s (At.s (At.s (At.s (At.s (At.s (At.s (At.s (At.s (At.s At.z)))))))))))))))) ?_ | refine ed_varA (At.s (At.s (At.s (At.s (At.s (At.s (At.s (At.s (At.s (At.s (At.s (At.s (At.s (At.s (At.s (At.s (At.s At.z))))))))))))))))) ?_ | refine ed_varA (At.s (At.s (At.s (At.s (At.s (At.s (At.s (At.s (At.s (At.s (At.s (At.s (At.s (At.s (At.s (At.s (At.s (At.s At.z)))))))))))))))))) ?_ | refine ed_varA (At.s (At.s (At.s (At.s (At.s (At.s (At.s (At.s (At.s (At.s (At.s (At.s (At.s (At.s (At.s (At.s (At.s (At.s (At.s At.z))))))))))))))))))) ?_ | refine ed_varA (At.s (At.s (At.s (At.s (At.s (At.s (At.s (At.s (At.s (At.s (At.s (At.s (At.s (At.s (At.s (At.s (At.s (At.s (At.s (At.s At.z)))))))))))))))))))) ?_ | refine ed_varA (At.s (At.s (At.s (At.s (At.s (At.s (At.s (At.s (At.s (At.s (At.s (At.s (At.s (At.s (At.s (At.s (At.s (At.s (At.s (At.s (At.s At.z))))))))))))))))))))) ?_ | refine ed_varA (At.s (At.s (At.s (At.s (At.s (At.s (At.s (At.s (At.s (At.s (At.s (At.s (At.s (At.s (At.s (At.s (At.s (At.s (At.s (At.s (At.s (At.s At.z)))))))))))))))))))))) ?_ | refine ed_varA (At.s (At.s (At.s (At.s (At.s (At.s (At.s (At.s (At.s (At.s (At.s (At.s (At.s (At.s (At.s (At.s (At.s (At.s (At.s (At.s (At.s (At.s (At.s At.z))))))))))))))))))))))) ?_))
local macro_rules | `(tactic| walk_at "d") => `(tactic| first
  | (with_reducible refine sv_seq ?_) | (with_reducible refine sv_if ?_) | (with_reducible refine sv_asg ?_) | (with_reducible refine sv_ret ?_)
  | ((with_reducible show GvD _ _ (gName _) _ _ _ _); walk_at "setat") | ((with_reducible refine' gv_tup ?h ?_); (case h => rfl)) | (with_reducible refine gs_cons ?_) | (with_reducible refine gs_nil ?_)
  | ((with_reducible show EvD _ _ (tVar _) _ _ _); walk_at "at") | (with_reducible refine ed_c ?_) | (with_reducible refine ed_op ?_) | (with_reducible refine ed_cb ?_)
  | (with_reducible refine ea_cons ?_) | (with_reducible refine ea_nil ?_)
  | (with_reducible refine ed_andV ?_) | (with_reducible refine ed_orV ?_) | (with_reducible refine ed_notV ?_) | (with_reducible refine ed_chain ?_)
  | (with_reducible refine et_test ?_) | (with_reducible refine et_B ?_) | (with_reducible refine et_and ?_) | (with_reducible refine et_or ?_) | (with_reducible refine et_not ?_)
  | (with_reducible refine ed_if ?_) | (with_reducible refine ed_un ?_)
  | (with_reducible refine rv_I0 ?_) | (with_reducible refine rv_addI ?_) | (with_reducible refine ru_neg ?_)
  | ((with_reducible refine rc_isInt ?h ?_); (case h => first | assumption | rfl)) | ((with_reducible refine rc_isBool ?h ?_); (case h => first | assumption | rfl)) | ((with_reducible refine rc_isTup ?h ?_); (case h => first | assumption | rfl))
  | ((with_reducible refine rc_isStr ?h ?_); (case h => first | assumption | rfl)) | ((with_reducible refine rc_isLst ?h ?_); (case h => first | assumption | rfl)) | ((with_reducible refine rc_isDic ?h ?_); (case h => first | assumption | rfl))
  | (with_reducible refine rc_lenT ?_) | (with_reducible refine rc_lenL ?_)
  | ((with_reducible refine rv_eqT ?h ?_); (case h => rfl)) | ((with_reducible refine rv_eqF ?h ?n ?_); (case h => rfl); (case n => decide)) | ((with_reducible refine rv_neF ?h ?_); (case h => rfl)) | ((with_reducible refine rv_neT ?h ?n ?_); (case h => rfl); (case n => decide))
  | ((with_reducible refine rv_neU ?h ?_); (case h => rfl)) | ((with_reducible refine rv_eqU ?h ?_); (case h => rfl))
  | (with_reducible refine rv_isN ?_) | (with_reducible refine rv_notN ?_)
  | (with_reducible refine ed_tup ?_) | (with_reducible refine ed_lst ?_)
  | ((with_reducible refine And.intro ?h ?_); (case h => (show List.length _ ≤ 1000000); first | decide | (simp only [List.length_append, List.length_cons, List.length_nil]; omega) | (simp; done)))
  | ((with_reducible refine' rv_ixT ?h ?_); (case h => rfl)) | ((with_reducible refine' rv_ixL ?h ?_); (case h => rfl))
  | (with_reducible refine rc_intB ?_) | (with_reducible refine rc_strS ?_)
  | (with_reducible refine sv_next ?_) | (with_reducible refine sv_app ?_) | (with_reducible refine sv_ext ?_) | (with_reducible refine sv_dput ?_) | (with_reducible refine sv_drop ?_)
  | (with_reducible refine ⟨rfl, ?_⟩) | (with_reducible refine ⟨_, rfl, ?_⟩) | (with_reducible refine ⟨fun hb => ?_, fun hb => ?_⟩)
  | ((with_reducible show RcD _ _ (rLenU _) [dR _] _ _); first | refine rc_lenO (i := 0) rfl ?_ | refine rc_lenO (i := 1) rfl ?_ | refine rc_lenO (i := 2) rfl ?_ | refine rc_lenO (i := 3) rfl ?_ | refine rc_lenO (i := 4) rfl ?_ | refine rc_lenO (i := 5) rfl ?_ | refine rc_lenO (i := 6) rfl ?_ | refine rc_lenO (i := 7) rfl ?_ | refine rc_lenO (i := 8) rfl ?_ | refine rc_lenO (i := 9) rfl ?_ | refine rc_lenO (i := 10) rfl ?_ | refine rc_lenO (i := 11) rfl ?_ | refine rc_lenO (i := 12) rfl ?_ | refine rc_lenO (i := 13) rfl ?_)
  | ((with_reducible show RvD _ _ (rIx _) (dR _) (dI _) _ _); first | refine rv_ixO (n := 0) rfl rfl ?_ | refine rv_ixO (n := 1) rfl rfl ?_ | refine rv_ixO (n := 2) rfl rfl ?_ | refine rv_ixO (n := 3) rfl rfl ?_ | refine rv_ixO (n := 4) rfl rfl ?_ | refine rv_ixO (n := 5) rfl rfl ?_ | refine rv_ixO (n := 6) rfl rfl ?_ | refine rv_ixO (n := 7) rfl rfl ?_ | refine rv_ixO (n := 8) rfl rfl ?_ | refine rv_ixO (n := 9) rfl rfl ?_ | refine rv_ixO (n := 10) rfl rfl ?_ | refine rv_ixO (n := 11) rfl rfl ?_ | refine rv_ixO (n := 12) rfl rfl ?_ | refine rv_ixO (n := 13) rfl rfl ?_)
  | ((with_reducible show RcD _ _ (rTupU _) [dR _] _ _); first | refine rc_tupO (i := 0) rfl ?_ | refine rc_tupO (i := 1) rfl ?_ | refine rc_tupO (i := 2) rfl ?_ | refine rc_tupO (i := 3) rfl ?_ | refine rc_tupO (i := 4) rfl ?_ | refine rc_tupO (i := 5) rfl ?_ | refine rc_tupO (i := 6) rfl ?_ | refine rc_tupO (i := 7) rfl ?_ | refine rc_tupO (i := 8) rfl ?_ | refine rc_tupO (i := 9) rfl ?_ | refine rc_tupO (i := 10) rfl ?_ | refine rc_tupO (i := 11) rfl ?_ | refine rc_tupO (i := 12) rfl ?_ | refine rc_tupO (i := 13) rfl ?_)
  | (with_reducible refine ed_sl ?_) | (with_reducible refine eo_none ?_) | (with_reducible refine eo_some ?_) | (with_reducible refine rc_listT ?_)
  | (with_reducible refine sv_rz ?_) | (with_reducible refine gv_setL ?_) | (with_reducible refine ed_oAdd ?_) | (with_reducible refine ed_oListT ?_) | ((with_reducible refine rv_I ?h ?_); (case h => first | (show (0:Int) < _; omega) | exact Or.inr ⟨by omega, by omega⟩ | exact Or.inl ⟨by omega, by omega⟩ | exact ⟨by omega, by decide, by decide⟩ | exact ⟨by omega, by decide⟩ | (exact ⟨by omega, log2_lt (by omega) (by omega)⟩))) | (with_reducible refine forU_nil ?_) | (with_reducible refine forU_cons ?_) | (with_reducible refine ed_din ?_) | (with_reducible refine ed_dget ?_) | (with_reducible refine ed_rev ?_) | (with_reducible refine ed_tF ?_) | (with_reducible refine ed_tW ?_) | (with_reducible refine ed_oL ?_) | (with_reducible refine ed_oD fun _ _ => ?_) | ((with_reducible refine rv_addSS ?h ?_); (case h => first | assumption | omega)) | (with_reducible refine rv_addII ?_) | ((with_reducible refine rv_addS ?h ?_); (case h => first | assumption | omega)) | (with_reducible refine ed_fldA ?_) | (with_reducible refine sv_fldA ?_) | (with_reducible refine sv_fldaugA ?_) | (with_reducible refine sv_aug ?h ?_)
  | ((show ∀ p, Bs.H _ p = none → _); intro _ _) | (with_reducible refine ed_m1 ?_) | (with_reducible refine ⟨⟨_, rfl⟩, ?_⟩)
  | (with_reducible refine gv_name ?_) | ((with_reducible refine' ed_var ?h ?_); (case h => rfl))
  | walk_at "own"
  | fail "d: no rule")
/-- an owned thing by its place, its field by its place -/
local macro_rules | `(tactic| walk_at "own") => `(tactic| first
  | refine ⟨_, _, InsD.own 0 rfl, by assumption, by assumption, ?_⟩
  | refine ⟨_, _, InsD.own 1 rfl, by assumption, by assumption, ?_⟩
  | refine ⟨_, _, InsD.own 2 rfl, by assumption, by assumption, ?_⟩
  | refine ⟨_, _, InsD.own 3 rfl, by assumption, by assumption, ?_⟩
  | refine ⟨_, _, InsD.own 4 rfl, by assumption, by assumption, ?_⟩
  | refine ⟨_, _, InsD.own 5 rfl, by assumption, by assumption, ?_⟩
  | refine ⟨_, _, InsD.own 6 rfl, by assumption, by assumption, ?_⟩
  | refine ⟨_, _, InsD.own 7 rfl, by assumption, by assumption, ?_⟩
  | refine ⟨_, _, InsD.own 8 rfl, by assumption, by assumption, ?_⟩
  | refine ⟨_, _, InsD.own 9 rfl, by assumption, by assumption, ?_⟩
  | refine ⟨_, _, InsD.own 10 rfl, by assumption, by assumption, ?_⟩
  | refine ⟨_, _, InsD.own 11 rfl, by assumption, by assumption, ?_⟩
  | refine ⟨_, _, InsD.own 12 rfl, by assumption, by assumption, ?_⟩
  | refine ⟨_, _, InsD.own 13 rfl, by assumption, by assumption, ?_⟩
  | refine ⟨_, _, InsD.dat, by assumption, by assumption, ?_⟩
  | refine ⟨_, ⟨0, rfl, rfl⟩, ?_⟩
  | refine ⟨_, ⟨1, rfl, rfl⟩, ?_⟩
  | refine ⟨_, ⟨2, rfl, rfl⟩, ?_⟩
  | refine ⟨_, ⟨3, rfl, rfl⟩, ?_⟩
  | refine ⟨_, ⟨4, rfl, rfl⟩, ?_⟩
  | refine ⟨_, ⟨5, rfl, rfl⟩, ?_⟩
  | refine ⟨_, ⟨6, rfl, rfl⟩, ?_⟩
  | refine ⟨_, ⟨7, rfl, rfl⟩, ?_⟩
  | refine ⟨_, ⟨8, rfl, rfl⟩, ?_⟩
  | refine ⟨_, _, 0, _, rfl, rfl, by assumption, by assumption, rfl, ?_⟩
  | refine ⟨_, _, 1, _, rfl, rfl, by assumption, by assumption, rfl, ?_⟩
  | refine ⟨_, _, 2, _, rfl, rfl, by assumption, by assumption, rfl, ?_⟩
  | refine ⟨_, _, 3, _, rfl, rfl, by assumption, by assumption, rfl, ?_⟩
  | refine ⟨_, _, 4, _, rfl, rfl, by assumption, by assumption, rfl, ?_⟩
  | refine ⟨_, _, 5, _, rfl, rfl, by assumption, by assumption, rfl, ?_⟩
  | refine ⟨_, _, 6, _, rfl, rfl, by assumption, by assumption, rfl, ?_⟩
  | refine ⟨_, _, 7, _, rfl, rfl, by assumption, by assumption, rfl, ?_⟩
  | refine ⟨_, _, 8, _, rfl, rfl, by assumption, by assumption, rfl, ?_⟩
  | refine ⟨_, _, 9, _, rfl, rfl, by assumption, by assumption, rfl, ?_⟩
  | refine ⟨_, _, 10, _, rfl, rfl, by assumption, by assumption, rfl, ?_⟩
  | refine ⟨_, _, 11, _, rfl, rfl, by assumption, by assumption, rfl, ?_⟩
  | refine ⟨_, _, 12, _, rfl, rfl, by assumption, by assumption, rfl, ?_⟩
  | refine ⟨_, _, 13, _, rfl, rfl, by assumption, by assumption, rfl, ?_⟩
  | refine ⟨⟨0, _, rfl⟩, ?_⟩
  | refine ⟨⟨1, _, rfl⟩, ?_⟩
  | refine ⟨⟨2, _, rfl⟩, ?_⟩
  | refine ⟨⟨3, _, rfl⟩, ?_⟩
  | refine ⟨⟨4, _, rfl⟩, ?_⟩
  | refine ⟨⟨5, _, rfl⟩, ?_⟩
  | refine ⟨⟨6, _, rfl⟩, ?_⟩
  | refine ⟨⟨7, _, rfl⟩, ?_⟩
  | refine ⟨⟨8, _, rfl⟩, ?_⟩
  | refine ⟨⟨9, _, rfl⟩, ?_⟩
  | refine ⟨0, _, _, rfl, rfl, (by first | assumption | decide | omega | (simp only [List.length_append, List.length_cons, List.length_nil]; omega) | (simp; done)), ?_⟩
  | refine ⟨1, _, _, rfl, rfl, (by first | assumption | decide | omega | (simp only [List.length_append, List.length_cons, List.length_nil]; omega) | (simp; done)), ?_⟩
  | refine ⟨2, _, _, rfl, rfl, (by first | assumption | decide | omega | (simp only [List.length_append, List.length_cons, List.length_nil]; omega) | (simp; done)), ?_⟩
  | refine ⟨3, _, _, rfl, rfl, (by first | assumption | decide | omega | (simp only [List.length_append, List.length_cons, List.length_nil]; omega) | (simp; done)), ?_⟩
  | refine ⟨4, _, _, rfl, rfl, (by first | assumption | decide | omega | (simp only [List.length_append, List.length_cons, List.length_nil]; omega) | (simp; done)), ?_⟩
  | refine ⟨5, _, _, rfl, rfl, (by first | assumption | decide | omega | (simp only [List.length_append, List.length_cons, List.length_nil]; omega) | (simp; done)), ?_⟩
  | refine ⟨6, _, _, rfl, rfl, (by first | assumption | decide | omega | (simp only [List.length_append, List.length_cons, List.length_nil]; omega) | (simp; done)), ?_⟩
  | refine ⟨7, _, _, rfl, rfl, (by first | assumption | decide | omega | (simp only [List.length_append, List.length_cons, List.length_nil]; omega) | (simp; done)), ?_⟩
  | refine ⟨8, _, _, rfl, rfl, (by first | assumption | decide | omega | (simp only [List.length_append, List.length_cons, List.length_nil]; omega) | (simp; done)), ?_⟩
  | refine ⟨9, _, _, rfl, rfl, (by first | assumption | decide | omega | (simp only [List.length_append, List.length_cons, List.length_nil]; omega) | (simp; done)), ?_⟩
  | refine ⟨_, 0, _, .inl _, rfl, rfl, rfl, (by first | assumption | decide | omega | (simp only [List.length_append, List.length_cons, List.length_nil]; omega) | (simp; done)), ?_⟩
  | refine ⟨_, 1, _, .inl _, rfl, rfl, rfl, (by first | assumption | decide | omega | (simp only [List.length_append, List.length_cons, List.length_nil]; omega) | (simp; done)), ?_⟩
  | refine ⟨_, 2, _, .inl _, rfl, rfl, rfl, (by first | assumption | decide | omega | (simp only [List.length_append, List.length_cons, List.length_nil]; omega) | (simp; done)), ?_⟩
  | refine ⟨_, 3, _, .inl _, rfl, rfl, rfl, (by first | assumption | decide | omega | (simp only [List.length_append, List.length_cons, List.length_nil]; omega) | (simp; done)), ?_⟩
  | refine ⟨_, 4, _, .inl _, rfl, rfl, rfl, (by first | assumption | decide | omega | (simp only [List.length_append, List.length_cons, List.length_nil]; omega) | (simp; done)), ?_⟩
  | refine ⟨_, 5, _, .inl _, rfl, rfl, rfl, (by first | assumption | decide | omega | (simp only [List.length_append, List.length_cons, List.length_nil]; omega) | (simp; done)), ?_⟩
  | refine ⟨_, 6, _, .inl _, rfl, rfl, rfl, (by first | assumption | decide | omega | (simp only [List.length_append, List.length_cons, List.length_nil]; omega) | (simp; done)), ?_⟩
  | refine ⟨_, 7, _, .inl _, rfl, rfl, rfl, (by first | assumption | decide | omega | (simp only [List.length_append, List.length_cons, List.length_nil]; omega) | (simp; done)), ?_⟩
  | refine ⟨_, 8, _, .inl _, rfl, rfl, rfl, (by first | assumption | decide | omega | (simp only [List.length_append, List.length_cons, List.length_nil]; omega) | (simp; done)), ?_⟩
  | refine ⟨_, 9, _, .inl _, rfl, rfl, rfl, (by first | assumption | decide | omega | (simp only [List.length_append, List.length_cons, List.length_nil]; omega) | (simp; done)), ?_⟩
  | refine ⟨0, _, _, rfl, rfl, by assumption, ?_⟩
  | refine ⟨1, _, _, rfl, rfl, by assumption, ?_⟩
  | refine ⟨2, _, _, rfl, rfl, by assumption, ?_⟩
  | refine ⟨3, _, _, rfl, rfl, by assumption, ?_⟩
  | refine ⟨4, _, _, rfl, rfl, by assumption, ?_⟩
  | refine ⟨5, _, _, rfl, rfl, by assumption, ?_⟩
  | refine ⟨6, _, _, rfl, rfl, by assumption, ?_⟩
  | refine ⟨7, _, _, rfl, rfl, by assumption, ?_⟩
  | refine ⟨8, _, _, rfl, rfl, by assumption, ?_⟩
  | refine ⟨9, _, _, rfl, rfl, by assumption, ?_⟩
  | refine ⟨10, _, _, rfl, rfl, by assumption, ?_⟩
  | refine ⟨11, _, _, rfl, rfl, by assumption, ?_⟩
  | refine ⟨_, .inl _, .inl ⟨_, 0, rfl, rfl⟩, rfl, ?_⟩
  | refine ⟨_, .inl _, _, .inl ⟨_, 0, rfl, rfl⟩, rfl, rfl, ?_⟩
  | refine ⟨_, .inl _, .inl ⟨_, 1, rfl, rfl⟩, rfl, ?_⟩
  | refine ⟨_, .inl _, _, .inl ⟨_, 1, rfl, rfl⟩, rfl, rfl, ?_⟩
  | refine ⟨_, .inl _, .inl ⟨_, 2, rfl, rfl⟩, rfl, ?_⟩
  | refine ⟨_, .inl _, _, .inl ⟨_, 2, rfl, rfl⟩, rfl, rfl, ?_⟩
  | refine ⟨_, .inl _, .inl ⟨_, 3, rfl, rfl⟩, rfl, ?_⟩
  | refine ⟨_, .inl _, _, .inl ⟨_, 3, rfl, rfl⟩, rfl, rfl, ?_⟩
  | refine ⟨_, .inl _, .inl ⟨_, 4, rfl, rfl⟩, rfl, ?_⟩
  | refine ⟨_, .inl _, _, .inl ⟨_, 4, rfl, rfl⟩, rfl, rfl, ?_⟩
  | refine ⟨_, .inl _, .inl ⟨_, 5, rfl, rfl⟩, rfl, ?_⟩
  | refine ⟨_, .inl _, _, .inl ⟨_, 5, rfl, rfl⟩, rfl, rfl, ?_⟩
  | refine ⟨_, .inl _, .inl ⟨_, 6, rfl, rfl⟩, rfl, ?_⟩
  | refine ⟨_, .inl _, _, .inl ⟨_, 6, rfl, rfl⟩, rfl, rfl, ?_⟩
  | refine ⟨_, .inl _, .inl ⟨_, 7, rfl, rfl⟩, rfl, ?_⟩
  | refine ⟨_, .inl _, _, .inl ⟨_, 7, rfl, rfl⟩, rfl, rfl, ?_⟩
  | refine ⟨_, .inl _, .inl ⟨_, 8, rfl, rfl⟩, rfl, ?_⟩
  | refine ⟨_, .inl _, _, .inl ⟨_, 8, rfl, rfl⟩, rfl, rfl, ?_⟩
  | refine ⟨_, .inl _, .inl ⟨_, 9, rfl, rfl⟩, rfl, ?_⟩
  | refine ⟨_, .inl _, _, .inl ⟨_, 9, rfl, rfl⟩, rfl, rfl, ?_⟩
  | refine ⟨_, .inl _, .inl ⟨_, 10, rfl, rfl⟩, rfl, ?_⟩
  | refine ⟨_, .inl _, _, .inl ⟨_, 10, rfl, rfl⟩, rfl, rfl, ?_⟩
  | refine ⟨_, .inl _, .inl ⟨_, 11, rfl, rfl⟩, rfl, ?_⟩
  | refine ⟨_, .inl _, _, .inl ⟨_, 11, rfl, rfl⟩, rfl, rfl, ?_⟩
  | refine ⟨_, .inl _, .inl ⟨_, 12, rfl, rfl⟩, rfl, ?_⟩
  | refine ⟨_, .inl _, _, .inl ⟨_, 12, rfl, rfl⟩, rfl, rfl, ?_⟩
  | refine ⟨_, .inl _, .inl ⟨_, 13, rfl, rfl⟩, rfl, ?_⟩
  | refine ⟨_, .inl _, _, .inl ⟨_, 13, rfl, rfl⟩, rfl, rfl, ?_⟩
  | refine ⟨⟨10, _, rfl⟩, ?_⟩
  | refine ⟨10, _, _, rfl, rfl, (by first | assumption | decide | omega | (simp only [List.length_append, List.length_cons, List.length_nil]; omega) | (simp; done)), ?_⟩
  | refine ⟨_, 10, _, .inl _, rfl, rfl, rfl, (by first | assumption | decide | omega | (simp only [List.length_append, List.length_cons, List.length_nil]; omega) | (simp; done)), ?_⟩
  | refine ⟨⟨11, _, rfl⟩, ?_⟩
  | refine ⟨11, _, _, rfl, rfl, (by first | assumption | decide | omega | (simp only [List.length_append, List.length_cons, List.length_nil]; omega) | (simp; done)), ?_⟩
  | refine ⟨_, 11, _, .inl _, rfl, rfl, rfl, (by first | assumption | decide | omega | (simp only [List.length_append, List.length_cons, List.length_nil]; omega) | (simp; done)), ?_⟩
  | refine ⟨⟨12, _, rfl⟩, ?_⟩
  | refine ⟨12, _, _, rfl, rfl, (by first | assumption | decide | omega | (simp only [List.length_append, List.length_cons, List.length_nil]; omega) | (simp; done)), ?_⟩
  | refine ⟨_, 12, _, .inl _, rfl, rfl, rfl, (by first | assumption | decide | omega | (simp only [List.length_append, List.length_cons, List.length_nil]; omega) | (simp; done)), ?_⟩
  | refine ⟨⟨13, _, rfl⟩, ?_⟩
  | refine ⟨13, _, _, rfl, rfl, (by first | assumption | decide | omega | (simp only [List.length_append, List.length_cons, List.length_nil]; omega) | (simp; done)), ?_⟩
  | refine ⟨_, 13, _, .inl _, rfl, rfl, rfl, (by first | assumption | decide | omega | (simp only [List.length_append, List.length_cons, List.length_nil]; omega) | (simp; done)), ?_⟩
  | refine ⟨⟨14, _, rfl⟩, ?_⟩
  | refine ⟨14, _, _, rfl, rfl, (by first | assumption | decide | omega | (simp only [List.length_append, List.length_cons, List.length_nil]; omega) | (simp; done)), ?_⟩
  | refine ⟨_, 14, _, .inl _, rfl, rfl, rfl, (by first | assumption | decide | omega | (simp only [List.length_append, List.length_cons, List.length_nil]; omega) | (simp; done)), ?_⟩
  | refine ⟨_, 0, _, _, _, rfl, rfl, rfl, rfl, ?_⟩
  | refine ⟨_, 1, _, _, _, rfl, rfl, rfl, rfl, ?_⟩
  | refine ⟨_, 2, _, _, _, rfl, rfl, rfl, rfl, ?_⟩
  | refine ⟨_, 3, _, _, _, rfl, rfl, rfl, rfl, ?_⟩
  | refine ⟨_, PutAt.set 0 rfl rfl, ?_⟩
  | refine ⟨_, PutAt.set 1 rfl rfl, ?_⟩
  | refine ⟨_, PutAt.set 2 rfl rfl, ?_⟩
  | refine ⟨_, PutAt.set 3 rfl rfl, ?_⟩
  | refine ⟨_, PutAt.set 4 rfl rfl, ?_⟩
  | refine ⟨_, PutAt.set 5 rfl rfl, ?_⟩
  | refine ⟨_, PutAt.set 6 rfl rfl, ?_⟩
  | refine ⟨_, PutAt.set 7 rfl rfl, ?_⟩
  | refine ⟨_, PutAt.set 8 rfl rfl, ?_⟩
  | refine ⟨_, PutAt.new rfl, ?_⟩)
/-- steps as far as they go; ways that can't be are shut -/
local macro_rules | `(tactic| walk_at "dd") => `(tactic| repeat' (first | (with_reducible contradiction; done) | (with_reducible exact absurd (show (!true) = true by assumption) (by decide)) | walk_at "d"))
/-- .. what is made is owned -/
local macro_rules | `(tactic| walk_at "ddo") => `(tactic| repeat' (first | (with_reducible contradiction; done) | (with_reducible refine ed_dnewO fun _ _ => ?_) | ((with_reducible refine ed_lstO (ea_nil ?_)); refine ⟨by decide, fun _ _ => ?_⟩) | walk_at "d"))

local macro_rules | `(tactic| walk_at "ddc") => `(tactic| repeat' (first | (contradiction; done) | walk_at "d"))

namespace K84
section
variable {P : Program} {w : World} {K : PySem.W.Frag} {mg : Str → Option Value} {base : Heap}


def wholeB (d : D) (lo hi : Int) : Bool := match d with
  | .sc (.int i) => decide (lo ≤ i) && decide (i ≤ hi)
  | _ => false
def R_is_whole : DR := fun ds fp P _ => ∃ d lo hi, ds = [d, dI lo, dI hi] ∧ fp = [] ∧ plainD d = true ∧ P (dB (wholeB d lo hi)) []
theorem sc_is_whole : FnScope ["thing", "low", "high"] ["thing", "low", "high"] (defScope s_is_whole) := ⟨rfl, rfl, rfl, by decide +kernel, rfl, by decide +kernel, by decide +kernel⟩
theorem F_is_whole (T : Cxt K mg) : ∃ fd, FunD K d_is_whole.name d_is_whole.qual d_is_whole.params d_is_whole.body d_is_whole.scope (d_is_whole.dvs K) (d_is_whole.kws K) (He.fAd K d_is_whole.at_) fd ∧ FnOk P w K mg base CX0 1 (He.fAd K d_is_whole.at_) fd ["thing", "low", "high"] (spR K R_is_whole) := by
  obtain ⟨fd, F⟩ := T.c.def_ 0 (d := d_is_whole) rfl
  refine ⟨fd, F, fnR F sc_is_whole (fun ds fp PD X h => by obtain ⟨_, _, _, rfl, _⟩ := h; rfl) (fun cdv A outer s H E hr => ?_)⟩
  have hu := hu_of hr
  refine ⟨_, (pss_one (ps_ret (pe_and (pe_callB call_isi rfl (f_isinstance T) boot_isinstance (pa_cons (pv 0) (pa_cons (pe_tyn rfl (f_int T) boot_int) pa_nil))) (pe_and (pe_not (pe_callB call_isi rfl (f_isinstance T) boot_isinstance (pa_cons (pv 0) (pa_cons (pe_tyn rfl (f_bool T) boot_bool) pa_nil)))) (pe_one (pe_chain op_le op_le (pv 1) (pv 0) (pv 2))))))), ?_⟩
  intro B ds fp PD X hE hX hM hR
  try dsimp only [cxK, cxN]

  obtain ⟨d, lo, hi, rfl, rfl, hd, hP⟩ := hR
  show SvD K B _ [some d, some (dI lo), some (dI hi)] [] _
  rcases d with v | _ | _ | _ | _
  · cases v
    all_goals walk_at "ddc"
    all_goals first
      | exact hP
      | (simp_all [wholeB]; done)
  all_goals walk_at "ddc"
  all_goals exact hP
theorem C_is_whole (T : Cxt K mg) : Cal P w K mg base CX0 1 "is_whole" ["thing", "low", "high"] (spR K R_is_whole) [] := by
  obtain ⟨fd, F, G⟩ := F_is_whole (P := P) (w := w) (base := base)  T
  exact ⟨_, fd, [], G, g_is_whole T, F.kp, F.bindsN fun _ _ _ _ _ _ us hl => match us, hl with | [_, _, _], _ => rfl, .nil⟩
local macro_rules | `(tactic| walk_at "d") => `(tactic| first | (with_reducible refine ed_callP (R := R_is_whole) ?_) | ((with_reducible show R_is_whole _ _ _ _); refine ⟨_, _, _, rfl, rfl, by first | assumption | rfl, rfl, ?_⟩))

def planB (d : D) : Bool := match d with
  | .sc (.str s) => inV (.str s) [.str "fullest", .str "eldest"]
  | _ => false
def ruleB (d : D) : Bool := match d with
  | .tup [a, b, c, p] => wholeB a 1 64 && (wholeB b 3 16 && (wholeB c 1 64 && planB p))
  | _ => false
/-- its parts have known types -/
def plainIn (d : D) : Prop := plainD d = true ∧ ∀ xs, d = .tup xs → ∀ x ∈ xs, plainD x = true
def R_is_rule : DR := fun ds fp P _ => ∃ d, ds = [d] ∧ fp = [] ∧ plainIn d ∧ P (dB (ruleB d)) []
theorem planB_no {p : D} (h : isStrD p = false) : planB p = false := by
  cases p with
  | sc v => cases v <;> first | rfl | cases h
  | _ => rfl
theorem ruleB_len {xs : List D} (h : ¬ ((xs.length : Nat) : Int) = 4) : ruleB (.tup xs) = false := by
  unfold ruleB
  split
  · rename_i e
    cases e
    exact absurd rfl h
  · rfl
theorem ruleB_no {d : D} (h : ¬ ∃ xs, d = .tup xs) : ruleB d = false := by
  unfold ruleB
  split
  · exact absurd ⟨_, rfl⟩ h
  · rfl
theorem isTup_no {d : D} (h : ¬ ∃ xs, d = .tup xs) : isTupD d = false := by
  cases d <;> first | rfl | exact absurd ⟨_, rfl⟩ h
theorem len4 {α : Type} {xs : List α} (h : ((xs.length : Nat) : Int) = 4) : ∃ a b c d, xs = [a, b, c, d] := by
  match xs, h with
  | [a, b, c, d], _ => exact ⟨a, b, c, d, rfl⟩
  | [], h => simp at h
  | [_], h => simp at h
  | [_, _], h => simp at h
  | [_, _, _], h => simp at h
  | _ :: _ :: _ :: _ :: _ :: r, h => simp at h; omega
theorem sc_is_rule : FnScope ["thing", "tray", "fan", "rows", "plan"] ["thing"] (defScope s_is_rule) := ⟨rfl, rfl, rfl, by decide +kernel, rfl, by decide +kernel, by decide +kernel⟩
theorem F_is_rule (T : Cxt K mg) : ∃ fd, FunD K d_is_rule.name d_is_rule.qual d_is_rule.params d_is_rule.body d_is_rule.scope (d_is_rule.dvs K) (d_is_rule.kws K) (He.fAd K d_is_rule.at_) fd ∧ FnOk P w K mg base CX0 2 (He.fAd K d_is_rule.at_) fd ["thing"] (spR K R_is_rule) := by
  obtain ⟨fd, F⟩ := T.c.def_ 1 (d := d_is_rule) rfl
  refine ⟨fd, F, fnR F sc_is_rule (fun ds fp PD X h => by obtain ⟨_, rfl, _⟩ := h; rfl) (fun cdv A outer s H E hr => ?_)⟩
  have hu := hu_of hr
  refine ⟨_, (pss_cons (ps_if (PW.pt (pw_or (pt_not (pt_val (pe_callB call_isi rfl (f_isinstance T) boot_isinstance (pa_cons (pv 0) (pa_cons (pe_tyn rfl (f_tuple T) boot_tuple) pa_nil))))) (pw_or1 (pt_cmpR (op_neU hr) (pe_callB call_lenU rfl (f_len T) boot_len (pa_cons (pv 0) pa_nil)) pe_int (nomark _)))))
      (pss_one (ps_ret pe_bl))
      pss_nil)
    (pss_cons (ps_asg (pv 0) (pg_tup (n := 4) rfl (pgs_cons (pg_name (i := 1) sc_is_rule.nd rfl (by first | exact Or.inl rfl | exact Or.inr rfl)) (pgs_cons (pg_name (i := 2) sc_is_rule.nd rfl (by first | exact Or.inl rfl | exact Or.inr rfl)) (pgs_cons (pg_name (i := 3) sc_is_rule.nd rfl (by first | exact Or.inl rfl | exact Or.inr rfl)) (pgs_cons (pg_name (i := 4) sc_is_rule.nd rfl (by first | exact Or.inl rfl | exact Or.inr rfl)) pgs_nil))))))
    (pss_cons (ps_if (PW.pt (pw_or (pt_not (pt_val (pe_cal (C_is_whole T) (hr.mono (by decide)) rfl pass0 (pa_cons (pv 1) (pa_cons pe_int (pa_cons pe_int pa_nil)))))) (pw_or (pt_not (pt_val (pe_cal (C_is_whole T) (hr.mono (by decide)) rfl pass0 (pa_cons (pv 2) (pa_cons pe_int (pa_cons pe_int pa_nil)))))) (pw_or1 (pt_not (pt_val (pe_cal (C_is_whole T) (hr.mono (by decide)) rfl pass0 (pa_cons (pv 3) (pa_cons pe_int (pa_cons pe_int pa_nil))))))))))
      (pss_one (ps_ret pe_bl))
      pss_nil)
    (pss_one (ps_ret (pe_and (pe_callB call_isi rfl (f_isinstance T) boot_isinstance (pa_cons (pv 4) (pa_cons (pe_tyn rfl (f_str T) boot_str) pa_nil))) (pe_one (pe_cmpR op_in_seq (pv 4) (pe_gref rfl (g_PLANS T)) (by rfl))))))))), ?_⟩
  intro B ds fp PD X hE hX hM hR
  try dsimp only [cxK, cxN]

  obtain ⟨d, rfl, rfl, ⟨hd, hin⟩, hP⟩ := hR
  show SvD K B _ [some d, none, none, none, none] [] _
  by_cases ht : ∃ xs, d = .tup xs
  · obtain ⟨xs, rfl⟩ := ht
    have hin := hin xs rfl
    by_cases h4 : ((xs.length : Nat) : Int) = 4
    · obtain ⟨a, b, c, p, rfl⟩ := len4 h4
      have pa := hin a (by simp)
      have pb := hin b (by simp)
      have pc := hin c (by simp)
      have pp := hin p (by simp)
      walk_at "ddc"
      all_goals first
        | exact hP
        | (refine fin hP ?_; simp_all [ruleB, planB_no]; done)
        | skip
      cases p with
      | sc v =>
        cases v with
        | str z =>
          refine rv_inK (x_PLANS T) rfl rfl ?_
          refine fin hP ?_
          simp_all [ruleB, planB]
        | _ => exact absurd ‹_› (by simp [isStrD])
      | _ => exact absurd ‹_› (by simp [isStrD])
    · have e := ruleB_len h4
      walk_at "ddc"
      all_goals first
        | exact fin hP (by rw [e])
        | (exfalso; simp_all; done)
  · have e := ruleB_no ht
    have e2 := isTup_no ht
    walk_at "ddc"
    all_goals first
      | exact fin hP (by rw [e])
      | (exfalso; simp_all; done)
theorem C_is_rule (T : Cxt K mg) : Cal P w K mg base CX0 2 "is_rule" ["thing"] (spR K R_is_rule) [] := by
  obtain ⟨fd, F, G⟩ := F_is_rule (P := P) (w := w) (base := base)  T
  exact ⟨_, fd, [], G, g_is_rule T, F.kp, F.bindsN fun _ _ _ _ _ _ us hl => match us, hl with | [_], _ => rfl, .nil⟩
local macro_rules | `(tactic| walk_at "d") => `(tactic| first | (with_reducible refine ed_callP (R := R_is_rule) ?_) | ((with_reducible show R_is_rule _ _ _ _); refine ⟨_, rfl, rfl, by assumption, rfl, ?_⟩))

def R_Roomzz_initzz (K : PySem.W.Frag) : DR := fun ds fp P _ => ∃ p C d, Cls K C ∧ NoAttr K C "number" ∧ fp = [(p, .ins C [])] ∧ ds = [dR p, d] ∧ P dN [(p, .ins C [("number", d)])]
theorem sc_Roomzz_initzz : FnScope ["self", "number"] ["self", "number"] (defScope s_Roomzz_initzz) := ⟨rfl, rfl, rfl, by decide +kernel, rfl, by decide +kernel, by decide +kernel⟩
theorem F_Roomzz_initzz (T : Cxt K mg) : ∃ fd, FunD K d_Roomzz_initzz.name d_Roomzz_initzz.qual d_Roomzz_initzz.params d_Roomzz_initzz.body d_Roomzz_initzz.scope (d_Roomzz_initzz.dvs K) (d_Roomzz_initzz.kws K) (He.fAd K d_Roomzz_initzz.at_) fd ∧ FnOk P w K mg base CX0 1 (He.fAd K d_Roomzz_initzz.at_) fd ["self", "number"] (spR K (R_Roomzz_initzz K)) := by
  obtain ⟨fd, F⟩ := T.c.def_ 2 (d := d_Roomzz_initzz) rfl
  refine ⟨fd, F, fnR F sc_Roomzz_initzz (fun ds fp PD X h => by obtain ⟨_, _, _, _, _, _, rfl, _⟩ := h; rfl) (fun cdv A outer s H E hr => ?_)⟩
  have hu := hu_of hr
  refine ⟨_, (pss_one (ps_fld (pv 0) (pv 1) rfl)), ?_⟩
  intro B ds fp PD X hE hX hM hR
  try dsimp only [cxK, cxN]
  have := cl_Room T
  have := na_Room_number T
  have := cl_Leaf T
  have := na_Leaf_number T

  obtain ⟨p, C, d, hc, hn, rfl, rfl, hP⟩ := hR
  show SvD K B _ [some (dR p), some d] [(p, .ins C [])] _
  walk_at "dd"
  exact hP
theorem Q_Roomzz_initzz (T : Cxt K mg) : Cfc P w K mg base CX0 1 (He.ga K "Room") "__init__" ["self", "number"] (spR K (R_Roomzz_initzz K)) [] := by
  obtain ⟨fd, F, G⟩ := F_Roomzz_initzz (P := P) (w := w) (base := base) T
  exact ⟨_, fd, [], x_cfn_Room_zzinitzz T, G, F.bindsN fun _ _ _ _ _ _ us hl => match us, hl with | [_, _], _ => rfl, .nil⟩

def R_Leafzz_initzz (K : PySem.W.Frag) : DR := fun ds fp P _ => ∃ p n rows, fp = [(p, .ins (He.ga K "Leaf") [])] ∧ ds = [dR p, n, rows] ∧ P dN [(p, .ins (He.ga K "Leaf") [("number", n), ("rows", rows)])]
theorem sc_Leafzz_initzz : FnScope ["self", "number", "rows"] ["self", "number", "rows"] (defScope s_Leafzz_initzz) := ⟨rfl, rfl, rfl, by decide +kernel, rfl, by decide +kernel, by decide +kernel⟩
theorem F_Leafzz_initzz (T : Cxt K mg) : ∃ fd, FunD K d_Leafzz_initzz.name d_Leafzz_initzz.qual d_Leafzz_initzz.params d_Leafzz_initzz.body d_Leafzz_initzz.scope (d_Leafzz_initzz.dvs K) (d_Leafzz_initzz.kws K) (He.fAd K d_Leafzz_initzz.at_) fd ∧ FnOk P w K mg base CX0 2 (He.fAd K d_Leafzz_initzz.at_) fd ["self", "number", "rows"] (spR K (R_Leafzz_initzz K)) := by
  obtain ⟨fd, F⟩ := T.c.def_ 4 (d := d_Leafzz_initzz) rfl
  refine ⟨fd, F, fnR F sc_Leafzz_initzz (fun ds fp PD X h => by obtain ⟨_, _, _, _, rfl, _⟩ := h; rfl) (fun cdv A outer s H E hr => ?_)⟩
  have hu := hu_of hr
  refine ⟨_, (pss_cons (ps_expr (pe_cfc (pe_gref rfl (g_Room T)) (Q_Roomzz_initzz T) (hr.mono (by decide)) pass0 (pa_cons (pv 0) (pa_cons (pv 1) pa_nil))))
    (pss_one (ps_fld (pv 0) (pv 2) rfl))), ?_⟩
  intro B ds fp PD X hE hX hM hR
  try dsimp only [cxK, cxN]
  have := cl_Leaf T
  have := na_Leaf_number T
  have := na_Leaf_rows T
  have := cl_Leaf T
  have := na_Leaf_rows T

  obtain ⟨p, n, rows, rfl, rfl, hP⟩ := hR
  show SvD K B _ [some (dR p), some n, some rows] [(p, .ins (He.ga K "Leaf") [])] _
  refine sv_seq (sv_drop (ed_cfn (ed_c ⟨rfl, ?_⟩)))
  walk_at "dd"
  refine ⟨[], _, [], rfl, p, He.ga K "Leaf", n, by assumption, by assumption, rfl, rfl, ?_⟩
  show SvD K B _ [some (dR p), some n, some rows] [(p, .ins (He.ga K "Leaf") [("number", n)])] _
  walk_at "dd"
  exact hP
theorem M_Leaf (T : Cxt K mg) : Mkr P w K mg base CX0 2 (He.ga K "Leaf") "Leaf" ["self", "number", "rows"] (spR K (R_Leafzz_initzz K)) [] := by
  obtain ⟨fd, F, G⟩ := F_Leafzz_initzz (P := P) (w := w) (base := base) T
  exact ⟨_, fd, [], mk_Leaf T, g_Leaf T, G, F.bindsN fun _ _ _ _ _ _ us hl => match us, hl with | [_, _, _], _ => rfl, .nil⟩

def R_Room_is_leaf : DR := fun ds fp P _ => ∃ r, ds = [r] ∧ P (dB true) fp
theorem sc_Room_is_leaf : FnScope ["self"] ["self"] (defScope s_Room_is_leaf) := ⟨rfl, rfl, rfl, by decide +kernel, rfl, by decide +kernel, by decide +kernel⟩
theorem F_Room_is_leaf (T : Cxt K mg) : ∃ fd, FunD K d_Room_is_leaf.name d_Room_is_leaf.qual d_Room_is_leaf.params d_Room_is_leaf.body d_Room_is_leaf.scope (d_Room_is_leaf.dvs K) (d_Room_is_leaf.kws K) (He.fAd K d_Room_is_leaf.at_) fd ∧ FnOk P w K mg base CX0 1 (He.fAd K d_Room_is_leaf.at_) fd ["self"] (spR K R_Room_is_leaf) := by
  obtain ⟨fd, F⟩ := T.c.def_ 3 (d := d_Room_is_leaf) rfl
  refine ⟨fd, F, fnR F sc_Room_is_leaf (fun ds fp PD X h => by obtain ⟨_, rfl, _⟩ := h; rfl) (fun cdv A outer s H E hr => ?_)⟩
  have hu := hu_of hr
  refine ⟨_, (pss_one (ps_ret pe_bl)), ?_⟩
  intro B ds fp PD X hE hX hM hR
  try dsimp only [cxK, cxN]
  have := cl_Room T
  have := cl_Leaf T

  obtain ⟨r, rfl, hP⟩ := hR
  show SvD K B _ [some r] fp _
  walk_at "dd"
  exact hP
theorem N_Leaf_is_leaf (T : Cxt K mg) : Mth P w K mg base CX0 1 (He.ga K "Leaf") "is_leaf" ["self"] (spR K R_Room_is_leaf) [] := by
  obtain ⟨fd, F, G⟩ := F_Room_is_leaf (P := P) (w := w) (base := base)  T
  exact ⟨_, fd, [], cl_Leaf T, me_Leaf_is_leaf T, (by rw [x_inh_Leaf_is_leaf T]; exact G), F.bindsN fun _ _ _ _ _ _ us hl => match us, hl with | [_], _ => rfl, .nil⟩

structure ShS where
  p : Addr
  t : Addr
  w : Addr
  ft : Addr
  texts : List (Key × D)
  lines : Str
  writes : List D
def shO (K : PySem.W.Frag) (s : ShS) : Ow := [(s.p, .ins (He.ga K "Shelf") [("texts", dR s.t), ("lines", dS s.lines), ("writes", dR s.w), ("first_texts", dR s.ft), ("first_lines", dS "")]), (s.t, .dic s.texts), (s.w, .lst s.writes), (s.ft, .dic [])]
def R_Shelfzz_initzz (K : PySem.W.Frag) : DR := fun ds fp P _ => ∃ p, ds = [dR p] ∧ fp = [(p, .ins (He.ga K "Shelf") [])] ∧ ∀ t w ft, P dN (shO K ⟨p, t, w, ft, [], "", []⟩)
theorem sc_Shelfzz_initzz : FnScope ["self"] ["self"] (defScope s_Shelfzz_initzz) := ⟨rfl, rfl, rfl, by decide +kernel, rfl, by decide +kernel, by decide +kernel⟩
theorem F_Shelfzz_initzz (T : Cxt K mg) : ∃ fd, FunD K d_Shelfzz_initzz.name d_Shelfzz_initzz.qual d_Shelfzz_initzz.params d_Shelfzz_initzz.body d_Shelfzz_initzz.scope (d_Shelfzz_initzz.dvs K) (d_Shelfzz_initzz.kws K) (He.fAd K d_Shelfzz_initzz.at_) fd ∧ FnOk P w K mg base CX0 1 (He.fAd K d_Shelfzz_initzz.at_) fd ["self"] (spR K (R_Shelfzz_initzz K)) := by
  obtain ⟨fd, F⟩ := T.c.def_ 18 (d := d_Shelfzz_initzz) rfl
  refine ⟨fd, F, fnR F sc_Shelfzz_initzz (fun ds fp PD X h => by obtain ⟨_, rfl, _⟩ := h; rfl) (fun cdv A outer s H E hr => ?_)⟩
  have hu := hu_of hr
  refine ⟨_, (pss_cons (ps_fld (pv 0) pe_dnewK rfl)
    (pss_cons (ps_fld (pv 0) pe_str rfl)
    (pss_cons (ps_fld (pv 0) (pe_lst pa_nil) rfl)
    (pss_cons (ps_fld (pv 0) pe_dnewK rfl)
    (pss_one (ps_fld (pv 0) pe_str rfl)))))), ?_⟩
  intro B ds fp PD X hE hX hM hR
  try dsimp only [cxK, cxN]
  have := cl_Shelf T
  have := na_Shelf_texts T
  have := na_Shelf_lines T
  have := na_Shelf_writes T
  have := na_Shelf_first_texts T
  have := na_Shelf_first_lines T

  obtain ⟨p, rfl, rfl, hP⟩ := hR
  show SvD K B _ [some (dR p)] [(p, .ins (He.ga K "Shelf") [])] _
  walk_at "ddo"
  exact hP _ _ _
theorem M_Shelf (T : Cxt K mg) : Mkr P w K mg base CX0 1 (He.ga K "Shelf") "Shelf" ["self"] (spR K (R_Shelfzz_initzz K)) [] := by
  obtain ⟨fd, F, G⟩ := F_Shelfzz_initzz (P := P) (w := w) (base := base) T
  exact ⟨_, fd, [], mk_Shelf T, g_Shelf T, G, F.bindsN fun _ _ _ _ _ _ us hl => match us, hl with | [_], _ => rfl, .nil⟩

def R_Shelf_write (K : PySem.W.Frag) : DR := fun ds fp P _ => ∃ (s : ShS) (i : Int) (z : Str), ds = [dR s.p, dI i, dS z] ∧ fp = shO K s ∧ 0 ≤ i ∧ i ≤ 1000000 ∧ s.texts.length < 1000000 ∧ s.writes.length < 1000000 ∧
  P dN (shO K { s with texts := putD s.texts (.inl i) (dS z), writes := s.writes ++ [.tup [dS "page", dI i, dS z]] })
theorem sc_Shelf_write : FnScope ["self", "place", "text"] ["self", "place", "text"] (defScope s_Shelf_write) := ⟨rfl, rfl, rfl, by decide +kernel, rfl, by decide +kernel, by decide +kernel⟩
theorem F_Shelf_write (T : Cxt K mg) : ∃ fd, FunD K d_Shelf_write.name d_Shelf_write.qual d_Shelf_write.params d_Shelf_write.body d_Shelf_write.scope (d_Shelf_write.dvs K) (d_Shelf_write.kws K) (He.fAd K d_Shelf_write.at_) fd ∧ FnOk P w K mg base CX0 2 (He.fAd K d_Shelf_write.at_) fd ["self", "place", "text"] (spR K (R_Shelf_write K)) := by
  obtain ⟨fd, F⟩ := T.c.def_ 19 (d := d_Shelf_write) rfl
  refine ⟨fd, F, fnR F sc_Shelf_write (fun ds fp PD X h => by obtain ⟨_, _, _, rfl, _⟩ := h; rfl) (fun cdv A outer s H E hr => ?_)⟩
  have hu := hu_of hr
  refine ⟨_, (pss_cons (ps_if (pt_not (pt_val (pe_cal (C_is_whole T) (hr.mono (by decide)) rfl pass0 (pa_cons (pv 1) (pa_cons pe_int (pa_cons (pe_gint rfl (i_LARGEST T)) pa_nil))))))
      (pss_one ps_never)
      pss_nil)
    (pss_cons (ps_dput hu (pe_fld (pv 0) rfl) (pv 1) (pv 2) rfl)
    (pss_one (ps_expr (pe_bm PySem.F.plainAttrs_list PySem.F.slot_list_append PySem.F.type_list_append mt_append (pe_fld (pv 0) rfl) (pa_cons (pe_tup (pa_cons pe_str (pa_cons (pv 1) (pa_cons (pv 2) pa_nil)))) pa_nil)))))), ?_⟩
  intro B ds fp PD X hE hX hM hR
  try dsimp only [cxK, cxN]
  have := cl_Shelf T
  have := na_Shelf_texts T
  have := na_Shelf_writes T

  obtain ⟨s, i, z, rfl, rfl, h0, h1, hl, hw, hP⟩ := hR
  show SvD K B _ [some (dR s.p), some (dI i), some (dS z)] (shO K s) _
  have e : wholeB (dI i) 0 1000000 = true := by simp [wholeB, h0, h1]
  walk_at "dd"
  · simp_all
  · exact hP
theorem N_Shelf_write (T : Cxt K mg) : Mth P w K mg base CX0 2 (He.ga K "Shelf") "write" ["self", "place", "text"] (spR K (R_Shelf_write K)) [] := by
  obtain ⟨fd, F, G⟩ := F_Shelf_write (P := P) (w := w) (base := base)  T
  exact ⟨_, fd, [], cl_Shelf T, me_Shelf_write T, G, F.bindsN fun _ _ _ _ _ _ us hl => match us, hl with | [_, _, _], _ => rfl, .nil⟩

def R_Shelf_line (K : PySem.W.Frag) : DR := fun ds fp P _ => ∃ (s : ShS) (z : Str), ds = [dR s.p, dS z] ∧ fp = shO K s ∧ z.length ≤ 1000000 ∧ s.lines.length ≤ 10000000 ∧ s.writes.length < 1000000 ∧
  P dN (shO K { s with lines := s.lines ++ (z ++ ("\n" : Str)), writes := s.writes ++ [.tup [dS "line", dS z]] })
theorem str_len_append (a b : Str) : (a ++ b).length = a.length + b.length := by
  show (a.cps ++ b.cps).size = _
  rw [Array.size_append]
  rfl
theorem nl_len : (("\n" : Str)).length = 1 := by decide +kernel
theorem sc_Shelf_line : FnScope ["self", "text"] ["self", "text"] (defScope s_Shelf_line) := ⟨rfl, rfl, rfl, by decide +kernel, rfl, by decide +kernel, by decide +kernel⟩
theorem F_Shelf_line (T : Cxt K mg) : ∃ fd, FunD K d_Shelf_line.name d_Shelf_line.qual d_Shelf_line.params d_Shelf_line.body d_Shelf_line.scope (d_Shelf_line.dvs K) (d_Shelf_line.kws K) (He.fAd K d_Shelf_line.at_) fd ∧ FnOk P w K mg base CX0 1 (He.fAd K d_Shelf_line.at_) fd ["self", "text"] (spR K (R_Shelf_line K)) := by
  obtain ⟨fd, F⟩ := T.c.def_ 20 (d := d_Shelf_line) rfl
  refine ⟨fd, F, fnR F sc_Shelf_line (fun ds fp PD X h => by obtain ⟨_, _, rfl, _⟩ := h; rfl) (fun cdv A outer s H E hr => ?_)⟩
  have hu := hu_of hr
  refine ⟨_, (pss_cons (ps_fldaug (pv 0) (pe_op op_addU (pv 1) pe_str) in_addS)
    (pss_one (ps_expr (pe_bm PySem.F.plainAttrs_list PySem.F.slot_list_append PySem.F.type_list_append mt_append (pe_fld (pv 0) rfl) (pa_cons (pe_tup (pa_cons pe_str (pa_cons (pv 1) pa_nil))) pa_nil))))), ?_⟩
  intro B ds fp PD X hE hX hM hR
  try dsimp only [cxK, cxN]
  have := cl_Shelf T
  have := na_Shelf_lines T
  have := na_Shelf_writes T

  obtain ⟨s, z, rfl, rfl, hz, hl, hw, hP⟩ := hR
  show SvD K B _ [some (dR s.p), some (dS z)] (shO K s) _
  have e1 : z.length + (("\n" : Str)).length ≤ 16000000 := by rw [nl_len]; omega
  have e2 : s.lines.length + (z ++ ("\n" : Str)).length ≤ 16000000 := by rw [str_len_append, nl_len]; omega
  walk_at "dd"
  exact hP
theorem N_Shelf_line (T : Cxt K mg) : Mth P w K mg base CX0 1 (He.ga K "Shelf") "line" ["self", "text"] (spR K (R_Shelf_line K)) [] := by
  obtain ⟨fd, F, G⟩ := F_Shelf_line (P := P) (w := w) (base := base)  T
  exact ⟨_, fd, [], cl_Shelf T, me_Shelf_line T, G, F.bindsN fun _ _ _ _ _ _ us hl => match us, hl with | [_, _], _ => rfl, .nil⟩

def R_Shelf_blot (K : PySem.W.Frag) : DR := fun ds fp P _ => ∃ (s : ShS), ds = [dR s.p] ∧ fp = shO K s ∧ s.writes.length < 1000000 ∧ P dN (shO K { s with lines := "", writes := s.writes ++ [.tup [dS "blot"]] })
theorem sc_Shelf_blot : FnScope ["self"] ["self"] (defScope s_Shelf_blot) := ⟨rfl, rfl, rfl, by decide +kernel, rfl, by decide +kernel, by decide +kernel⟩
theorem F_Shelf_blot (T : Cxt K mg) : ∃ fd, FunD K d_Shelf_blot.name d_Shelf_blot.qual d_Shelf_blot.params d_Shelf_blot.body d_Shelf_blot.scope (d_Shelf_blot.dvs K) (d_Shelf_blot.kws K) (He.fAd K d_Shelf_blot.at_) fd ∧ FnOk P w K mg base CX0 1 (He.fAd K d_Shelf_blot.at_) fd ["self"] (spR K (R_Shelf_blot K)) := by
  obtain ⟨fd, F⟩ := T.c.def_ 21 (d := d_Shelf_blot) rfl
  refine ⟨fd, F, fnR F sc_Shelf_blot (fun ds fp PD X h => by obtain ⟨_, rfl, _⟩ := h; rfl) (fun cdv A outer s H E hr => ?_)⟩
  have hu := hu_of hr
  refine ⟨_, (pss_cons (ps_fld (pv 0) pe_str rfl)
    (pss_one (ps_expr (pe_bm PySem.F.plainAttrs_list PySem.F.slot_list_append PySem.F.type_list_append mt_append (pe_fld (pv 0) rfl) (pa_cons (pe_tup (pa_cons pe_str pa_nil)) pa_nil))))), ?_⟩
  intro B ds fp PD X hE hX hM hR
  try dsimp only [cxK, cxN]
  have := cl_Shelf T
  have := na_Shelf_lines T
  have := na_Shelf_writes T

  obtain ⟨s, rfl, rfl, hw, hP⟩ := hR
  show SvD K B _ [some (dR s.p)] (shO K s) _
  walk_at "dd"
  exact hP
theorem N_Shelf_blot (T : Cxt K mg) : Mth P w K mg base CX0 1 (He.ga K "Shelf") "blot" ["self"] (spR K (R_Shelf_blot K)) [] := by
  obtain ⟨fd, F, G⟩ := F_Shelf_blot (P := P) (w := w) (base := base)  T
  exact ⟨_, fd, [], cl_Shelf T, me_Shelf_blot T, G, F.bindsN fun _ _ _ _ _ _ us hl => match us, hl with | [_], _ => rfl, .nil⟩

def R_Shelf_page (K : PySem.W.Frag) : DR := fun ds fp P _ => ∃ (s : ShS) (i : Int), ds = [dR s.p, dI i] ∧ fp = shO K s ∧ 0 ≤ i ∧ i ≤ 1000000 ∧ P ((getD s.texts (.inl i)).getD dN) (shO K s)
theorem sc_Shelf_page : FnScope ["self", "place"] ["self", "place"] (defScope s_Shelf_page) := ⟨rfl, rfl, rfl, by decide +kernel, rfl, by decide +kernel, by decide +kernel⟩
theorem F_Shelf_page (T : Cxt K mg) : ∃ fd, FunD K d_Shelf_page.name d_Shelf_page.qual d_Shelf_page.params d_Shelf_page.body d_Shelf_page.scope (d_Shelf_page.dvs K) (d_Shelf_page.kws K) (He.fAd K d_Shelf_page.at_) fd ∧ FnOk P w K mg base CX0 2 (He.fAd K d_Shelf_page.at_) fd ["self", "place"] (spR K (R_Shelf_page K)) := by
  obtain ⟨fd, F⟩ := T.c.def_ 22 (d := d_Shelf_page) rfl
  refine ⟨fd, F, fnR F sc_Shelf_page (fun ds fp PD X h => by obtain ⟨_, _, rfl, _⟩ := h; rfl) (fun cdv A outer s H E hr => ?_)⟩
  have hu := hu_of hr
  refine ⟨_, (pss_cons (ps_if (pt_not (pt_val (pe_cal (C_is_whole T) (hr.mono (by decide)) rfl pass0 (pa_cons (pv 1) (pa_cons pe_int (pa_cons (pe_gint rfl (i_LARGEST T)) pa_nil))))))
      (pss_one (ps_ret pe_non))
      pss_nil)
    (pss_one (ps_ret (pe_dget1 hu (pe_fld (pv 0) rfl) (pv 1) ⟨rfl, rfl, rfl, rfl⟩)))), ?_⟩
  intro B ds fp PD X hE hX hM hR
  try dsimp only [cxK, cxN]
  have := cl_Shelf T
  have := na_Shelf_texts T

  obtain ⟨s, i, rfl, rfl, h0, h1, hP⟩ := hR
  show SvD K B _ [some (dR s.p), some (dI i)] (shO K s) _
  have e : wholeB (dI i) 0 1000000 = true := by simp [wholeB, h0, h1]
  walk_at "dd"
  · simp_all
  · refine ed_dget1 ?_
    walk_at "dd"
    refine ⟨⟨_, .inl ⟨_, 1, rfl, rfl⟩⟩, ?_⟩
    walk_at "dd"
    exact hP
theorem N_Shelf_page (T : Cxt K mg) : Mth P w K mg base CX0 2 (He.ga K "Shelf") "page" ["self", "place"] (spR K (R_Shelf_page K)) [] := by
  obtain ⟨fd, F, G⟩ := F_Shelf_page (P := P) (w := w) (base := base)  T
  exact ⟨_, fd, [], cl_Shelf T, me_Shelf_page T, G, F.bindsN fun _ _ _ _ _ _ us hl => match us, hl with | [_, _], _ => rfl, .nil⟩

def R_Shelf_places (K : PySem.W.Frag) : DR := fun ds fp P _ => ∃ (s : ShS) (ks : List Int), ds = [dR s.p] ∧ fp = shO K s ∧ s.texts.map (·.1) = ks.map Sum.inl ∧ ks.length < 64 ∧ ∀ ys : List Int, ys.Perm ks → ys.Pairwise (· ≤ ·) → P (.lst (ys.map dI)) (shO K s)
theorem sc_Shelf_places : FnScope ["self"] ["self"] (defScope s_Shelf_places) := ⟨rfl, rfl, rfl, by decide +kernel, rfl, by decide +kernel, by decide +kernel⟩
theorem F_Shelf_places (T : Cxt K mg) : ∃ fd, FunD K d_Shelf_places.name d_Shelf_places.qual d_Shelf_places.params d_Shelf_places.body d_Shelf_places.scope (d_Shelf_places.dvs K) (d_Shelf_places.kws K) (He.fAd K d_Shelf_places.at_) fd ∧ FnOk P w K mg base CX0 1 (He.fAd K d_Shelf_places.at_) fd ["self"] (spR K (R_Shelf_places K)) := by
  obtain ⟨fd, F⟩ := T.c.def_ 23 (d := d_Shelf_places) rfl
  refine ⟨fd, F, fnR F sc_Shelf_places (fun ds fp PD X h => by obtain ⟨_, _, rfl, _⟩ := h; rfl) (fun cdv A outer s H E hr => ?_)⟩
  have hu := hu_of hr
  refine ⟨_, (pss_one (ps_ret (pe_callB (call_sortedDI rfl) rfl (f_sorted T) boot_sorted (pa_cons (pe_fld (pv 0) rfl) pa_nil)))), ?_⟩
  intro B ds fp PD X hE hX hM hR
  try dsimp only [cxK, cxN]
  have := cl_Shelf T
  have := na_Shelf_texts T

  obtain ⟨s, ks, rfl, rfl, hk, hl, hP⟩ := hR
  show SvD K B _ [some (dR s.p)] (shO K s) _
  walk_at "dd"
  exact rc_sortedDI (.inl ⟨_, 1, rfl, rfl⟩) hk hl hP
theorem N_Shelf_places (T : Cxt K mg) : Mth P w K mg base CX0 1 (He.ga K "Shelf") "places" ["self"] (spR K (R_Shelf_places K)) [] := by
  obtain ⟨fd, F, G⟩ := F_Shelf_places (P := P) (w := w) (base := base)  T
  exact ⟨_, fd, [], cl_Shelf T, me_Shelf_places T, G, F.bindsN fun _ _ _ _ _ _ us hl => match us, hl with | [_], _ => rfl, .nil⟩

def R_Shelf_journal (K : PySem.W.Frag) : DR := fun ds fp P _ => ∃ (s : ShS), ds = [dR s.p] ∧ fp = shO K s ∧ P (dS s.lines) (shO K s)
theorem sc_Shelf_journal : FnScope ["self"] ["self"] (defScope s_Shelf_journal) := ⟨rfl, rfl, rfl, by decide +kernel, rfl, by decide +kernel, by decide +kernel⟩
theorem F_Shelf_journal (T : Cxt K mg) : ∃ fd, FunD K d_Shelf_journal.name d_Shelf_journal.qual d_Shelf_journal.params d_Shelf_journal.body d_Shelf_journal.scope (d_Shelf_journal.dvs K) (d_Shelf_journal.kws K) (He.fAd K d_Shelf_journal.at_) fd ∧ FnOk P w K mg base CX0 1 (He.fAd K d_Shelf_journal.at_) fd ["self"] (spR K (R_Shelf_journal K)) := by
  obtain ⟨fd, F⟩ := T.c.def_ 24 (d := d_Shelf_journal) rfl
  refine ⟨fd, F, fnR F sc_Shelf_journal (fun ds fp PD X h => by obtain ⟨_, rfl, _⟩ := h; rfl) (fun cdv A outer s H E hr => ?_)⟩
  have hu := hu_of hr
  refine ⟨_, (pss_one (ps_ret (pe_fld (pv 0) rfl))), ?_⟩
  intro B ds fp PD X hE hX hM hR
  try dsimp only [cxK, cxN]
  have := cl_Shelf T
  have := na_Shelf_lines T

  obtain ⟨s, rfl, rfl, hP⟩ := hR
  show SvD K B _ [some (dR s.p)] (shO K s) _
  walk_at "dd"
  exact hP
theorem N_Shelf_journal (T : Cxt K mg) : Mth P w K mg base CX0 1 (He.ga K "Shelf") "journal" ["self"] (spR K (R_Shelf_journal K)) [] := by
  obtain ⟨fd, F, G⟩ := F_Shelf_journal (P := P) (w := w) (base := base)  T
  exact ⟨_, fd, [], cl_Shelf T, me_Shelf_journal T, G, F.bindsN fun _ _ _ _ _ _ us hl => match us, hl with | [_], _ => rfl, .nil⟩

def R_Shelf_log (K : PySem.W.Frag) : DR := fun ds fp P _ => ∃ (s : ShS), ds = [dR s.p] ∧ fp = shO K s ∧ P (.lst s.writes) (shO K s)
theorem sc_Shelf_log : FnScope ["self"] ["self"] (defScope s_Shelf_log) := ⟨rfl, rfl, rfl, by decide +kernel, rfl, by decide +kernel, by decide +kernel⟩
theorem F_Shelf_log (T : Cxt K mg) : ∃ fd, FunD K d_Shelf_log.name d_Shelf_log.qual d_Shelf_log.params d_Shelf_log.body d_Shelf_log.scope (d_Shelf_log.dvs K) (d_Shelf_log.kws K) (He.fAd K d_Shelf_log.at_) fd ∧ FnOk P w K mg base CX0 1 (He.fAd K d_Shelf_log.at_) fd ["self"] (spR K (R_Shelf_log K)) := by
  obtain ⟨fd, F⟩ := T.c.def_ 25 (d := d_Shelf_log) rfl
  refine ⟨fd, F, fnR F sc_Shelf_log (fun ds fp PD X h => by obtain ⟨_, rfl, _⟩ := h; rfl) (fun cdv A outer s H E hr => ?_)⟩
  have hu := hu_of hr
  refine ⟨_, (pss_one (ps_ret (pe_callTy call_listU rfl (f_list T) boot_list (pa_cons (pe_fld (pv 0) rfl) pa_nil)))), ?_⟩
  intro B ds fp PD X hE hX hM hR
  try dsimp only [cxK, cxN]
  have := cl_Shelf T
  have := na_Shelf_writes T

  obtain ⟨s, rfl, rfl, hP⟩ := hR
  show SvD K B _ [some (dR s.p)] (shO K s) _
  walk_at "dd"
  exact rc_listO (i := 2) rfl hP
theorem N_Shelf_log (T : Cxt K mg) : Mth P w K mg base CX0 1 (He.ga K "Shelf") "log" ["self"] (spR K (R_Shelf_log K)) [] := by
  obtain ⟨fd, F, G⟩ := F_Shelf_log (P := P) (w := w) (base := base)  T
  exact ⟨_, fd, [], cl_Shelf T, me_Shelf_log T, G, F.bindsN fun _ _ _ _ _ _ us hl => match us, hl with | [_], _ => rfl, .nil⟩

def R_Leaf_told (K : PySem.W.Frag) : DR := fun ds fp P _ => ∃ p n A C, ds = [dR p] ∧ fp = A ++ ((p, .ins (He.ga K "Leaf") [("number", n), ("rows", .lst [])]) :: C) ∧ P (.tup [dS "leaf", n, .lst []]) fp
theorem sc_Leaf_told : FnScope ["self", "key", "versions"] ["self"] (defScope s_Leaf_told) := ⟨rfl, rfl, rfl, by decide +kernel, rfl, by decide +kernel, by decide +kernel⟩
theorem F_Leaf_told (T : Cxt K mg) : ∃ fd, FunD K d_Leaf_told.name d_Leaf_told.qual d_Leaf_told.params d_Leaf_told.body d_Leaf_told.scope (d_Leaf_told.dvs K) (d_Leaf_told.kws K) (He.fAd K d_Leaf_told.at_) fd ∧ FnOk P w K mg base CX0 1 (He.fAd K d_Leaf_told.at_) fd ["self"] (spR K (R_Leaf_told K)) := by
  obtain ⟨fd, F⟩ := T.c.def_ 5 (d := d_Leaf_told) rfl
  refine ⟨fd, F, fnR F sc_Leaf_told (fun ds fp PD X h => by obtain ⟨_, _, _, _, rfl, _⟩ := h; rfl) (fun cdv A outer s H E hr => ?_)⟩
  have hu := hu_of hr
  refine ⟨_, (pss_one (ps_ret (pe_tup (pa_cons pe_str (pa_cons (pe_fld (pv 0) rfl) (pa_cons (pe_lc (own := [("key", 1), ("versions", 2)]) rfl sc_Leaf_told.nd (pi_list (pe_fld (pv 0) rfl)) (blkOk_by (N := ["self", "key", "versions"]) (sc := defScope s_Leaf_told) (by decide +kernel)) (fun _ _ _ _ _ => (pg_tupK (K := K) rfl (n := 2) rfl (pgs_cons (pg_name (i := 1) sc_Leaf_told.nd rfl (by first | exact Or.inl rfl | exact Or.inr rfl)) (pgs_cons (pg_name (i := 2) sc_Leaf_told.nd rfl (by first | exact Or.inl rfl | exact Or.inr rfl)) pgs_nil)))) (fun _ _ _ _ _ => pts_nil) (fun _ _ _ _ _ => (pe_tup (pa_cons (pv 1) (pa_cons (pe_callTy (call_listUK (K := K) rfl) rfl (f_list T) boot_list (pa_cons (pv 2) pa_nil)) pa_nil))))) pa_nil)))))), ?_⟩
  intro B ds fp PD X hE hX hM hR
  try dsimp only [cxK, cxN]
  have := cl_Leaf T
  have := na_Leaf_number T
  have := na_Leaf_rows T

  obtain ⟨p, n, A, C, rfl, rfl, hP⟩ := hR
  have hi : (A ++ ((p, M.ins (He.ga K "Leaf") [("number", n), ("rows", .lst [])]) :: C))[A.length]? = some (p, .ins (He.ga K "Leaf") [("number", n), ("rows", .lst [])]) := by simp
  show SvD K B _ [some (dR p), none, none] _ _
  refine sv_ret (ed_tup ?_)
  walk_at "dd"
  refine ⟨_, _, InsD.own _ hi, by assumption, by assumption, ?_⟩
  walk_at "dd"
  refine ed_lcL (wt_tup (wt_cons name_mono (wt_name (by decide)) (wt_cons name_mono (wt_name (by decide)) wt_nil))) ?_
  walk_at "dd"
  refine ⟨_, _, InsD.own _ hi, by assumption, by assumption, ?_⟩
  walk_at "dd"
  refine ⟨fun _ acc o' => acc = [] ∧ o' = _, ⟨rfl, rfl⟩, fun i x hx => by simp at hx, fun acc o' h => ?_⟩
  obtain ⟨rfl, rfl⟩ := h
  walk_at "dd"
  exact hP
theorem N_Leaf_told (T : Cxt K mg) : Mth P w K mg base CX0 1 (He.ga K "Leaf") "told" ["self"] (spR K (R_Leaf_told K)) [] := by
  obtain ⟨fd, F, G⟩ := F_Leaf_told (P := P) (w := w) (base := base)  T
  exact ⟨_, fd, [], cl_Leaf T, me_Leaf_told T, G, F.bindsN fun _ _ _ _ _ _ us hl => match us, hl with | [_], _ => rfl, .nil⟩

structure StS where
  p : Addr
  k : Addr
  t : Addr
  d : Addr
  rule : D
def stO (K : PySem.W.Frag) (s : StS) : Ow := [(s.p, .ins (He.ga K "Store") [("rule", s.rule), ("last", dI 0), ("kept", dR s.k), ("fresh", dI 1), ("top", dR s.t), ("done", dR s.d), ("busy", dI 0)]), (s.k, .lst []), (s.t, .ins (He.ga K "Leaf") [("number", dI 0), ("rows", .lst [])]), (s.d, .lst [])]
def R_Storezz_initzz (K : PySem.W.Frag) : DR := fun ds fp P X => ∃ p rule, ds = [dR p, rule] ∧ fp = [(p, .ins (He.ga K "Store") [])] ∧ plainIn rule ∧ (ruleB rule = false → X (He.ga K "NoRule") none fp) ∧ (ruleB rule = true → ∀ k t d, P dN (stO K ⟨p, k, t, d, rule⟩))
theorem sc_Storezz_initzz : FnScope ["self", "rule"] ["self", "rule"] (defScope s_Storezz_initzz) := ⟨rfl, rfl, rfl, by decide +kernel, rfl, by decide +kernel, by decide +kernel⟩
theorem F_Storezz_initzz (T : Cxt K mg) : ∃ fd, FunD K d_Storezz_initzz.name d_Storezz_initzz.qual d_Storezz_initzz.params d_Storezz_initzz.body d_Storezz_initzz.scope (d_Storezz_initzz.dvs K) (d_Storezz_initzz.kws K) (He.fAd K d_Storezz_initzz.at_) fd ∧ FnOk P w K mg base (L2.CX P w) 4 (He.fAd K d_Storezz_initzz.at_) fd ["self", "rule"] (spR K (R_Storezz_initzz K)) := by
  obtain ⟨fd, F⟩ := T.c.def_ 6 (d := d_Storezz_initzz) rfl
  refine ⟨fd, F, fnX F sc_Storezz_initzz (fun ds fp PD X h => by obtain ⟨_, _, rfl, _⟩ := h; rfl) (fun cdv A outer s H E hr => ?_)⟩
  have hu := hu_of hr
  refine ⟨_, (pss_cons (ps_if (pt_not (pt_val (pe_cal (C_is_rule T) (hr.mono (by decide)) rfl pass0 (pa_cons (pv 1) pa_nil))))
      (pss_one (ps_rz rfl (takes_of rfl rfl rfl rfl) (pmk_own PySem.F.excBase_ValueError (ex_NoRule T).1 (g_NoRule T) (ex_NoRule T).2.1 (raises_own (ex_NoRule T).2.2.1 (ex_NoRule T).2.2.2) rfl)))
      pss_nil)
    (pss_cons (ps_fld (pv 0) (pv 1) rfl)
    (pss_cons (ps_fld (pv 0) pe_int rfl)
    (pss_cons (ps_fld (pv 0) (pe_own (pe_lst pa_nil)) rfl)
    (pss_cons (ps_fld (pv 0) pe_int rfl)
    (pss_cons (ps_fld (pv 0) (pe_mkr (M_Leaf T) (hr.mono (by decide)) rfl pass0 (pa_cons pe_int (pa_cons (pe_lst pa_nil) pa_nil))) rfl)
    (pss_cons (ps_fld (pv 0) (pe_own (pe_lst pa_nil)) rfl)
    (pss_one (ps_fld (pv 0) pe_int rfl))))))))), ?_⟩
  intro B ds fp PD X hE hX hM hR
  try dsimp only [cxK, cxN]
  have := cl_Store T
  have := na_Store_rule T
  have := na_Store_last T
  have := na_Store_kept T
  have := na_Store_fresh T
  have := na_Store_top T
  have := na_Store_done T
  have := na_Store_busy T
  subst hE hX

  obtain ⟨p, rule, rfl, rfl, hr0, fX, hP⟩ := hR
  show SvD K B _ [some (dR p), some rule] [(p, .ins (He.ga K "Store") [])] _
  walk_at "dd"
  · refine fX ?_
    simp_all
  · refine ed_make ?_
    walk_at "dd"
    refine ⟨_, _, _, rfl, rfl, rfl, ?_⟩
    walk_at "dd"
    refine hP ?_ _ _ _
    simp_all
theorem M_Store (T : Cxt K mg) : Mkr P w K mg base (L2.CX P w) 4 (He.ga K "Store") "Store" ["self", "rule"] (spR K (R_Storezz_initzz K)) [] := by
  obtain ⟨fd, F, G⟩ := F_Storezz_initzz (P := P) (w := w) (base := base) T
  exact ⟨_, fd, [], mk_Store T, g_Store T, G, F.bindsN fun _ _ _ _ _ _ us hl => match us, hl with | [_, _], _ => rfl, .nil⟩

def R_rooms_told (K : PySem.W.Frag) : DR := fun ds fp P _ => ∃ p n A C, ds = [dR p] ∧ fp = A ++ ((p, .ins (He.ga K "Leaf") [("number", n), ("rows", .lst [])]) :: C) ∧ P (.lst [.tup [dS "leaf", n, .lst []]]) fp
theorem sc_rooms_told : FnScope ["room", "rooms", "child"] ["room"] (defScope s_rooms_told) := ⟨rfl, rfl, rfl, by decide +kernel, rfl, by decide +kernel, by decide +kernel⟩
theorem F_rooms_told (T : Cxt K mg) : ∃ fd, FunD K d_rooms_told.name d_rooms_told.qual d_rooms_told.params d_rooms_told.body d_rooms_told.scope (d_rooms_told.dvs K) (d_rooms_told.kws K) (He.fAd K d_rooms_told.at_) fd ∧ FnOk P w K mg base CX0 3 (He.fAd K d_rooms_told.at_) fd ["room"] (spR K (R_rooms_told K)) := by
  obtain ⟨fd, F⟩ := T.c.def_ 8 (d := d_rooms_told) rfl
  refine ⟨fd, F, fnR F sc_rooms_told (fun ds fp PD X h => by obtain ⟨_, _, _, _, rfl, _⟩ := h; rfl) (fun cdv A outer s H E hr => ?_)⟩
  have hu := hu_of hr
  refine ⟨_, (pss_cons (ps_set (i := 1) sc_rooms_told.nd rfl (by first | exact Or.inl rfl | exact Or.inr rfl) (pe_own (pe_lst (pa_cons (pe_mth0 (pv 0) (N_Leaf_told T) (hr.mono (by decide)) pass0) pa_nil))))
    (pss_cons (ps_if (pt_not (pt_val (pe_mth0 (pv 0) (N_Leaf_is_leaf T) (hr.mono (by decide)) pass0)))
      (pss_one ps_never)
      pss_nil)
    (pss_one (ps_ret (pe_frz (pv 1)))))), ?_⟩
  intro B ds fp PD X hE hX hM hR
  try dsimp only [cxK, cxN]

  obtain ⟨p, n, A, C, rfl, rfl, hP⟩ := hR
  have hi : (A ++ ((p, M.ins (He.ga K "Leaf") [("number", n), ("rows", .lst [])]) :: C))[A.length]? = some (p, .ins (He.ga K "Leaf") [("number", n), ("rows", .lst [])]) := by simp
  show SvD K B _ [some (dR p), none, none] _ _
  walk_at "dd"
  refine ed_meth ?_
  walk_at "dd"
  refine ⟨_, InsD.own _ hi, rfl, ?_⟩
  walk_at "dd"
  refine ⟨[], A ++ ((p, M.ins (He.ga K "Leaf") [("number", n), ("rows", .lst [])]) :: C), [], by simp, p, n, A, C, rfl, rfl, ?_⟩
  dsimp only
  rw [List.nil_append, List.append_nil]
  walk_at "d"
  refine ⟨by simp, fun q hq => ?_⟩
  have hi2 : ((A ++ ((p, M.ins (He.ga K "Leaf") [("number", n), ("rows", .lst [])]) :: C)) ++ [(q, M.lst [D.tup [dS "leaf", n, D.lst []]])])[A.length]? = some (p, .ins (He.ga K "Leaf") [("number", n), ("rows", .lst [])]) := by simp
  have hi3 : ((A ++ ((p, M.ins (He.ga K "Leaf") [("number", n), ("rows", .lst [])]) :: C)) ++ [(q, M.lst [D.tup [dS "leaf", n, D.lst []]])])[(A ++ ((p, M.ins (He.ga K "Leaf") [("number", n), ("rows", .lst [])]) :: C)).length]? = some (q, M.lst [D.tup [dS "leaf", n, D.lst []]]) := by simp
  walk_at "dd"
  refine ed_methP ?_
  walk_at "dd"
  refine ⟨_, InsD.own _ hi2, rfl, ?_⟩
  walk_at "dd"
  refine ⟨_, rfl, rfl, ?_⟩
  walk_at "dd"
  refine ⟨_, q, _, rfl, hi3, hq, ?_⟩
  have e : ((A ++ ((p, M.ins (He.ga K "Leaf") [("number", n), ("rows", .lst [])]) :: C)) ++ [(q, M.lst [D.tup [dS "leaf", n, D.lst []]])]).eraseIdx (A ++ ((p, M.ins (He.ga K "Leaf") [("number", n), ("rows", .lst [])]) :: C)).length = A ++ ((p, M.ins (He.ga K "Leaf") [("number", n), ("rows", .lst [])]) :: C) := by
    rw [List.eraseIdx_append_of_length_le (Nat.le_refl _)]
    simp
  rw [e]
  exact hP
theorem C_rooms_told (T : Cxt K mg) : Cal P w K mg base CX0 3 "rooms_told" ["room"] (spR K (R_rooms_told K)) [] := by
  obtain ⟨fd, F, G⟩ := F_rooms_told (P := P) (w := w) (base := base)  T
  exact ⟨_, fd, [], G, g_rooms_told T, F.kp, F.bindsN fun _ _ _ _ _ _ us hl => match us, hl with | [_], _ => rfl, .nil⟩

def R_Store_image (K : PySem.W.Frag) : DR := fun ds fp P _ => ∃ s : StS, ds = [dR s.p] ∧ fp = stO K s ∧ P (.tup [s.rule, dI 0, .lst [], dI 1, .lst [.tup [dS "leaf", dI 0, .lst []]]]) (stO K s)
theorem sc_Store_image : FnScope ["self"] ["self"] (defScope s_Store_image) := ⟨rfl, rfl, rfl, by decide +kernel, rfl, by decide +kernel, by decide +kernel⟩
theorem F_Store_image (T : Cxt K mg) : ∃ fd, FunD K d_Store_image.name d_Store_image.qual d_Store_image.params d_Store_image.body d_Store_image.scope (d_Store_image.dvs K) (d_Store_image.kws K) (He.fAd K d_Store_image.at_) fd ∧ FnOk P w K mg base CX0 4 (He.fAd K d_Store_image.at_) fd ["self"] (spR K (R_Store_image K)) := by
  obtain ⟨fd, F⟩ := T.c.def_ 7 (d := d_Store_image) rfl
  refine ⟨fd, F, fnR F sc_Store_image (fun ds fp PD X h => by obtain ⟨_, rfl, _⟩ := h; rfl) (fun cdv A outer s H E hr => ?_)⟩
  have hu := hu_of hr
  refine ⟨_, (pss_one (ps_ret (pe_tup (pa_cons (pe_fld (pv 0) rfl) (pa_cons (pe_fld (pv 0) rfl) (pa_cons (pe_callTy call_listU rfl (f_list T) boot_list (pa_cons (pe_fld (pv 0) rfl) pa_nil)) (pa_cons (pe_fld (pv 0) rfl) (pa_cons (pe_cal (C_rooms_told T) (hr.mono (by decide)) rfl pass0 (pa_cons (pe_fld (pv 0) rfl) pa_nil)) pa_nil)))))))), ?_⟩
  intro B ds fp PD X hE hX hM hR
  try dsimp only [cxK, cxN]
  have := cl_Store T
  have := na_Store_rule T
  have := na_Store_last T
  have := na_Store_fresh T
  have := na_Store_kept T
  have := na_Store_top T

  obtain ⟨s, rfl, rfl, hP⟩ := hR
  show SvD K B _ [some (dR s.p)] (stO K s) _
  walk_at "dd"
  refine rc_listO (i := 1) rfl ?_
  walk_at "dd"
  refine ed_call ?_
  walk_at "dd"
  refine ⟨[], stO K s, [], rfl, s.t, dI 0, [_, _], [_], rfl, rfl, ?_⟩
  walk_at "dd"
  exact hP
theorem N_Store_image (T : Cxt K mg) : Mth P w K mg base CX0 4 (He.ga K "Store") "image" ["self"] (spR K (R_Store_image K)) [] := by
  obtain ⟨fd, F, G⟩ := F_Store_image (P := P) (w := w) (base := base)  T
  exact ⟨_, fd, [], cl_Store T, me_Store_image T, G, F.bindsN fun _ _ _ _ _ _ us hl => match us, hl with | [_], _ => rfl, .nil⟩

def R_joined : DR := fun ds fp P _ => ∃ (ys : List Str) (sg : Str) (d : D), ds = [d, dS sg] ∧ d = .lst (ys.map dS) ∧ fp = [] ∧ (ys.map dS).all shOk = true ∧ (ys.map (·.length)).sum + ys.length * sg.length ≤ 16777216 ∧ P (dS (if ys.isEmpty then "-" else Txt.join sg ys)) []
theorem sc_joined : FnScope ["words", "sign"] ["words", "sign"] (defScope s_joined) := ⟨rfl, rfl, rfl, by decide +kernel, rfl, by decide +kernel, by decide +kernel⟩
theorem F_joined (T : Cxt K mg) : ∃ fd, FunD K d_joined.name d_joined.qual d_joined.params d_joined.body d_joined.scope (d_joined.dvs K) (d_joined.kws K) (He.fAd K d_joined.at_) fd ∧ FnOk P w K mg base CX0 1 (He.fAd K d_joined.at_) fd ["words", "sign"] (spR K R_joined) := by
  obtain ⟨fd, F⟩ := T.c.def_ 9 (d := d_joined) rfl
  refine ⟨fd, F, fnR F sc_joined (fun ds fp PD X h => by obtain ⟨_, _, _, rfl, _⟩ := h; rfl) (fun cdv A outer s H E hr => ?_)⟩
  have hu := hu_of hr
  refine ⟨_, (pss_one (ps_ret (pe_ifExp (pt_cmpR (op_neU hr) (pv 0) (pe_lst pa_nil) (nomark _)) (pe_joinU (pv 1) (pv 0)) pe_str))), ?_⟩
  intro B ds fp PD X hE hX hM hR
  try dsimp only [cxK, cxN]

  obtain ⟨ys, sg, _, rfl, rfl, rfl, hs, hl, hP⟩ := hR
  show SvD K B _ [some (.lst (ys.map dS)), some (dS sg)] [] _
  walk_at "dd"
  refine rv_neNil hs ?_
  walk_at "dd"
  · refine rm_join hl ?_
    refine fin hP ?_
    cases ys <;> simp_all
  · refine fin hP ?_
    cases ys <;> simp_all
theorem C_joined (T : Cxt K mg) : Cal P w K mg base CX0 1 "joined" ["words", "sign"] (spR K R_joined) [] := by
  obtain ⟨fd, F, G⟩ := F_joined (P := P) (w := w) (base := base)  T
  exact ⟨_, fd, [], G, g_joined T, F.kp, F.bindsN fun _ _ _ _ _ _ us hl => match us, hl with | [_, _], _ => rfl, .nil⟩

def leafT (n : Nat) : Str := ((("leaf " : Str) ++ (toString (n : Int) : Str)) ++ (" " : Str)) ++ ("-" : Str)
def R_room_text : DR := fun ds fp P _ => ∃ (n : Nat) (pl : D), ds = [.tup [dS "leaf", dI n, .lst []], pl] ∧ fp = [] ∧ n < 400 ∧ P (dS (leafT n)) []
theorem sc_room_text : FnScope ["room", "places", "parts", "word", "number", "pivots", "children", "tray", "pivot", "child", "note", "row"] ["room", "places"] (defScope s_room_text) := ⟨rfl, rfl, rfl, by decide +kernel, rfl, by decide +kernel, by decide +kernel⟩
theorem F_room_text (T : Cxt K mg) : ∃ fd, FunD K d_room_text.name d_room_text.qual d_room_text.params d_room_text.body d_room_text.scope (d_room_text.dvs K) (d_room_text.kws K) (He.fAd K d_room_text.at_) fd ∧ FnOk P w K mg base CX0 2 (He.fAd K d_room_text.at_) fd ["room", "places"] (spR K R_room_text) := by
  obtain ⟨fd, F⟩ := T.c.def_ 10 (d := d_room_text) rfl
  refine ⟨fd, F, fnR F sc_room_text (fun ds fp PD X h => by obtain ⟨_, _, rfl, _⟩ := h; rfl) (fun cdv A outer s H E hr => ?_)⟩
  have hu := hu_of hr
  refine ⟨_, (pss_cons (ps_if (pt_cmpR (op_eqU hr) (pe_ix ix_seq (pv 0) pe_int (fun _ _ => rfl)) pe_str (nomark _))
      (pss_one (ps_ret (pe_op op_addU (pe_op op_addU (pe_op op_addU pe_str (pe_callTy call_strU rfl (f_str T) boot_str (pa_cons (pe_ix ix_seq (pv 0) pe_int (fun _ _ => rfl)) pa_nil))) pe_str) (pe_cal (C_joined T) (hr.mono (by decide)) rfl pass0 (pa_cons (pe_lc (own := [("row", 11)]) rfl sc_room_text.nd (pi_list (pe_ix ix_seq (pv 0) pe_int (fun _ _ => rfl))) (blkOk_by (N := ["room", "places", "parts", "word", "number", "pivots", "children", "tray", "pivot", "child", "note", "row"]) (sc := defScope s_room_text) (by decide +kernel)) (fun _ _ _ _ _ => (pg_name (i := 11) sc_room_text.nd rfl (by first | exact Or.inl rfl | exact Or.inr rfl))) (fun _ _ _ _ _ => pts_nil) (fun _ _ _ _ _ => pe_nev)) (pa_cons pe_str pa_nil))))))
      pss_nil)
    (pss_cons ps_never
    (pss_cons ps_never
    (pss_cons ps_never
    (pss_cons ps_never
    (pss_one ps_never)))))), ?_⟩
  intro B ds fp PD X hE hX hM hR
  try dsimp only [cxK, cxN]

  obtain ⟨n, pl, rfl, rfl, hn, hP⟩ := hR
  show SvD K B _ [some (.tup [dS "leaf", dI n, .lst []]), some pl, none, none, none, none, none, none, none, none, none, none] [] _
  walk_at "dd"
  have hs := txt_small n hn
  have l1 : ("leaf " : Str).length = 5 := by decide +kernel
  have l2 : (" " : Str).length = 1 := by decide +kernel
  have l3 : ("-" : Str).length = 1 := by decide +kernel
  refine rc_strI (log2_small (by omega) (by omega)) ?_
  refine rv_addS (by omega) ?_
  walk_at "dd"
  refine rv_addS (by rw [str_app_len]; omega) ?_
  refine ed_callP ?_
  walk_at "dd"
  refine ed_lcL (wt_name (by decide)) ?_
  walk_at "dd"
  refine ⟨fun _ acc o' => acc = [] ∧ o' = _, ⟨rfl, rfl⟩, fun i x hx => by simp at hx, fun acc o' h => ?_⟩
  obtain ⟨rfl, rfl⟩ := h
  walk_at "dd"
  refine ⟨[], _, _, rfl, rfl, rfl, rfl, by decide, rfl, ?_⟩
  refine rv_addS (by rw [str_app_len, str_app_len]; show _ + ("-" : Str).length ≤ _; omega) ?_
  exact hP
theorem C_room_text (T : Cxt K mg) : Cal P w K mg base CX0 2 "room_text" ["room", "places"] (spR K R_room_text) [] := by
  obtain ⟨fd, F, G⟩ := F_room_text (P := P) (w := w) (base := base)  T
  exact ⟨_, fd, [], G, g_room_text T, F.kp, F.bindsN fun _ _ _ _ _ _ us hl => match us, hl with | [_, _], _ => rfl, .nil⟩
local macro_rules | `(tactic| walk_at "d") => `(tactic| first | (with_reducible refine ed_callP (R := R_room_text) ?_) | ((with_reducible show R_room_text _ _ _ _); refine ⟨0, _, rfl, rfl, by decide, ?_⟩))

def pageT (z : Str) : Str := ((toString (z.length : Int) : Str) ++ (" " : Str)) ++ z
def R_page_of : DR := fun ds fp P _ => ∃ (z : Str), ds = [dS z] ∧ fp = [] ∧ z.length < 400 ∧ P (dS (pageT z)) []
theorem sc_page_of : FnScope ["body"] ["body"] (defScope s_page_of) := ⟨rfl, rfl, rfl, by decide +kernel, rfl, by decide +kernel, by decide +kernel⟩
theorem F_page_of (T : Cxt K mg) : ∃ fd, FunD K d_page_of.name d_page_of.qual d_page_of.params d_page_of.body d_page_of.scope (d_page_of.dvs K) (d_page_of.kws K) (He.fAd K d_page_of.at_) fd ∧ FnOk P w K mg base CX0 1 (He.fAd K d_page_of.at_) fd ["body"] (spR K R_page_of) := by
  obtain ⟨fd, F⟩ := T.c.def_ 12 (d := d_page_of) rfl
  refine ⟨fd, F, fnR F sc_page_of (fun ds fp PD X h => by obtain ⟨_, rfl, _⟩ := h; rfl) (fun cdv A outer s H E hr => ?_)⟩
  have hu := hu_of hr
  refine ⟨_, (pss_one (ps_ret (pe_op op_addU (pe_op op_addU (pe_callTy call_strU rfl (f_str T) boot_str (pa_cons (pe_callB call_lenU rfl (f_len T) boot_len (pa_cons (pv 0) pa_nil)) pa_nil)) pe_str) (pv 0)))), ?_⟩
  intro B ds fp PD X hE hX hM hR
  try dsimp only [cxK, cxN]

  obtain ⟨z, rfl, rfl, hz, hP⟩ := hR
  show SvD K B _ [some (dS z)] [] _
  walk_at "dd"
  refine rc_lenS (by omega) ?_
  walk_at "dd"
  have hs := txt_small z.length hz
  have l2 : (" " : Str).length = 1 := by decide +kernel
  refine rc_strI (log2_small (by omega) (by omega)) ?_
  walk_at "dd"
  refine rv_addS (by rw [str_app_len]; omega) ?_
  exact hP
theorem C_page_of (T : Cxt K mg) : Cal P w K mg base CX0 1 "page_of" ["body"] (spR K R_page_of) [] := by
  obtain ⟨fd, F, G⟩ := F_page_of (P := P) (w := w) (base := base)  T
  exact ⟨_, fd, [], G, g_page_of T, F.kp, F.bindsN fun _ _ _ _ _ _ us hl => match us, hl with | [_], _ => rfl, .nil⟩
local macro_rules | `(tactic| walk_at "d") => `(tactic| first | (with_reducible refine ed_callP (R := R_page_of) ?_) | ((with_reducible show R_page_of _ _ _ _); refine ⟨_, rfl, rfl, ?_, ?_⟩))

def R_Keptzz_initzz (K : PySem.W.Frag) : DR := fun ds fp P _ => ∃ p a b c e, ds = [dR p, a, b, c, e] ∧ fp = [(p, .ins (He.ga K "Kept") [])] ∧ P dN [(p, .ins (He.ga K "Kept") [("store", a), ("shelf", b), ("series", c), ("stands", e)])]
theorem sc_Keptzz_initzz : FnScope ["self", "store", "shelf", "series", "stands"] ["self", "store", "shelf", "series", "stands"] (defScope s_Keptzz_initzz) := ⟨rfl, rfl, rfl, by decide +kernel, rfl, by decide +kernel, by decide +kernel⟩
theorem F_Keptzz_initzz (T : Cxt K mg) : ∃ fd, FunD K d_Keptzz_initzz.name d_Keptzz_initzz.qual d_Keptzz_initzz.params d_Keptzz_initzz.body d_Keptzz_initzz.scope (d_Keptzz_initzz.dvs K) (d_Keptzz_initzz.kws K) (He.fAd K d_Keptzz_initzz.at_) fd ∧ FnOk P w K mg base CX0 1 (He.fAd K d_Keptzz_initzz.at_) fd ["self", "store", "shelf", "series", "stands"] (spR K (R_Keptzz_initzz K)) := by
  obtain ⟨fd, F⟩ := T.c.def_ 13 (d := d_Keptzz_initzz) rfl
  refine ⟨fd, F, fnR F sc_Keptzz_initzz (fun ds fp PD X h => by obtain ⟨_, _, _, _, _, rfl, _⟩ := h; rfl) (fun cdv A outer s H E hr => ?_)⟩
  have hu := hu_of hr
  refine ⟨_, (pss_cons (ps_fld (pv 0) (pv 1) rfl)
    (pss_cons (ps_fld (pv 0) (pv 2) rfl)
    (pss_cons (ps_fld (pv 0) (pv 3) rfl)
    (pss_one (ps_fld (pv 0) (pv 4) rfl))))), ?_⟩
  intro B ds fp PD X hE hX hM hR
  try dsimp only [cxK, cxN]
  have := cl_Kept T
  have := na_Kept_store T
  have := na_Kept_shelf T
  have := na_Kept_series T
  have := na_Kept_stands T

  obtain ⟨p, a, b, c, e, rfl, rfl, hP⟩ := hR
  show SvD K B _ [some (dR p), some a, some b, some c, some e] [(p, .ins (He.ga K "Kept") [])] _
  walk_at "dd"
  exact hP
theorem M_Kept (T : Cxt K mg) : Mkr P w K mg base CX0 1 (He.ga K "Kept") "Kept" ["self", "store", "shelf", "series", "stands"] (spR K (R_Keptzz_initzz K)) [] := by
  obtain ⟨fd, F, G⟩ := F_Keptzz_initzz (P := P) (w := w) (base := base) T
  exact ⟨_, fd, [], mk_Kept T, g_Kept T, G, F.bindsN fun _ _ _ _ _ _ us hl => match us, hl with | [_, _, _, _, _], _ => rfl, .nil⟩

def R_places_of : DR := fun ds fp P _ => ∃ (n rows sd : D), ds = [.tup [dS "leaf", n, rows], sd] ∧ fp = [] ∧ P (.dic []) []
theorem sc_places_of : FnScope ["room", "stands", "child"] ["room", "stands"] (defScope s_places_of) := ⟨rfl, rfl, rfl, by decide +kernel, rfl, by decide +kernel, by decide +kernel⟩
theorem F_places_of (T : Cxt K mg) : ∃ fd, FunD K d_places_of.name d_places_of.qual d_places_of.params d_places_of.body d_places_of.scope (d_places_of.dvs K) (d_places_of.kws K) (He.fAd K d_places_of.at_) fd ∧ FnOk P w K mg base CX0 1 (He.fAd K d_places_of.at_) fd ["room", "stands"] (spR K R_places_of) := by
  obtain ⟨fd, F⟩ := T.c.def_ 15 (d := d_places_of) rfl
  refine ⟨fd, F, fnR F sc_places_of (fun ds fp PD X h => by obtain ⟨_, _, _, rfl, _⟩ := h; rfl) (fun cdv A outer s H E hr => ?_)⟩
  have hu := hu_of hr
  refine ⟨_, (pss_cons (ps_if (pt_cmpR (op_eqU hr) (pe_ix ix_seq (pv 0) pe_int (fun _ _ => rfl)) pe_str (nomark _))
      (pss_one (ps_ret pe_dnewK))
      pss_nil)
    (pss_one ps_never)), ?_⟩
  intro B ds fp PD X hE hX hM hR
  try dsimp only [cxK, cxN]

  obtain ⟨n, rows, sd, rfl, rfl, hP⟩ := hR
  show SvD K B _ [some (.tup [dS "leaf", n, rows]), some sd, none] [] _
  walk_at "dd"
  refine ed_dnew ?_
  exact hP
theorem C_places_of (T : Cxt K mg) : Cal P w K mg base CX0 1 "places_of" ["room", "stands"] (spR K R_places_of) [] := by
  obtain ⟨fd, F, G⟩ := F_places_of (P := P) (w := w) (base := base)  T
  exact ⟨_, fd, [], G, g_places_of T, F.kp, F.bindsN fun _ _ _ _ _ _ us hl => match us, hl with | [_, _], _ => rfl, .nil⟩
local macro_rules | `(tactic| walk_at "d") => `(tactic| first | (with_reducible refine ed_callP (R := R_places_of) ?_) | ((with_reducible show R_places_of _ _ _ _); refine ⟨_, _, _, rfl, rfl, ?_⟩))

def R_free_place : DR := fun ds fp P _ => ∃ t, ds = [dR t] ∧ fp = [(t, .dic [])] ∧ P (dI 2) fp
theorem sc_free_place : FnScope ["taken", "place"] ["taken"] (defScope s_free_place) := ⟨rfl, rfl, rfl, by decide +kernel, rfl, by decide +kernel, by decide +kernel⟩
theorem F_free_place (T : Cxt K mg) : ∃ fd, FunD K d_free_place.name d_free_place.qual d_free_place.params d_free_place.body d_free_place.scope (d_free_place.dvs K) (d_free_place.kws K) (He.fAd K d_free_place.at_) fd ∧ FnOk P w K mg base CX0 1 (He.fAd K d_free_place.at_) fd ["taken"] (spR K R_free_place) := by
  obtain ⟨fd, F⟩ := T.c.def_ 16 (d := d_free_place) rfl
  refine ⟨fd, F, fnR F sc_free_place (fun ds fp PD X h => by obtain ⟨_, rfl, _⟩ := h; rfl) (fun cdv A outer s H E hr => ?_)⟩
  have hu := hu_of hr
  refine ⟨_, (pss_cons (ps_set (i := 1) sc_free_place.nd rfl (by first | exact Or.inl rfl | exact Or.inr rfl) pe_int)
    (pss_cons (ps_while PassesOwn.never (pt_cmp (pc_din hu (pv 1) (pv 0)))
      (pss_one (ps_aug (i := 1) sc_free_place.nd rfl (by first | exact Or.inl rfl | exact Or.inr rfl) pe_int ip_add)))
    (pss_one (ps_ret (pv 1))))), ?_⟩
  intro B ds fp PD X hE hX hM hR
  try dsimp only [cxK, cxN]

  obtain ⟨t, rfl, rfl, hP⟩ := hR
  show SvD K B _ [some (dR t), none] [(t, .dic [])] _
  walk_at "dd"
  refine sv_while (fun _ e o => e = [some (dR t), some (dI 2)] ∧ o = [(t, .dic [])]) 0 ⟨rfl, rfl⟩ fun m e o h => ?_
  obtain ⟨rfl, rfl⟩ := h
  walk_at "dd"
  exact hP
theorem C_free_place (T : Cxt K mg) : Cal P w K mg base CX0 1 "free_place" ["taken"] (spR K R_free_place) [] := by
  obtain ⟨fd, F, G⟩ := F_free_place (P := P) (w := w) (base := base)  T
  exact ⟨_, fd, [], G, g_free_place T, F.kp, F.bindsN fun _ _ _ _ _ _ us hl => match us, hl with | [_], _ => rfl, .nil⟩

def ruleD (t f r : Nat) (plan : Str) : D := .tup [dI t, dI f, dI r, dS plan]
def ruleT (t f r : Nat) (plan : Str) : Str := Txt.join "," [nT t, nT f, nT r, plan]
def headT (a b c e t f r : Nat) (plan : Str) : Str := ("head " : Str) ++ Txt.join " " [nT a, nT b, nT c, nT e, ruleT t f r plan, "-"]
def R_head_text : DR := fun ds fp P _ => ∃ (a b c e t f r : Nat) (plan : Str), ds = [.tup [dI a, dI b, dI c, dI e, ruleD t f r plan, .lst []]] ∧ fp = [] ∧ (a < 400 ∧ b < 400 ∧ c < 400 ∧ e < 400 ∧ t < 400 ∧ f < 400 ∧ r < 400 ∧ plan.length ≤ 20) ∧ P (dS (headT a b c e t f r plan)) []
theorem join_len (sg : Str) : ∀ l : List Str, (Txt.join sg l).length ≤ (l.map (·.length)).sum + l.length * sg.length
  | [] => by rw [TL.join_eq]; simp only [Str.join, List.map_nil, List.sum_nil, List.length_nil, Nat.zero_mul]; decide +kernel
  | [x] => by rw [TL.join_eq]; simp [Str.join]
  | x :: y :: r => by
    have h := join_len sg (y :: r)
    rw [TL.join_eq] at h ⊢
    simp only [Str.join, str_app_len, List.map_cons, List.sum_cons, List.length_cons] at h ⊢
    have e : (r.length + 1 + 1) * sg.length = (r.length + 1) * sg.length + sg.length := by rw [Nat.add_mul, Nat.one_mul]
    rw [e]
    omega
theorem ruleT_len {t f r : Nat} {plan : Str} (h : t < 400 ∧ f < 400 ∧ r < 400 ∧ plan.length ≤ 20) : (ruleT t f r plan).length ≤ 40 := by
  obtain ⟨h1, h2, h3, h4⟩ := h
  have := join_len "," [nT t, nT f, nT r, plan]
  have e : ("," : Str).length = 1 := by decide +kernel
  have g1 := nT_len h1
  have g2 := nT_len h2
  have g3 := nT_len h3
  simp only [List.map_cons, List.map_nil, List.sum_cons, List.sum_nil, List.length_cons, List.length_nil] at this
  rw [e] at this
  unfold ruleT
  omega
theorem headT_len {a b c e t f r : Nat} {plan : Str} (h : a < 400 ∧ b < 400 ∧ c < 400 ∧ e < 400 ∧ t < 400 ∧ f < 400 ∧ r < 400 ∧ plan.length ≤ 20) : (headT a b c e t f r plan).length ≤ 100 := by
  obtain ⟨h1, h2, h3, h4, h5, h6, h7, h8⟩ := h
  have := join_len " " [nT a, nT b, nT c, nT e, ruleT t f r plan, "-"]
  have e1 : (" " : Str).length = 1 := by decide +kernel
  have e2 : ("-" : Str).length = 1 := by decide +kernel
  have e3 : ("head " : Str).length = 5 := by decide +kernel
  have g1 := nT_len h1
  have g2 := nT_len h2
  have g3 := nT_len h3
  have g4 := nT_len h4
  have g5 := ruleT_len ⟨h5, h6, h7, h8⟩
  simp only [List.map_cons, List.map_nil, List.sum_cons, List.sum_nil, List.length_cons, List.length_nil] at this
  rw [e1, e2] at this
  unfold headT
  rw [str_app_len, e3]
  omega
theorem sc_head_text : FnScope ["head", "numbers", "series", "last", "fresh", "place", "rule", "marks", "tray", "fan", "rows", "plan", "number", "mark"] ["head"] (defScope s_head_text) := ⟨rfl, rfl, rfl, by decide +kernel, rfl, by decide +kernel, by decide +kernel⟩
theorem F_head_text (T : Cxt K mg) : ∃ fd, FunD K d_head_text.name d_head_text.qual d_head_text.params d_head_text.body d_head_text.scope (d_head_text.dvs K) (d_head_text.kws K) (He.fAd K d_head_text.at_) fd ∧ FnOk P w K mg base CX0 2 (He.fAd K d_head_text.at_) fd ["head"] (spR K R_head_text) := by
  obtain ⟨fd, F⟩ := T.c.def_ 11 (d := d_head_text) rfl
  refine ⟨fd, F, fnR F sc_head_text (fun ds fp PD X h => by obtain ⟨_, _, _, _, _, _, _, _, rfl, _⟩ := h; rfl) (fun cdv A outer s H E hr => ?_)⟩
  have hu := hu_of hr
  refine ⟨_, (pss_cons (ps_asg (pv 0) (pg_tup (n := 6) rfl (pgs_cons (pg_name (i := 2) sc_head_text.nd rfl (by first | exact Or.inl rfl | exact Or.inr rfl)) (pgs_cons (pg_name (i := 3) sc_head_text.nd rfl (by first | exact Or.inl rfl | exact Or.inr rfl)) (pgs_cons (pg_name (i := 4) sc_head_text.nd rfl (by first | exact Or.inl rfl | exact Or.inr rfl)) (pgs_cons (pg_name (i := 5) sc_head_text.nd rfl (by first | exact Or.inl rfl | exact Or.inr rfl)) (pgs_cons (pg_name (i := 6) sc_head_text.nd rfl (by first | exact Or.inl rfl | exact Or.inr rfl)) (pgs_cons (pg_name (i := 7) sc_head_text.nd rfl (by first | exact Or.inl rfl | exact Or.inr rfl)) pgs_nil))))))))
    (pss_cons (ps_asg (pv 6) (pg_tup (n := 4) rfl (pgs_cons (pg_name (i := 8) sc_head_text.nd rfl (by first | exact Or.inl rfl | exact Or.inr rfl)) (pgs_cons (pg_name (i := 9) sc_head_text.nd rfl (by first | exact Or.inl rfl | exact Or.inr rfl)) (pgs_cons (pg_name (i := 10) sc_head_text.nd rfl (by first | exact Or.inl rfl | exact Or.inr rfl)) (pgs_cons (pg_name (i := 11) sc_head_text.nd rfl (by first | exact Or.inl rfl | exact Or.inr rfl)) pgs_nil))))))
    (pss_cons (ps_own (ps_setLc (i := 1) (own := [("number", 12)]) rfl sc_head_text.nd rfl rfl (sw_true rfl rfl rfl (by decide +kernel)) (pi_list (pe_lst (pa_cons (pv 2) (pa_cons (pv 3) (pa_cons (pv 4) (pa_cons (pv 5) pa_nil)))))) (blkOk_by (N := ["head", "numbers", "series", "last", "fresh", "place", "rule", "marks", "tray", "fan", "rows", "plan", "number", "mark"]) (sc := defScope s_head_text) (by decide +kernel)) (fun _ _ _ _ _ => (pg_name (i := 12) sc_head_text.nd rfl (by first | exact Or.inl rfl | exact Or.inr rfl))) (fun _ _ _ _ _ => pts_nil) (fun _ _ _ _ _ => (pe_callTy call_strU rfl (f_str T) boot_str (pa_cons (pv 12) pa_nil)))))
    (pss_cons (ps_expr (pe_bm PySem.F.plainAttrs_list PySem.F.slot_list_append PySem.F.type_list_append mt_append (pv 1) (pa_cons (pe_joinU pe_str (pe_lst (pa_cons (pe_callTy call_strU rfl (f_str T) boot_str (pa_cons (pv 8) pa_nil)) (pa_cons (pe_callTy call_strU rfl (f_str T) boot_str (pa_cons (pv 9) pa_nil)) (pa_cons (pe_callTy call_strU rfl (f_str T) boot_str (pa_cons (pv 10) pa_nil)) (pa_cons (pv 11) pa_nil)))))) pa_nil)))
    (pss_cons (ps_expr (pe_bm PySem.F.plainAttrs_list PySem.F.slot_list_append PySem.F.type_list_append mt_append (pv 1) (pa_cons (pe_cal (C_joined T) (hr.mono (by decide)) rfl pass0 (pa_cons (pe_lc (own := [("mark", 13)]) rfl sc_head_text.nd (pi_list (pv 7)) (blkOk_by (N := ["head", "numbers", "series", "last", "fresh", "place", "rule", "marks", "tray", "fan", "rows", "plan", "number", "mark"]) (sc := defScope s_head_text) (by decide +kernel)) (fun _ _ _ _ _ => (pg_name (i := 13) sc_head_text.nd rfl (by first | exact Or.inl rfl | exact Or.inr rfl))) (fun _ _ _ _ _ => pts_nil) (fun _ _ _ _ _ => (pe_callTy call_strU rfl (f_str T) boot_str (pa_cons (pv 13) pa_nil)))) (pa_cons pe_str pa_nil))) pa_nil)))
    (pss_one (ps_ret (pe_weak (pe_op op_addU pe_str (pe_joinU pe_str (pv 1))))))))))), ?_⟩
  intro B ds fp PD X hE hX hM hR
  try dsimp only [cxK, cxN]

  obtain ⟨a, b, c, e, t, f, r, plan, rfl, rfl, hb, hP⟩ := hR
  have hall := hb
  obtain ⟨h1, h2, h3, h4, h5, h6, h7, h8⟩ := hb
  have e1 : (" " : Str).length = 1 := by decide +kernel
  have e2 : ("-" : Str).length = 1 := by decide +kernel
  have e3 : ("head " : Str).length = 5 := by decide +kernel
  have e4 : ("," : Str).length = 1 := by decide +kernel
  have g1 := nT_len h1
  have g2 := nT_len h2
  have g3 := nT_len h3
  have g4 := nT_len h4
  have g5 := nT_len h5
  have g6 := nT_len h6
  have g7 := nT_len h7
  have gr := ruleT_len ⟨h5, h6, h7, h8⟩
  have gh := headT_len hall
  show SvD K B _ [some (.tup [dI a, dI b, dI c, dI e, .tup [dI t, dI f, dI r, dS plan], .lst []]), none, none, none, none, none, none, none, none, none, none, none, none, none] [] _
  walk_at "dd"
  refine ed_oMapL (wt_name (by decide)) ?_
  walk_at "dd"
  refine ⟨strD, fun x hx q acc hq => ?_, fun q hq => ?_⟩
  · simp only [List.mem_cons, List.not_mem_nil, or_false] at hx
    rcases hx with rfl | rfl | rfl | rfl
    all_goals walk_at "dd"
    all_goals refine rc_strI (log2_small (by omega) (by omega)) ?_
    all_goals exact ⟨rfl, rfl⟩
  · walk_at "dd"
    refine rc_strI (log2_small (by omega) (by omega)) ?_
    walk_at "dd"
    refine rc_strI (log2_small (by omega) (by omega)) ?_
    walk_at "dd"
    refine rc_strI (log2_small (by omega) (by omega)) ?_
    walk_at "dd"
    refine rm_join (ys := [nT t, nT f, nT r, plan]) (by simp only [List.map_cons, List.map_nil, List.sum_cons, List.sum_nil, List.length_cons, List.length_nil]; rw [e4]; omega) ?_
    walk_at "dd"
    refine ed_callP ?_
    walk_at "dd"
    refine ed_mapL (wt_name (by decide)) ?_
    walk_at "dd"
    refine ⟨strD, fun x hx => by simp at hx, ?_⟩
    walk_at "dd"
    refine ⟨[], _, _, rfl, rfl, rfl, rfl, by decide, rfl, ?_⟩
    walk_at "dd"
    refine rm_joinO (i := 0) (ys := [nT a, nT b, nT c, nT e, ruleT t f r plan, "-"]) rfl (by simp only [List.map_cons, List.map_nil, List.sum_cons, List.sum_nil, List.length_cons, List.length_nil]; rw [e1, e2]; omega) ?_
    refine rv_addS (by have := gh; unfold headT at this; rw [str_app_len] at this; omega) ?_
    exact DropTo.mk _ (List.nil_sublist _) hP
theorem C_head_text (T : Cxt K mg) : Cal P w K mg base CX0 2 "head_text" ["head"] (spR K R_head_text) [] := by
  obtain ⟨fd, F, G⟩ := F_head_text (P := P) (w := w) (base := base)  T
  exact ⟨_, fd, [], G, g_head_text T, F.kp, F.bindsN fun _ _ _ _ _ _ us hl => match us, hl with | [_], _ => rfl, .nil⟩

structure KeS where
  kp : Addr
  sd : Addr
def freshO (K : PySem.W.Frag) (sh : ShS) (st : StS) (k : KeS) : Ow := [(k.sd, .dic []), (k.kp, .ins (He.ga K "Kept") [("store", dR st.p), ("shelf", dR sh.p), ("series", dI (-1)), ("stands", dR k.sd)])]
def keptO (K : PySem.W.Frag) (sh : ShS) (st : StS) (k : KeS) : Ow := [(k.kp, .ins (He.ga K "Kept") [("store", dR st.p), ("shelf", dR sh.p), ("series", dI 0), ("stands", dR k.sd)]), (k.sd, .dic [(.inl 0, .tup [dS (leafT 0), dI 2])])]
def headOf (t f r : Nat) (plan : Str) : Str := pageT (headT 0 0 1 2 t f r plan)
def begunS (sh : ShS) (t f r : Nat) (plan : Str) : ShS := { sh with texts := [(.inl 2, dS (pageT (leafT 0))), (.inl 0, dS (headOf t f r plan))], lines := "", writes := ((sh.writes ++ [.tup [dS "page", dI 2, dS (pageT (leafT 0))]]) ++ [.tup [dS "page", dI 0, dS (headOf t f r plan)]]) ++ [.tup [dS "blot"]] }
def R_Kept_settle (K : PySem.W.Frag) : DR := fun ds fp P _ => ∃ (sh : ShS) (st : StS) (k : KeS) (t f r : Nat) (plan : Str), ds = [dR k.kp] ∧ fp = shO K sh ++ (stO K st ++ freshO K sh st k) ∧ st.rule = ruleD t f r plan ∧ (t < 400 ∧ f < 400 ∧ r < 400 ∧ plan.length ≤ 20) ∧ sh.texts = [] ∧ sh.writes.length < 1000 ∧
  ∀ v sd' fp', ((shO K (begunS sh t f r plan)) ++ (stO K st ++ keptO K sh st ⟨k.kp, sd'⟩)).Sublist fp' → P v fp' 
theorem sc_Kept_settle : FnScope ["self", "taken", "stands", "written", "room", "head", "rule", "last", "marks", "fresh", "rooms", "body", "place"] ["self"] (defScope s_Kept_settle) := ⟨rfl, rfl, rfl, by decide +kernel, rfl, by decide +kernel, by decide +kernel⟩
theorem F_Kept_settle (T : Cxt K mg) : ∃ fd, FunD K d_Kept_settle.name d_Kept_settle.qual d_Kept_settle.params d_Kept_settle.body d_Kept_settle.scope (d_Kept_settle.dvs K) (d_Kept_settle.kws K) (He.fAd K d_Kept_settle.at_) fd ∧ FnOk P w K mg base CX0 5 (He.fAd K d_Kept_settle.at_) fd ["self"] (spR K (R_Kept_settle K)) := by
  obtain ⟨fd, F⟩ := T.c.def_ 14 (d := d_Kept_settle) rfl
  refine ⟨fd, F, fnR F sc_Kept_settle (fun ds fp PD X h => by obtain ⟨_, _, _, _, _, _, _, rfl, _⟩ := h; rfl) (fun cdv A outer s H E hr => ?_)⟩
  have hu := hu_of hr
  refine ⟨_, (pss_cons (ps_asg (pe_mth0 (pe_fld (pv 0) rfl) (N_Store_image T) (hr.mono (by decide)) pass0) (pg_tup (n := 5) rfl (pgs_cons (pg_name (i := 6) sc_Kept_settle.nd rfl (by first | exact Or.inl rfl | exact Or.inr rfl)) (pgs_cons (pg_name (i := 7) sc_Kept_settle.nd rfl (by first | exact Or.inl rfl | exact Or.inr rfl)) (pgs_cons (pg_name (i := 8) sc_Kept_settle.nd rfl (by first | exact Or.inl rfl | exact Or.inr rfl)) (pgs_cons (pg_name (i := 9) sc_Kept_settle.nd rfl (by first | exact Or.inl rfl | exact Or.inr rfl)) (pgs_cons (pg_name (i := 10) sc_Kept_settle.nd rfl (by first | exact Or.inl rfl | exact Or.inr rfl)) pgs_nil)))))))
    (pss_cons (ps_lock (ps_setDc (i := 1) (own := [("body", 11), ("place", 12)]) rfl sc_Kept_settle.nd rfl rfl (sw_trueD rfl rfl rfl (by decide +kernel)) (pi_values (pe_fld (pv 0) rfl)) (blkOk_by (N := ["self", "taken", "stands", "written", "room", "head", "rule", "last", "marks", "fresh", "rooms", "body", "place"]) (sc := defScope s_Kept_settle) (by decide +kernel)) (fun _ _ _ _ _ => (pg_tupK (K := K) rfl (n := 2) rfl (pgs_cons (pg_name (i := 11) sc_Kept_settle.nd rfl (by first | exact Or.inl rfl | exact Or.inr rfl)) (pgs_cons (pg_name (i := 12) sc_Kept_settle.nd rfl (by first | exact Or.inl rfl | exact Or.inr rfl)) pgs_nil)))) (fun _ _ _ _ _ => pts_nil) (fun _ _ _ _ _ => (pv 12)) (fun _ _ _ _ _ => pe_bl)))
    (pss_cons (ps_set (i := 2) sc_Kept_settle.nd rfl (by first | exact Or.inl rfl | exact Or.inr rfl) (pe_own pe_dnewK))
    (pss_cons (ps_set (i := 3) sc_Kept_settle.nd rfl (by first | exact Or.inl rfl | exact Or.inr rfl) (pe_own (pe_lst pa_nil)))
    (pss_cons (ps_for PassesOwn.never rfl (pi_list (pe_revL (pv 10))) (pg_name (i := 4) sc_Kept_settle.nd rfl (by first | exact Or.inl rfl | exact Or.inr rfl))
      (pss_cons (ps_set (i := 11) sc_Kept_settle.nd rfl (by first | exact Or.inl rfl | exact Or.inr rfl) (pe_cal (C_room_text T) (hr.mono (by decide)) rfl pass0 (pa_cons (pv 4) (pa_cons (pe_cal (C_places_of T) (hr.mono (by decide)) rfl pass0 (pa_cons (pv 4) (pa_cons (pv 2) pa_nil))) pa_nil))))
    (pss_one (ps_if (PW.pt (pw_and (pt_cmp (pc_din hu (pe_ix ix_seq (pv 4) pe_int (fun _ _ => rfl)) (pe_fld (pv 0) rfl))) (pw_and1 (pt_cmpR (op_eqU hr) (pe_ix ix_seq (pe_dget hu (pe_fld (pv 0) rfl) (pe_ix ix_seq (pv 4) pe_int (fun _ _ => rfl)) (fun _ _ => rfl)) pe_int (fun _ _ => rfl)) (pv 11) (nomark _)))))
      (pss_one (ps_dput hu (pv 2) (pe_ix ix_seq (pv 4) pe_int (fun _ _ => rfl)) (pe_dget hu (pe_fld (pv 0) rfl) (pe_ix ix_seq (pv 4) pe_int (fun _ _ => rfl)) (fun _ _ => rfl)) rfl))
      (pss_cons (ps_set (i := 12) sc_Kept_settle.nd rfl (by first | exact Or.inl rfl | exact Or.inr rfl) (pe_cal (C_free_place T) (hr.mono (by decide)) rfl pass0 (pa_cons (pv 1) pa_nil)))
    (pss_cons (ps_dput hu (pv 1) (pv 12) pe_bl rfl)
    (pss_cons (ps_expr (pe_mth (pe_fld (pv 0) rfl) (N_Shelf_write T) (hr.mono (by decide)) pass0 (pa_cons (pv 12) (pa_cons (pe_cal (C_page_of T) (hr.mono (by decide)) rfl pass0 (pa_cons (pv 11) pa_nil)) pa_nil))))
    (pss_cons (ps_expr (pe_bm PySem.F.plainAttrs_list PySem.F.slot_list_append PySem.F.type_list_append mt_append (pv 3) (pa_cons (pv 12) pa_nil)))
    (pss_one (ps_dput hu (pv 2) (pe_ix ix_seq (pv 4) pe_int (fun _ _ => rfl)) (pe_tup (pa_cons (pv 11) (pa_cons (pv 12) pa_nil))) rfl))))))))))
    (pss_cons (ps_fldaug (pv 0) pe_int in_add)
    (pss_cons (ps_fld (pv 0) (pv 2) rfl)
    (pss_cons (ps_set (i := 5) sc_Kept_settle.nd rfl (by first | exact Or.inl rfl | exact Or.inr rfl) (pe_tup (pa_cons (pe_fld (pv 0) rfl) (pa_cons (pv 7) (pa_cons (pv 9) (pa_cons (pe_ix ix_seq (pe_dget hu (pv 2) (pe_ix ix_seq (pe_ix ix_seq (pv 10) pe_int (fun _ _ => rfl)) pe_int (fun _ _ => rfl)) (fun _ _ => rfl)) pe_int (fun _ _ => rfl)) (pa_cons (pv 6) (pa_cons (pv 8) pa_nil))))))))
    (pss_cons (ps_expr (pe_mth (pe_fld (pv 0) rfl) (N_Shelf_write T) (hr.mono (by decide)) pass0 (pa_cons (pe_op op_mod (pe_fld (pv 0) rfl) pe_int) (pa_cons (pe_cal (C_page_of T) (hr.mono (by decide)) rfl pass0 (pa_cons (pe_cal (C_head_text T) (hr.mono (by decide)) rfl pass0 (pa_cons (pv 5) pa_nil)) pa_nil)) pa_nil))))
    (pss_cons (ps_expr (pe_bm PySem.F.plainAttrs_list PySem.F.slot_list_append PySem.F.type_list_append mt_append (pv 3) (pa_cons (pe_op op_mod (pe_fld (pv 0) rfl) pe_int) pa_nil)))
    (pss_cons (ps_expr (pe_mth0 (pe_fld (pv 0) rfl) (N_Shelf_blot T) (hr.mono (by decide)) pass0))
    (pss_one (ps_ret (pv 3)))))))))))))), ?_⟩
  intro B ds fp PD X hE hX hM hR
  try dsimp only [cxK, cxN]
  have := cl_Kept T
  have := na_Kept_series T
  have := na_Kept_stands T
  have := na_Kept_store T
  have := na_Kept_shelf T

  obtain ⟨sh, st, k, t, f, r, plan, rfl, rfl, hru, hb, ht, hw, hP⟩ := hR
  obtain ⟨p0, t0, w0, f0, tx, li, wr⟩ := sh
  obtain ⟨sp, sk, stt, sdd, ru⟩ := st
  dsimp only at hru ht hw
  subst hru ht
  show SvD K B _ [some (dR k.kp), none, none, none, none, none, none, none, none, none, none, none, none] _ _
  walk_at "dd"
  refine ed_methN 4 4 ?_
  walk_at "dd"
  refine ⟨_, InsD.own 4 rfl, rfl, ?_⟩
  walk_at "dd"
  refine ⟨⟨sp, sk, stt, sdd, _⟩, rfl, rfl, ?_⟩
  walk_at "dd"
  refine sv_oDc0 (i := 0) (j := 9) (m := 8) rfl rfl (by assumption) (by assumption) ⟨3, rfl, rfl⟩ rfl fun tk htk => ?_
  let sh0 : ShS := ⟨p0, t0, w0, f0, [], li, wr⟩
  let st0 : StS := ⟨sp, sk, stt, sdd, ruleD t f r plan⟩
  show SvD K B _ [some (dR k.kp), some (dR tk), none, none, none, none, some (ruleD t f r plan), some (dI 0), some (.lst []), some (dI 1), some (.lst [.tup [dS "leaf", dI 0, .lst []]]), none, none] (shO K sh0 ++ (stO K st0 ++ (freshO K sh0 st0 k ++ [(tk, .dic [])]))) _
  refine sv_seq (sv_asg (ed_oD fun sn hsn => ?_))
  walk_at "d"
  refine sv_seq (sv_asg (ed_oL (ea_nil ⟨by decide, fun wn hwn => ?_⟩)))
  walk_at "d"
  refine sv_seq (sv_forU ?_)
  walk_at "dd"
  show ForU K B _ _ _ [.tup [dS "leaf", dI 0, .lst []]] _ _
  walk_at "dd"
  refine ed_callN 10 1 ?_
  walk_at "dd"
  refine ⟨tk, rfl, rfl, ?_⟩
  walk_at "dd"
  refine ed_methN 0 4 ?_
  walk_at "dd"
  refine ⟨_, InsD.own 0 rfl, rfl, ?_⟩
  walk_at "dd"
  · decide +kernel
  refine ⟨sh0, 2, _, rfl, rfl, by decide, by decide, Nat.lt_of_lt_of_le Nat.zero_lt_one (by decide), by show wr.length < _; omega, ?_⟩
  walk_at "dd"
  let fr1 : Ow := [(k.sd, .dic []), (k.kp, .ins (He.ga K "Kept") [("store", dR sp), ("shelf", dR p0), ("series", dI 0), ("stands", dR sn)]), (tk, .dic [(.inl 2, dB true)]), (sn, .dic [(.inl 0, .tup [dS (leafT 0), dI 2])]), (wn, .lst [dI 2])]
  let sh1 : ShS := ⟨p0, t0, w0, f0, [(.inl 2, dS (pageT (leafT 0)))], li, wr ++ [.tup [dS "page", dI 2, dS (pageT (leafT 0))]]⟩
  let sh2 : ShS := ⟨p0, t0, w0, f0, [(.inl 2, dS (pageT (leafT 0))), (.inl 0, dS (headOf t f r plan))], li, (wr ++ [.tup [dS "page", dI 2, dS (pageT (leafT 0))]]) ++ [.tup [dS "page", dI 0, dS (headOf t f r plan)]]⟩
  show EvD K B _ _ (shO K sh1 ++ (stO K st0 ++ fr1)) _
  refine ed_methN 0 4 ?_
  walk_at "dd"
  refine ⟨_, InsD.own 0 rfl, rfl, ?_⟩
  walk_at "dd"
  refine ed_callP ?_
  walk_at "dd"
  refine ⟨0, 0, 1, 2, t, f, r, plan, rfl, rfl, ⟨by decide, by decide, by decide, by decide, hb.1, hb.2.1, hb.2.2.1, hb.2.2.2⟩, ?_⟩
  walk_at "dd"
  · have := headT_len (a := 0) (b := 0) (c := 1) (e := 2) (t := t) (f := f) (r := r) (plan := plan) ⟨by decide, by decide, by decide, by decide, hb.1, hb.2.1, hb.2.2.1, hb.2.2.2⟩
    omega
  refine ⟨sh1, 0, _, rfl, rfl, by decide, by decide, Nat.lt_of_lt_of_le Nat.one_lt_two (by decide), by show (wr ++ [_]).length < _; simp; omega, ?_⟩
  walk_at "dd"
  refine ed_methN 0 4 ?_
  walk_at "dd"
  refine ⟨_, InsD.own 0 rfl, rfl, ?_⟩
  walk_at "dd"
  refine ⟨sh2, rfl, rfl, by show ((wr ++ [_]) ++ [_]).length < _; simp; omega, ?_⟩
  walk_at "dd"
  exact hP (dR wn) sn (shO K (begunS sh0 t f r plan) ++ (stO K st0 ++ [(k.sd, .dic []), (k.kp, .ins (He.ga K "Kept") [("store", dR sp), ("shelf", dR p0), ("series", dI 0), ("stands", dR sn)]), (tk, .dic [(.inl 2, dB true)]), (sn, .dic [(.inl 0, .tup [dS (leafT 0), dI 2])]), (wn, .lst [dI 2, dI 0])]))
    (.append (.refl _) (.append (.refl _) (by unfold keptO; exact .cons _ (.cons₂ _ (.cons _ (.cons₂ _ (.cons _ .slnil)))))))
theorem N_Kept_settle (T : Cxt K mg) : Mth P w K mg base CX0 5 (He.ga K "Kept") "settle" ["self"] (spR K (R_Kept_settle K)) [] := by
  obtain ⟨fd, F, G⟩ := F_Kept_settle (P := P) (w := w) (base := base)  T
  exact ⟨_, fd, [], cl_Kept T, me_Kept_settle T, G, F.bindsN fun _ _ _ _ _ _ us hl => match us, hl with | [_], _ => rfl, .nil⟩

def R_begin (K : PySem.W.Frag) : DR := fun ds fp P X => ∃ (sh : ShS) (rule : D), ds = [dR sh.p, rule] ∧ fp = shO K sh ∧ plainIn rule ∧
  (ruleB rule = false → ∀ x, X (He.ga K "NoRule") none (shO K sh ++ ([(x, .ins (He.ga K "Store") [])] ++ []))) ∧
  (ruleB rule = true → ∃ ks : List Int, sh.texts.map (·.1) = ks.map Sum.inl ∧ ks.length < 64 ∧
    ((ks ≠ [] ∨ sh.lines ≠ "") → ∀ st, X (He.ga K "NotBare") none (shO K sh ++ stO K st)) ∧
    ((ks = [] ∧ sh.lines = "") → ∃ (t f r : Nat) (plan : Str), rule = ruleD t f r plan ∧ (t < 400 ∧ f < 400 ∧ r < 400 ∧ plan.length ≤ 20) ∧ sh.writes.length < 1000 ∧
      ∀ (st : StS) (kp sd : Addr), st.rule = ruleD t f r plan → P (dR kp) (shO K (begunS sh t f r plan) ++ (stO K st ++ keptO K sh st ⟨kp, sd⟩))))
theorem sc_begin : FnScope ["shelf", "rule", "store", "kept"] ["shelf", "rule"] (defScope s_begin) := ⟨rfl, rfl, rfl, by decide +kernel, rfl, by decide +kernel, by decide +kernel⟩
theorem F_begin (T : Cxt K mg) : ∃ fd, FunD K d_begin.name d_begin.qual d_begin.params d_begin.body d_begin.scope (d_begin.dvs K) (d_begin.kws K) (He.fAd K d_begin.at_) fd ∧ FnOk P w K mg base (L2.CX P w) 7 (He.fAd K d_begin.at_) fd ["shelf", "rule"] (spR K (R_begin K)) := by
  obtain ⟨fd, F⟩ := T.c.def_ 17 (d := d_begin) rfl
  refine ⟨fd, F, fnX F sc_begin (fun ds fp PD X h => by obtain ⟨_, _, rfl, _⟩ := h; rfl) (fun cdv A outer s H E hr => ?_)⟩
  have hu := hu_of hr
  refine ⟨_, (pss_cons (ps_set (i := 2) sc_begin.nd rfl (by first | exact Or.inl rfl | exact Or.inr rfl) (pe_mkr (M_Store T) (hr.mono (by decide)) rfl (passes_call (takes_of rfl rfl rfl rfl) (fun _ _ _ _ h => h)) (pa_cons (pv 1) pa_nil)))
    (pss_cons (ps_if (PW.pt (pw_or (pt_cmpR (op_neU hr) (pe_mth0 (pv 0) (N_Shelf_places T) (hr.mono (by decide)) pass0) (pe_lst pa_nil) (nomark _)) (pw_or1 (pt_cmpR (op_neU hr) (pe_mth0 (pv 0) (N_Shelf_journal T) (hr.mono (by decide)) pass0) pe_str (nomark _)))))
      (pss_one (ps_rz rfl (takes_of rfl rfl rfl rfl) (pmk_own PySem.F.excBase_ValueError (ex_NotBare T).1 (g_NotBare T) (ex_NotBare T).2.1 (raises_own (ex_NotBare T).2.2.1 (ex_NotBare T).2.2.2) rfl)))
      pss_nil)
    (pss_cons (ps_set (i := 3) sc_begin.nd rfl (by first | exact Or.inl rfl | exact Or.inr rfl) (pe_mkr (M_Kept T) (hr.mono (by decide)) rfl pass0 (pa_cons (pv 2) (pa_cons (pv 0) (pa_cons (pe_un un_neg pe_int) (pa_cons (pe_own pe_dnewK) pa_nil))))))
    (pss_cons (ps_expr (pe_mth0 (pv 3) (N_Kept_settle T) (hr.mono (by decide)) pass0))
    (pss_one (ps_ret (pe_weak (pv 3)))))))), ?_⟩
  intro B ds fp PD X hE hX hM hR
  try dsimp only [cxK, cxN]
  subst hE hX

  obtain ⟨sh, rule, rfl, rfl, hpl, hno, hyes⟩ := hR
  show SvD K B _ [some (dR sh.p), some (rule), none, none] (shO K sh) _
  walk_at "dd"
  refine ed_makeX ?_
  walk_at "dd"
  refine ⟨_, rule, rfl, rfl, hpl, fun h => hno h _, fun h k t d => ?_⟩
  obtain ⟨ks, hk, hl, hbare, hgo⟩ := hyes h
  walk_at "dd"
  refine ed_methN 0 4 ?_
  walk_at "dd"
  refine ⟨_, InsD.own 0 rfl, rfl, ?_⟩
  walk_at "dd"
  refine ⟨sh, ks, rfl, rfl, hk, hl, fun ys hp hs => ?_⟩
  walk_at "dd"
  refine rv_neNil (by simp [shOk]) ?_
  walk_at "dd"
  · refine hbare (.inl fun e => ?_) ⟨_, _, _, _, rule⟩
    subst e
    have e2 := List.perm_nil.mp hp
    subst e2
    exact absurd ‹_› (by decide : ¬ (!(List.map dI []).isEmpty) = true)
  · have ek : ks = [] := by
      cases ys with
      | nil => exact List.nil_perm.mp hp
      | cons y ys => exact absurd ‹(!(List.map dI (y :: ys)).isEmpty) = false› (by simp)
    refine ed_methN 0 4 ?_
    walk_at "dd"
    refine ⟨_, InsD.own 0 rfl, rfl, ?_⟩
    walk_at "dd"
    refine ⟨sh, rfl, rfl, ?_⟩
    walk_at "dd"
    · refine hbare (.inr fun e => ?_) ⟨_, _, _, _, rule⟩
      simp_all
    · have el : sh.lines = "" := by simp_all
      obtain ⟨t, f, r, plan, hru, hb, hw, hgo⟩ := hgo ⟨ek, el⟩
      have ht : sh.texts = [] := by
        rw [ek] at hk
        exact List.map_eq_nil_iff.mp hk
      refine ed_make ?_
      walk_at "dd"
      refine ⟨_, _, _, _, _, rfl, rfl, ?_⟩
      walk_at "dd"
      rename_i sd hsd kp hkp
      refine ed_methN 0 10 ?_
      walk_at "dd"
      refine ⟨_, InsD.own 9 rfl, rfl, ?_⟩
      walk_at "dd"
      refine ⟨sh, ⟨_, k, _, d, rule⟩, ⟨kp, sd⟩, t, f, r, plan, rfl, rfl, hru, hb, ht, hw, fun v sd' fp' hs => ?_⟩
      walk_at "dd"
      exact DropTo.mk _ (hs.trans (List.sublist_append_left _ _)) (hgo ⟨_, k, _, d, rule⟩ kp sd' hru)
theorem C_begin (T : Cxt K mg) : Cal P w K mg base (L2.CX P w) 7 "begin" ["shelf", "rule"] (spR K (R_begin K)) [] := by
  obtain ⟨fd, F, G⟩ := F_begin (P := P) (w := w) (base := base)  T
  exact ⟨_, fd, [], G, g_begin T, F.kp, F.bindsN fun _ _ _ _ _ _ us hl => match us, hl with | [_, _], _ => rfl, .nil⟩

def R_law_cell_at (K : PySem.W.Frag) : Hp → DR := fun G ds fp P _ => ∃ (a : Addr) (ns : List Int) (k : Int), ds = [dR a, dI k] ∧ fp = [] ∧ SqL K G a (ns.map V.int) ∧ 0 ≤ k ∧ ∀ i : Int, P (dI i) []
theorem sc_law_cell_at : FnScope ["_law_script", "_law_k"] ["_law_script", "_law_k"] (defScope s_law_cell_at) := ⟨rfl, rfl, rfl, by decide +kernel, rfl, by decide +kernel, by decide +kernel⟩
theorem F_law_cell_at (T : Cxt K mg) : ∃ fd, FunD K d_law_cell_at.name d_law_cell_at.qual d_law_cell_at.params d_law_cell_at.body d_law_cell_at.scope (d_law_cell_at.dvs K) (d_law_cell_at.kws K) (He.fAd K d_law_cell_at.at_) fd ∧ FnOk P w K mg base CX0 1 (He.fAd K d_law_cell_at.at_) fd ["_law_script", "_law_k"] (spG K (R_law_cell_at K)) := by
  obtain ⟨fd, F⟩ := T.c.def_ 26 (d := d_law_cell_at) rfl
  refine ⟨fd, F, fnG F sc_law_cell_at (fun _ ds fp PD X h => by obtain ⟨_, _, _, rfl, _⟩ := h; rfl) (fun cdv A outer s H E hr => ?_)⟩
  have hu := hu_of hr
  refine ⟨_, (pss_cons (ps_if (pt_cmpR op_lt (pv 1) (pe_callB call_lenU rfl (f_len T) boot_len (pa_cons (pv 0) pa_nil)) (nomark _))
      (pss_one (ps_ret (pe_ix ix_seq (pv 0) (pv 1) (fun _ _ => rfl))))
      pss_nil)
    (pss_one (ps_ret pe_int))), ?_⟩
  intro B ds fp PD X hE hX hM hR
  try dsimp only [cxK, cxN]

  obtain ⟨a, ns, k, rfl, rfl, hs, h0, hP⟩ := hR
  show SvD K B _ [some (dR a), some (dI k)] [] _
  walk_at "dd"
  refine rc_lenF hs ?_
  walk_at "dd"
  · rename_i hb
    obtain ⟨n, hn⟩ := atI_int (ns := ns) h0 (of_decide_eq_true hb)
    refine rv_ixF hs hn ?_
    exact hP n
  · exact hP 0
theorem C_law_cell_at (T : Cxt K mg) : Cal P w K mg base CX0 1 "_law_cell_at" ["_law_script", "_law_k"] (spG K (R_law_cell_at K)) [] := by
  obtain ⟨fd, F, G⟩ := F_law_cell_at (P := P) (w := w) (base := base)  T
  exact ⟨_, fd, [], G, g_law_cell_at T, F.kp, F.bindsN fun _ _ _ _ _ _ us hl => match us, hl with | [_, _], _ => rfl, .nil⟩

def StOk (xs : List D) : Prop := (∃ c : Int, xs = [dI c]) ∨ ∃ a s n : Int, xs = [dI a, dI s, dI n]
def R_law_digit : DR := fun ds fp P _ => ∃ (p : Addr) (xs : List D) (m : Int), ds = [dR p, dI m] ∧ fp = [(p, .lst xs)] ∧ StOk xs ∧ 0 < m ∧ m < 2 ^ 62 ∧ ∀ (r : Int) (xs' : List D), 0 ≤ r → r < m → StOk xs' → P (dI r) [(p, .lst xs')]
theorem sc_law_digit : FnScope ["_law_state", "_law_base", "_law_number", "_law_cell", "_law_found"] ["_law_state", "_law_base"] (defScope s_law_digit) := ⟨rfl, rfl, rfl, by decide +kernel, rfl, by decide +kernel, by decide +kernel⟩
theorem F_law_digit (T : Cxt K mg) : ∃ fd, FunD K d_law_digit.name d_law_digit.qual d_law_digit.params d_law_digit.body d_law_digit.scope (d_law_digit.dvs K) (d_law_digit.kws K) (He.fAd K d_law_digit.at_) fd ∧ FnOk P w K mg base CX0 1 (He.fAd K d_law_digit.at_) fd ["_law_state", "_law_base"] (spR K R_law_digit) := by
  obtain ⟨fd, F⟩ := T.c.def_ 27 (d := d_law_digit) rfl
  refine ⟨fd, F, fnR F sc_law_digit (fun ds fp PD X h => by obtain ⟨_, _, _, rfl, _⟩ := h; rfl) (fun cdv A outer s H E hr => ?_)⟩
  have hu := hu_of hr
  refine ⟨_, (pss_cons (ps_if (pt_cmpR (op_eqU hr) (pe_callB call_lenU rfl (f_len T) boot_len (pa_cons (pv 0) pa_nil)) pe_int (nomark _))
      (pss_cons (ps_set (i := 3) sc_law_digit.nd rfl (by first | exact Or.inl rfl | exact Or.inr rfl) (pe_ix ix_seq (pv 0) pe_int (fun _ _ => rfl)))
    (pss_cons (ps_asg (pe_ix ix_seq (pe_lst (pa_cons pe_int (pa_cons (pv 3) pa_nil))) (pe_callTy call_intU rfl (f_int T) boot_int (pa_cons (pe_cmpR op_ge (pv 3) (pe_op op_pow pe_int pe_int) (nomark _)) pa_nil)) (fun _ _ => rfl)) (pg_sub (pv 0) pe_int set_list))
    (pss_one (ps_expr (pe_bm PySem.F.plainAttrs_list PySem.F.slot_list_extend PySem.F.type_list_extend mt_extend (pv 0) (pa_cons (pe_lst (pa_cons (pe_op op_mod (pv 3) pe_int) (pa_cons pe_int pa_nil))) pa_nil))))))
      pss_nil)
    (pss_cons (ps_if (pt_cmpR op_gt (pe_ix ix_seq (pv 0) pe_int (fun _ _ => rfl)) pe_int (nomark _))
      (pss_cons (ps_set (i := 4) sc_law_digit.nd rfl (by first | exact Or.inl rfl | exact Or.inr rfl) (pe_op op_mod (pe_ix ix_seq (pv 0) pe_int (fun _ _ => rfl)) (pv 1)))
    (pss_cons (ps_asg (pe_op op_fdivW (pe_ix ix_seq (pv 0) pe_int (fun _ _ => rfl)) (pv 1)) (pg_sub (pv 0) pe_int set_list))
    (pss_one (ps_ret (pv 4)))))
      pss_nil)
    (pss_cons (ps_asg (pe_op op_addU (pe_ix ix_seq (pv 0) pe_int (fun _ _ => rfl)) pe_int) (pg_sub (pv 0) pe_int set_list))
    (pss_cons (ps_set (i := 2) sc_law_digit.nd rfl (by first | exact Or.inl rfl | exact Or.inr rfl) (pe_op op_mod (pe_op op_mul (pe_op op_addU (pe_op op_addU (pe_ix ix_seq (pv 0) pe_int (fun _ _ => rfl)) (pe_op op_mul pe_int (pe_ix ix_seq (pv 0) pe_int (fun _ _ => rfl)))) pe_int) pe_int) pe_int))
    (pss_cons (ps_set (i := 2) sc_law_digit.nd rfl (by first | exact Or.inl rfl | exact Or.inr rfl) (pe_op op_mod (pe_op op_mul (pv 2) (pe_op op_addU (pe_op op_fdivW (pv 2) pe_int) pe_int)) pe_int))
    (pss_one (ps_ret (pe_op op_mod (pe_op op_mod (pe_op op_mul (pv 2) (pe_op op_addU (pe_op op_fdivW (pv 2) pe_int) pe_int)) pe_int) (pv 1))))))))), ?_⟩
  intro B ds fp PD X hE hX hM hR
  try dsimp only [cxK, cxN]

  obtain ⟨p, xs, m, rfl, rfl, hs, h0, h1, hP⟩ := hR
  have key : ∀ a s n : Int, StOk [dI a, dI s, dI n] := fun a s n => .inr ⟨a, s, n, rfl⟩
  rcases hs with ⟨c, rfl⟩ | ⟨a, s, n, rfl⟩
  · show SvD K B _ [some (dR p), some (dI m), none, none, none] [(p, .lst [dI c])] _
    refine sv_seq (sv_if ?_)
    walk_at "dd"
    · refine rv_ixL (d := dI (if (decide ((10:Int) ^ Int.toNat 18 ≤ c)) = true then c else 0)) (by split <;> rfl) ?_
      walk_at "dd"
      all_goals exact hP _ _ (emod_lt h0).1 (emod_lt h0).2 (key _ _ _)
    all_goals (exfalso; clear hP; simp_all; done)
  · show SvD K B _ [some (dR p), some (dI m), none, none, none] [(p, .lst [dI a, dI s, dI n])] _
    refine sv_seq (sv_if ?_)
    walk_at "dd"
    all_goals first
      | exact hP _ _ (emod_lt h0).1 (emod_lt h0).2 (key _ _ _)
      | (exfalso; clear hP; simp_all; done)
theorem C_law_digit (T : Cxt K mg) : Cal P w K mg base CX0 1 "_law_digit" ["_law_state", "_law_base"] (spR K R_law_digit) [] := by
  obtain ⟨fd, F, G⟩ := F_law_digit (P := P) (w := w) (base := base)  T
  exact ⟨_, fd, [], G, g_law_digit T, F.kp, F.bindsN fun _ _ _ _ _ _ us hl => match us, hl with | [_, _], _ => rfl, .nil⟩

structure RuleOk (a b c : Nat) (plan : Str) : Prop where
  a1 : 1 ≤ a
  a2 : a ≤ 64
  b1 : 3 ≤ b
  b2 : b ≤ 16
  c1 : 1 ≤ c
  c2 : c ≤ 64
  pl : plan = "fullest" ∨ plan = "eldest"
def R_law_rule : DR := fun ds fp P _ => ∃ (p : Addr) (xs : List D), ds = [dR p] ∧ fp = [(p, .lst xs)] ∧ StOk xs ∧ ∀ (a b c : Nat) (plan : Str) (xs' : List D), RuleOk a b c plan → StOk xs' → P (ruleD a b c plan) [(p, .lst xs')]
theorem sc_law_rule : FnScope ["_law_state", "_law_plan"] ["_law_state"] (defScope s_law_rule) := ⟨rfl, rfl, rfl, by decide +kernel, rfl, by decide +kernel, by decide +kernel⟩
theorem F_law_rule (T : Cxt K mg) : ∃ fd, FunD K d_law_rule.name d_law_rule.qual d_law_rule.params d_law_rule.body d_law_rule.scope (d_law_rule.dvs K) (d_law_rule.kws K) (He.fAd K d_law_rule.at_) fd ∧ FnOk P w K mg base CX0 2 (He.fAd K d_law_rule.at_) fd ["_law_state"] (spR K R_law_rule) := by
  obtain ⟨fd, F⟩ := T.c.def_ 29 (d := d_law_rule) rfl
  refine ⟨fd, F, fnR F sc_law_rule (fun ds fp PD X h => by obtain ⟨_, _, rfl, _⟩ := h; rfl) (fun cdv A outer s H E hr => ?_)⟩
  have hu := hu_of hr
  refine ⟨_, (pss_cons (ps_set (i := 1) sc_law_rule.nd rfl (by first | exact Or.inl rfl | exact Or.inr rfl) (pe_ix ix_seq (pe_lst (pa_cons pe_str (pa_cons pe_str pa_nil))) (pe_cal (C_law_digit T) (hr.mono (by decide)) rfl pass0 (pa_cons (pv 0) (pa_cons pe_int pa_nil))) (fun _ _ => rfl)))
    (pss_one (ps_ret (pe_tup (pa_cons (pe_op op_addU pe_int (pe_cal (C_law_digit T) (hr.mono (by decide)) rfl pass0 (pa_cons (pv 0) (pa_cons pe_int pa_nil)))) (pa_cons (pe_op op_addU pe_int (pe_cal (C_law_digit T) (hr.mono (by decide)) rfl pass0 (pa_cons (pv 0) (pa_cons pe_int pa_nil)))) (pa_cons (pe_op op_addU pe_int (pe_cal (C_law_digit T) (hr.mono (by decide)) rfl pass0 (pa_cons (pv 0) (pa_cons pe_int pa_nil)))) (pa_cons (pv 1) pa_nil)))))))), ?_⟩
  intro B ds fp PD X hE hX hM hR
  try dsimp only [cxK, cxN]

  obtain ⟨p, xs, rfl, rfl, hs, hP⟩ := hR
  show SvD K B _ [some (dR p), none] [(p, .lst xs)] _
  walk_at "dd"
  refine ed_callN 0 1 ?_
  walk_at "dd"
  refine ⟨p, xs, 2, rfl, rfl, hs, by decide, by decide, fun r x1 r0 r1 s1 => ?_⟩
  have hpl : ∃ plan : Str, itemD [dS "fullest", dS "eldest"] r = some (dS plan) ∧ (plan = "fullest" ∨ plan = "eldest") := by
    have : r = 0 ∨ r = 1 := by omega
    rcases this with rfl | rfl
    · exact ⟨_, rfl, .inl rfl⟩
    · exact ⟨_, rfl, .inr rfl⟩
  obtain ⟨plan, hi, hpl⟩ := hpl
  refine rv_ixL hi ?_
  walk_at "dd"
  refine ed_callN 0 1 ?_
  walk_at "dd"
  refine ⟨p, x1, 64, rfl, rfl, s1, by decide, by decide, fun ra x2 ra0 ra1 s2 => ?_⟩
  walk_at "dd"
  refine ed_callN 0 1 ?_
  walk_at "dd"
  refine ⟨p, x2, 14, rfl, rfl, s2, by decide, by decide, fun rb x3 rb0 rb1 s3 => ?_⟩
  walk_at "dd"
  refine ed_callN 0 1 ?_
  walk_at "dd"
  refine ⟨p, x3, 64, rfl, rfl, s3, by decide, by decide, fun rc x4 rc0 rc1 s4 => ?_⟩
  walk_at "dd"
  have h := hP (1 + ra).toNat (3 + rb).toNat (1 + rc).toNat plan x4 ⟨by omega, by omega, by omega, by omega, by omega, by omega, hpl⟩ s4
  unfold ruleD at h
  rw [Int.toNat_of_nonneg (by omega), Int.toNat_of_nonneg (by omega), Int.toNat_of_nonneg (by omega)] at h
  exact h
theorem C_law_rule (T : Cxt K mg) : Cal P w K mg base CX0 2 "_law_rule" ["_law_state"] (spR K R_law_rule) [] := by
  obtain ⟨fd, F, G⟩ := F_law_rule (P := P) (w := w) (base := base)  T
  exact ⟨_, fd, [], G, g_law_rule T, F.kp, F.bindsN fun _ _ _ _ _ _ us hl => match us, hl with | [_], _ => rfl, .nil⟩

def R_law_page : DR := fun ds fp P _ => ∃ (z : Str), ds = [dS z] ∧ fp = [] ∧ z.length < 400 ∧ P (dS (pageT z)) []
theorem sc_law_page : FnScope ["_law_body"] ["_law_body"] (defScope s_law_page) := ⟨rfl, rfl, rfl, by decide +kernel, rfl, by decide +kernel, by decide +kernel⟩
theorem F_law_page (T : Cxt K mg) : ∃ fd, FunD K d_law_page.name d_law_page.qual d_law_page.params d_law_page.body d_law_page.scope (d_law_page.dvs K) (d_law_page.kws K) (He.fAd K d_law_page.at_) fd ∧ FnOk P w K mg base CX0 1 (He.fAd K d_law_page.at_) fd ["_law_body"] (spR K R_law_page) := by
  obtain ⟨fd, F⟩ := T.c.def_ 31 (d := d_law_page) rfl
  refine ⟨fd, F, fnR F sc_law_page (fun ds fp PD X h => by obtain ⟨_, rfl, _⟩ := h; rfl) (fun cdv A outer s H E hr => ?_)⟩
  have hu := hu_of hr
  refine ⟨_, (pss_one (ps_ret (pe_op op_addU (pe_op op_addU (pe_callTy call_strU rfl (f_str T) boot_str (pa_cons (pe_callB call_lenU rfl (f_len T) boot_len (pa_cons (pv 0) pa_nil)) pa_nil)) pe_str) (pv 0)))), ?_⟩
  intro B ds fp PD X hE hX hM hR
  try dsimp only [cxK, cxN]

  obtain ⟨z, rfl, rfl, hz, hP⟩ := hR
  show SvD K B _ [some (dS z)] [] _
  walk_at "dd"
  refine rc_lenS (by omega) ?_
  walk_at "dd"
  have hs := txt_small z.length hz
  have l2 : (" " : Str).length = 1 := by decide +kernel
  refine rc_strI (log2_small (by omega) (by omega)) ?_
  walk_at "dd"
  refine rv_addS (by rw [str_app_len]; omega) ?_
  exact hP
theorem C_law_page (T : Cxt K mg) : Cal P w K mg base CX0 1 "_law_page" ["_law_body"] (spR K R_law_page) [] := by
  obtain ⟨fd, F, G⟩ := F_law_page (P := P) (w := w) (base := base)  T
  exact ⟨_, fd, [], G, g_law_page T, F.kp, F.bindsN fun _ _ _ _ _ _ us hl => match us, hl with | [_], _ => rfl, .nil⟩
local macro_rules | `(tactic| walk_at "d") => `(tactic| first | (with_reducible refine ed_callP (R := R_law_page) ?_) | ((with_reducible show R_law_page _ _ _ _); refine ⟨_, rfl, rfl, ?_, ?_⟩))

def dueD (t f r : Nat) (plan : Str) : List D := [.tup [dS "page", dI 2, dS (pageT (leafT 0))], .tup [dS "page", dI 0, dS (headOf t f r plan)], .tup [dS "blot"]]
def R_law_due : DR := fun ds fp P _ => ∃ (t f r : Nat) (plan : Str), ds = [ruleD t f r plan] ∧ fp = [] ∧ (t < 400 ∧ f < 400 ∧ r < 400 ∧ plan.length ≤ 20) ∧ P (.lst (dueD t f r plan)) []
theorem head_eq (t f r : Nat) (plan : Str) : ((("head 0 0 1 2 " : Str) ++ ruleT t f r plan) ++ (" -" : Str)) = headT 0 0 1 2 t f r plan := by
  unfold headT
  rw [TL.join_eq]
  show _ = ("head " : Str) ++ ((nT 0 ++ " ") ++ ((nT 0 ++ " ") ++ ((nT 1 ++ " ") ++ ((nT 2 ++ " ") ++ ((ruleT t f r plan ++ " ") ++ "-")))))
  have e1 : ("head 0 0 1 2 " : Str) = ("head " : Str) ++ ((nT 0 ++ " ") ++ ((nT 0 ++ " ") ++ ((nT 1 ++ " ") ++ (nT 2 ++ " ")))) := by decide +kernel
  have e2 : (" -" : Str) = (" " : Str) ++ "-" := by decide +kernel
  rw [e1, e2]
  simp only [str_app_assoc]
theorem leaf_eq : ("leaf 0 -" : Str) = leafT 0 := by decide +kernel
theorem sc_law_due : FnScope ["_law_rule_here", "_law_words", "_law_head", "_law_thing"] ["_law_rule_here"] (defScope s_law_due) := ⟨rfl, rfl, rfl, by decide +kernel, rfl, by decide +kernel, by decide +kernel⟩
theorem F_law_due (T : Cxt K mg) : ∃ fd, FunD K d_law_due.name d_law_due.qual d_law_due.params d_law_due.body d_law_due.scope (d_law_due.dvs K) (d_law_due.kws K) (He.fAd K d_law_due.at_) fd ∧ FnOk P w K mg base CX0 2 (He.fAd K d_law_due.at_) fd ["_law_rule_here"] (spR K R_law_due) := by
  obtain ⟨fd, F⟩ := T.c.def_ 32 (d := d_law_due) rfl
  refine ⟨fd, F, fnR F sc_law_due (fun ds fp PD X h => by obtain ⟨_, _, _, _, rfl, _⟩ := h; rfl) (fun cdv A outer s H E hr => ?_)⟩
  have hu := hu_of hr
  refine ⟨_, (pss_cons (ps_set (i := 1) sc_law_due.nd rfl (by first | exact Or.inl rfl | exact Or.inr rfl) (pe_joinU pe_str (pe_lc (own := [("_law_thing", 3)]) rfl sc_law_due.nd (pi_tup (pv 0)) (blkOk_by (N := ["_law_rule_here", "_law_words", "_law_head", "_law_thing"]) (sc := defScope s_law_due) (by decide +kernel)) (fun _ _ _ _ _ => (pg_name (i := 3) sc_law_due.nd rfl (by first | exact Or.inl rfl | exact Or.inr rfl))) (fun _ _ _ _ _ => pts_nil) (fun _ _ _ _ _ => (pe_callTy call_strU rfl (f_str T) boot_str (pa_cons (pv 3) pa_nil))))))
    (pss_cons (ps_set (i := 2) sc_law_due.nd rfl (by first | exact Or.inl rfl | exact Or.inr rfl) (pe_cal (C_law_page T) (hr.mono (by decide)) rfl pass0 (pa_cons (pe_op op_addU (pe_op op_addU pe_str (pv 1)) pe_str) pa_nil)))
    (pss_one (ps_ret (pe_lst (pa_cons (pe_tup (pa_cons pe_str (pa_cons pe_int (pa_cons (pe_cal (C_law_page T) (hr.mono (by decide)) rfl pass0 (pa_cons pe_str pa_nil)) pa_nil)))) (pa_cons (pe_tup (pa_cons pe_str (pa_cons pe_int (pa_cons (pv 2) pa_nil)))) (pa_cons (pe_tup (pa_cons pe_str pa_nil)) pa_nil)))))))), ?_⟩
  intro B ds fp PD X hE hX hM hR
  try dsimp only [cxK, cxN]

  obtain ⟨t, f, r, plan, rfl, rfl, hb, hP⟩ := hR
  obtain ⟨h5, h6, h7, h8⟩ := id hb
  have e4 : ("," : Str).length = 1 := by decide +kernel
  have e5 : ("head 0 0 1 2 " : Str).length = 13 := by decide +kernel
  have e6 : (" -" : Str).length = 2 := by decide +kernel
  have g5 := nT_len h5
  have g6 := nT_len h6
  have g7 := nT_len h7
  have gr := ruleT_len hb
  have gh := headT_len (a := 0) (b := 0) (c := 1) (e := 2) (t := t) (f := f) (r := r) (plan := plan) ⟨by decide, by decide, by decide, by decide, hb.1, hb.2.1, hb.2.2.1, hb.2.2.2⟩
  show SvD K B _ [some (.tup [dI t, dI f, dI r, dS plan]), none, none, none] [] _
  walk_at "dd"
  refine ed_mapT (wt_name (by decide)) ?_
  walk_at "dd"
  refine ⟨strD, fun x hx q acc hq => ?_, ?_⟩
  · simp only [List.mem_cons, List.not_mem_nil, or_false] at hx
    rcases hx with rfl | rfl | rfl | rfl
    all_goals walk_at "dd"
    all_goals first
      | exact ⟨rfl, rfl⟩
      | exact rfl
      | (refine rc_strI (log2_small (by omega) (by omega)) ?_; exact ⟨rfl, rfl⟩)
  · walk_at "dd"
    refine rm_join (ys := [nT t, nT f, nT r, plan]) (by simp only [List.map_cons, List.map_nil, List.sum_cons, List.sum_nil, List.length_cons, List.length_nil]; rw [e4]; omega) ?_
    walk_at "dd"
    refine rv_addS (by show _ + (ruleT t f r plan).length ≤ _; omega) ?_
    walk_at "dd"
    refine rv_addS (by rw [str_app_len]; show _ + (ruleT t f r plan).length + _ ≤ _; omega) ?_
    walk_at "dd"
    · show (((("head 0 0 1 2 " : Str) ++ ruleT t f r plan) ++ (" -" : Str))).length < 400
      rw [head_eq]
      omega
    · decide +kernel
    · refine fin hP ?_
      unfold dueD headOf
      rw [← head_eq, ← leaf_eq]
      rfl
theorem C_law_due (T : Cxt K mg) : Cal P w K mg base CX0 2 "_law_due" ["_law_rule_here"] (spR K R_law_due) [] := by
  obtain ⟨fd, F, G⟩ := F_law_due (P := P) (w := w) (base := base)  T
  exact ⟨_, fd, [], G, g_law_due T, F.kp, F.bindsN fun _ _ _ _ _ _ us hl => match us, hl with | [_], _ => rfl, .nil⟩

def treeOk : Nat → D → Bool
  | _, .sc .non => true
  | _, .sc (.int _) => true
  | _, .sc (.str _) => true
  | n + 1, .lst xs => decide (xs.length ≤ 1000000) && xs.all (treeOk n)
  | n + 1, .tup xs => decide (xs.length ≤ 1000000) && xs.all (treeOk n)
  | _, _ => false
def R_law_alike : Nat → DR
  | 0 => fun ds _ _ _ => ds.length = 2 ∧ False
  | n + 1 => fun ds fp P _ => ∃ d, ds = [d, d] ∧ fp = [] ∧ treeOk n d = true ∧ P (dB true) []
theorem rep_all (k : Nat) : (List.replicate k true).all id = true := by simp
theorem sc_law_alike : FnScope ["_law_found", "_law_due_here", "_law_key", "_law_one", "_law_other"] ["_law_found", "_law_due_here"] (defScope s_law_alike) := ⟨rfl, rfl, rfl, by decide +kernel, rfl, by decide +kernel, by decide +kernel⟩
theorem F_law_alike (T : Cxt K mg) : ∀ n : Nat, ∃ fd, FunD K d_law_alike.name d_law_alike.qual d_law_alike.params d_law_alike.body d_law_alike.scope (d_law_alike.dvs K) (d_law_alike.kws K) (He.fAd K d_law_alike.at_) fd ∧ FnOk P w K mg base CX0 (n + 1) (He.fAd K d_law_alike.at_) fd ["_law_found", "_law_due_here"] (spR K (R_law_alike n))
  | 0 => by
    obtain ⟨fd, F⟩ := T.c.def_ 28 (d := d_law_alike) rfl
    refine ⟨fd, F, fnR F sc_law_alike (fun ds fp PD X h => h.1) (fun cdv A outer s H E hr => ?_)⟩
    refine ⟨_, (pss_cons ps_never
    (pss_cons ps_never
    (pss_cons ps_never
    (pss_one ps_never)))), ?_⟩
    intro B ds fp PD X hE hX hM hR
    exact hR.2.elim
  | n + 1 => by
    have c : Cal P w K mg base CX0 (n + 1) "_law_alike" ["_law_found", "_law_due_here"] (spR K (R_law_alike n)) [] := by
      obtain ⟨fd, F, G⟩ := F_law_alike T n
      exact ⟨_, fd, [], G, g_law_alike T, F.kp, F.bindsN fun _ _ _ _ _ _ us hl => match us, hl with | [_, _], _ => rfl, .nil⟩
    obtain ⟨fd, F⟩ := T.c.def_ 28 (d := d_law_alike) rfl
    refine ⟨fd, F, fnR F sc_law_alike (fun ds fp PD X h => by obtain ⟨_, rfl, _⟩ := h; rfl) (fun cdv A outer s H E hr => ?_)⟩
    refine ⟨_, (pss_cons (ps_if (PW.pt (pw_or (pt_val (pe_callB call_isi rfl (f_isinstance T) boot_isinstance (pa_cons (pv 1) (pa_cons (pe_tyn rfl (f_list T) boot_list) pa_nil)))) (pw_or1 (pt_val (pe_callB call_isi rfl (f_isinstance T) boot_isinstance (pa_cons (pv 1) (pa_cons (pe_tyn rfl (f_tuple T) boot_tuple) pa_nil)))))))
      (pss_cons (ps_if (PW.pt (pw_or (pt_cmpR (op_neU hr) (pe_callB call_isi rfl (f_isinstance T) boot_isinstance (pa_cons (pv 0) (pa_cons (pe_tyn rfl (f_list T) boot_list) pa_nil))) (pe_callB call_isi rfl (f_isinstance T) boot_isinstance (pa_cons (pv 1) (pa_cons (pe_tyn rfl (f_list T) boot_list) pa_nil))) (nomark _)) (pw_or1 (pt_cmpR (op_neU hr) (pe_callB call_isi rfl (f_isinstance T) boot_isinstance (pa_cons (pv 0) (pa_cons (pe_tyn rfl (f_tuple T) boot_tuple) pa_nil))) (pe_callB call_isi rfl (f_isinstance T) boot_isinstance (pa_cons (pv 1) (pa_cons (pe_tyn rfl (f_tuple T) boot_tuple) pa_nil))) (nomark _)))))
      (pss_one (ps_ret pe_bl))
      pss_nil)
    (pss_one (ps_ret (pe_and (pe_cmpR (op_eqU hr) (pe_callB call_lenU rfl (f_len T) boot_len (pa_cons (pv 0) pa_nil)) (pe_callB call_lenU rfl (f_len T) boot_len (pa_cons (pv 1) pa_nil)) (nomark _)) (pe_one (pe_callB (cr_all rfl) rfl (f_all T) boot_all (pa_cons (pe_lc (own := [("_law_one", 3), ("_law_other", 4)]) rfl sc_law_alike.nd (RZ.pi_zipA rfl (f_zip T) (pa_cons (pv 0) (pa_cons (pv 1) pa_nil))) (blkOk_by (N := ["_law_found", "_law_due_here", "_law_key", "_law_one", "_law_other"]) (sc := defScope s_law_alike) (by decide +kernel)) (fun _ _ _ _ _ => (pg_tupK (K := K) rfl (n := 2) rfl (pgs_cons (pg_name (i := 3) sc_law_alike.nd rfl (by first | exact Or.inl rfl | exact Or.inr rfl)) (pgs_cons (pg_name (i := 4) sc_law_alike.nd rfl (by first | exact Or.inl rfl | exact Or.inr rfl)) pgs_nil)))) (fun _ _ _ _ _ => pts_nil) (fun _ _ _ _ _ => (pe_cal c (hr.mono (Nat.le_refl _)) rfl pass0 (pa_cons (pv 3) (pa_cons (pv 4) pa_nil))))) pa_nil)))))))
      pss_nil)
    (pss_cons (ps_if (pt_val (pe_callB call_isi rfl (f_isinstance T) boot_isinstance (pa_cons (pv 1) (pa_cons (pe_tyn rfl (f_dict T) boot_dict) pa_nil))))
      (pss_cons ps_never
    (pss_one ps_never))
      pss_nil)
    (pss_cons (ps_if (PW.pt (pw_or (pt_cmpR op_isN1 (pv 1) pe_non (nomark _)) (pw_or1 (pt_val (pe_callB call_isi rfl (f_isinstance T) boot_isinstance (pa_cons (pv 1) (pa_cons (pe_tyn rfl (f_str T) boot_str) pa_nil)))))))
      (pss_one (ps_ret (pe_and (pe_cmpR (op_eqU hr) (pv 0) (pv 1) (nomark _)) (pe_one (pe_cmpR (op_eqU hr) (pe_callB call_isi rfl (f_isinstance T) boot_isinstance (pa_cons (pv 0) (pa_cons (pe_tyn rfl (f_str T) boot_str) pa_nil))) (pe_callB call_isi rfl (f_isinstance T) boot_isinstance (pa_cons (pv 1) (pa_cons (pe_tyn rfl (f_str T) boot_str) pa_nil))) (nomark _))))))
      pss_nil)
    (pss_one (ps_ret (pe_and (pe_callB call_isi rfl (f_isinstance T) boot_isinstance (pa_cons (pv 0) (pa_cons (pe_tyn rfl (f_int T) boot_int) pa_nil))) (pe_and (pe_not (pe_callB call_isi rfl (f_isinstance T) boot_isinstance (pa_cons (pv 0) (pa_cons (pe_tyn rfl (f_bool T) boot_bool) pa_nil)))) (pe_one (pe_cmpR (op_eqU hr) (pv 0) (pv 1) (nomark _)))))))))), ?_⟩
    intro B ds fp PD X hE hX hM hR
    try dsimp only [cxK, cxN]
    obtain ⟨d, rfl, rfl, ht, hP⟩ := hR
    show SvD K B _ [some d, some d, none, none, none] [] _
    cases d with
    | sc v =>
      cases v with
      | non =>
        walk_at "ddc"
        all_goals exact hP
      | int i =>
        walk_at "ddc"
        all_goals exact hP
      | str z =>
        walk_at "ddc"
        all_goals exact hP
      | _ => simp [treeOk] at ht
    | lst xs =>
      cases n with
      | zero => simp [treeOk] at ht
      | succ m =>
        simp only [treeOk, Bool.and_eq_true, decide_eq_true_eq] at ht
        walk_at "ddc"
        refine ed_mapZ (wt_tup (wt_cons name_mono (wt_name (by decide)) (wt_cons name_mono (wt_name (by decide)) wt_nil))) ?_
        walk_at "dd"
        refine ⟨xs, xs, .inl rfl, rfl, ht.1, dB true, fun i x y hx hy q acc hq => ?_, ?_⟩
        · rw [hx] at hy
          cases hy
          walk_at "dd"
          refine ed_callP ?_
          walk_at "dd"
          refine ⟨x, rfl, rfl, List.all_eq_true.mp ht.2 x (List.mem_of_getElem? hx), rfl, rfl, rfl⟩
        · rw [show List.replicate xs.length (dB true) = (List.replicate xs.length true).map dB by simp]
          walk_at "dd"
          refine rc_all ?_
          rw [rep_all]
          exact hP
    | tup xs =>
      cases n with
      | zero => simp [treeOk] at ht
      | succ m =>
        simp only [treeOk, Bool.and_eq_true, decide_eq_true_eq] at ht
        walk_at "ddc"
        refine ed_mapZ (wt_tup (wt_cons name_mono (wt_name (by decide)) (wt_cons name_mono (wt_name (by decide)) wt_nil))) ?_
        walk_at "dd"
        refine ⟨xs, xs, .inr rfl, rfl, ht.1, dB true, fun i x y hx hy q acc hq => ?_, ?_⟩
        · rw [hx] at hy
          cases hy
          walk_at "dd"
          refine ed_callP ?_
          walk_at "dd"
          refine ⟨x, rfl, rfl, List.all_eq_true.mp ht.2 x (List.mem_of_getElem? hx), rfl, rfl, rfl⟩
        · rw [show List.replicate xs.length (dB true) = (List.replicate xs.length true).map dB by simp]
          walk_at "dd"
          refine rc_all ?_
          rw [rep_all]
          exact hP
    | _ => simp [treeOk] at ht
theorem C_law_alike (T : Cxt K mg) : Cal P w K mg base CX0 7 "_law_alike" ["_law_found", "_law_due_here"] (spR K (R_law_alike 6)) [] := by
  obtain ⟨fd, F, G⟩ := F_law_alike (P := P) (w := w) (base := base) T 6
  exact ⟨_, fd, [], G, g_law_alike T, F.kp, F.bindsN fun _ _ _ _ _ _ us hl => match us, hl with | [_, _], _ => rfl, .nil⟩

local macro_rules | `(tactic| walk_at "d") => `(tactic| first | (with_reducible refine ed_callP (R := (R_law_alike 6)) ?_) | ((with_reducible show (R_law_alike 6) _ _ _ _); refine ⟨_, rfl, rfl, ?_, ?_⟩))

def lA (far : Int) : List D := [dI 0, dI 65, dI (0 - 1 - far), dI (65 + far), dB true, dN, dS "3"]
def lB (far : Int) : List D := [dI 2, dI 17, dI (0 - far), dI (17 + far), dN, dS "3", .lst [dI 3]]
def lC (far : Int) : List D := [dI 0, dI 65, dI (0 - far), dI (65 + far), dB true, dN, .tup [dI 1]]
def lE : List D := [dS "", dS "Eldest", dS "fullest ", dN, dI 0, .lst [dS "eldest"], dS "full"]
def BadR (d : D) : Prop := plainIn d ∧ ruleB d = false
theorem plain4 {a b c e : D} (h1 : plainD a = true) (h2 : plainD b = true) (h3 : plainD c = true) (h4 : plainD e = true) : plainIn (.tup [a, b, c, e]) := ⟨rfl, fun xs e1 x hx => by
  cases e1
  simp only [List.mem_cons, List.not_mem_nil, or_false] at hx
  rcases hx with rfl | rfl | rfl | rfl <;> assumption⟩
theorem badA {far : Int} (h : 0 ≤ far) : ∀ d ∈ lA far, plainD d = true ∧ wholeB d 1 64 = false := by
  intro d hd
  simp only [lA, List.mem_cons, List.not_mem_nil, or_false] at hd
  rcases hd with rfl | rfl | rfl | rfl | rfl | rfl | rfl <;> simp [plainD, wholeB] <;> omega
theorem badB {far : Int} (h : 0 ≤ far) : ∀ d ∈ lB far, plainD d = true ∧ wholeB d 3 16 = false := by
  intro d hd
  simp only [lB, List.mem_cons, List.not_mem_nil, or_false] at hd
  rcases hd with rfl | rfl | rfl | rfl | rfl | rfl | rfl <;> simp [plainD, wholeB] <;> omega
theorem badC {far : Int} (h : 0 ≤ far) : ∀ d ∈ lC far, plainD d = true ∧ wholeB d 1 64 = false := by
  intro d hd
  simp only [lC, List.mem_cons, List.not_mem_nil, or_false] at hd
  rcases hd with rfl | rfl | rfl | rfl | rfl | rfl | rfl <;> simp [plainD, wholeB] <;> omega
theorem badE : ∀ d ∈ lE, plainD d = true ∧ planB d = false := by
  intro d hd
  simp only [lE, List.mem_cons, List.not_mem_nil, or_false] at hd
  rcases hd with rfl | rfl | rfl | rfl | rfl | rfl | rfl <;> exact ⟨rfl, by decide +kernel⟩
theorem bad_ex {far k : Int} (hf : 0 ≤ far) (k0 : 0 ≤ k) (k1 : k < 4) (a b c : Nat) (plan : Str) : ∃ L bad j, itemD [.lst (lA far), .lst (lB far), .lst (lC far), .lst lE] k = some (.lst L) ∧ itemD L (far % 7) = some bad ∧ ixN 4 k = some j ∧ BadR (.tup ([dI a, dI b, dI c, dS plan].set j bad)) := by
  have h7 := emod_lt (a := far) (m := 7) (by decide)
  have hk : k = 0 ∨ k = 1 ∨ k = 2 ∨ k = 3 := by omega
  rcases hk with rfl | rfl | rfl | rfl
  · obtain ⟨bad, h1, h2⟩ := itemD_mem (xs := lA far) (i := far % 7) h7.1 (by simpa [lA] using h7.2)
    obtain ⟨h3, h4⟩ := badA hf bad h2
    exact ⟨_, bad, 0, rfl, h1, rfl, plain4 h3 rfl rfl rfl, by simp [ruleB, h4]⟩
  · obtain ⟨bad, h1, h2⟩ := itemD_mem (xs := lB far) (i := far % 7) h7.1 (by simpa [lB] using h7.2)
    obtain ⟨h3, h4⟩ := badB hf bad h2
    exact ⟨_, bad, 1, rfl, h1, rfl, plain4 rfl h3 rfl rfl, by simp [ruleB, h4]⟩
  · obtain ⟨bad, h1, h2⟩ := itemD_mem (xs := lC far) (i := far % 7) h7.1 (by simpa [lC] using h7.2)
    obtain ⟨h3, h4⟩ := badC hf bad h2
    exact ⟨_, bad, 2, rfl, h1, rfl, plain4 rfl rfl h3 rfl, by simp [ruleB, h4]⟩
  · obtain ⟨bad, h1, h2⟩ := itemD_mem (xs := lE) (i := far % 7) h7.1 (by simpa [lE] using h7.2)
    obtain ⟨h3, h4⟩ := badE bad h2
    exact ⟨_, bad, 3, rfl, h1, rfl, plain4 rfl rfl rfl h3, by simp [ruleB, h4]⟩
theorem bad_no {d : D} (h1 : plainD d = true) (h2 : ∀ xs, d = .tup xs → (∀ x ∈ xs, plainD x = true) ∧ xs.length ≠ 4) : BadR d := ⟨⟨h1, fun xs e => (h2 xs e).1⟩, by
  unfold ruleB
  split
  · exact absurd rfl (h2 _ rfl).2
  · rfl⟩
def R_law_no_rules : DR := fun ds fp P _ => ∃ (p : Addr) (xs : List D) (a b c : Nat) (plan : Str), ds = [dR p, ruleD a b c plan] ∧ fp = [(p, .lst xs)] ∧ StOk xs ∧ ∀ (l xs' : List D), (∀ d ∈ l, BadR d) → StOk xs' → P (.lst l) [(p, .lst xs')]
theorem sc_law_no_rules : FnScope ["_law_state", "_law_rule_here", "_law_far", "_law_many", "_law_k", "_law_spoilt", "_law_found"] ["_law_state", "_law_rule_here"] (defScope s_law_no_rules) := ⟨rfl, rfl, rfl, by decide +kernel, rfl, by decide +kernel, by decide +kernel⟩
theorem F_law_no_rules (T : Cxt K mg) : ∃ fd, FunD K d_law_no_rules.name d_law_no_rules.qual d_law_no_rules.params d_law_no_rules.body d_law_no_rules.scope (d_law_no_rules.dvs K) (d_law_no_rules.kws K) (He.fAd K d_law_no_rules.at_) fd ∧ FnOk P w K mg base CX0 2 (He.fAd K d_law_no_rules.at_) fd ["_law_state", "_law_rule_here"] (spR K R_law_no_rules) := by
  obtain ⟨fd, F⟩ := T.c.def_ 30 (d := d_law_no_rules) rfl
  refine ⟨fd, F, fnR F sc_law_no_rules (fun ds fp PD X h => by obtain ⟨_, _, _, _, _, _, rfl, _⟩ := h; rfl) (fun cdv A outer s H E hr => ?_)⟩
  have hu := hu_of hr
  refine ⟨_, (pss_cons (ps_set (i := 2) sc_law_no_rules.nd rfl (by first | exact Or.inl rfl | exact Or.inr rfl) (pe_cal (C_law_digit T) (hr.mono (by decide)) rfl pass0 (pa_cons (pv 0) (pa_cons pe_int pa_nil))))
    (pss_cons (ps_set (i := 3) sc_law_no_rules.nd rfl (by first | exact Or.inl rfl | exact Or.inr rfl) (pe_own (pe_lst (pa_cons (pe_lst (pa_cons pe_int (pa_cons pe_int (pa_cons (pe_op op_sub (pe_op op_sub pe_int pe_int) (pv 2)) (pa_cons (pe_op op_addU pe_int (pv 2)) (pa_cons pe_bl (pa_cons pe_non (pa_cons pe_str pa_nil)))))))) pa_nil))))
    (pss_cons (ps_expr (pe_bm PySem.F.plainAttrs_list PySem.F.slot_list_append PySem.F.type_list_append mt_append (pv 3) (pa_cons (pe_lst (pa_cons pe_int (pa_cons pe_int (pa_cons (pe_op op_sub pe_int (pv 2)) (pa_cons (pe_op op_addU pe_int (pv 2)) (pa_cons pe_non (pa_cons pe_str (pa_cons (pe_lst (pa_cons pe_int pa_nil)) pa_nil)))))))) pa_nil)))
    (pss_cons (ps_expr (pe_bm PySem.F.plainAttrs_list PySem.F.slot_list_append PySem.F.type_list_append mt_append (pv 3) (pa_cons (pe_lst (pa_cons pe_int (pa_cons pe_int (pa_cons (pe_op op_sub pe_int (pv 2)) (pa_cons (pe_op op_addU pe_int (pv 2)) (pa_cons pe_bl (pa_cons pe_non (pa_cons (pe_tup (pa_cons pe_int pa_nil)) pa_nil)))))))) pa_nil)))
    (pss_cons (ps_expr (pe_bm PySem.F.plainAttrs_list PySem.F.slot_list_append PySem.F.type_list_append mt_append (pv 3) (pa_cons (pe_lst (pa_cons pe_str (pa_cons pe_str (pa_cons pe_str (pa_cons pe_non (pa_cons pe_int (pa_cons (pe_lst (pa_cons pe_str pa_nil)) (pa_cons pe_str pa_nil)))))))) pa_nil)))
    (pss_cons (ps_set (i := 4) sc_law_no_rules.nd rfl (by first | exact Or.inl rfl | exact Or.inr rfl) (pe_cal (C_law_digit T) (hr.mono (by decide)) rfl pass0 (pa_cons (pv 0) (pa_cons pe_int pa_nil))))
    (pss_cons (ps_set (i := 5) sc_law_no_rules.nd rfl (by first | exact Or.inl rfl | exact Or.inr rfl) (pe_own (pe_callTy call_listU rfl (f_list T) boot_list (pa_cons (pv 1) pa_nil))))
    (pss_cons (ps_asg (pe_ix ix_seq (pe_ix ix_seq (pv 3) (pv 4) (fun _ _ => rfl)) (pe_op op_mod (pv 2) pe_int) (fun _ _ => rfl)) (pg_sub (pv 5) (pv 4) set_list))
    (pss_cons (ps_set (i := 6) sc_law_no_rules.nd rfl (by first | exact Or.inl rfl | exact Or.inr rfl) (pe_lst (pa_cons (pe_callTy call_tupU rfl (f_tuple T) boot_tuple (pa_cons (pv 5) pa_nil)) (pa_cons (pe_callTy call_listU rfl (f_list T) boot_list (pa_cons (pv 1) pa_nil)) (pa_cons (pe_slice sl_U (pv 1) po_none (po_some pe_int)) (pa_cons (pe_op op_addU (pv 1) (pe_tup (pa_cons pe_int pa_nil))) pa_nil))))))
    (pss_cons (ps_set (i := 6) sc_law_no_rules.nd rfl (by first | exact Or.inl rfl | exact Or.inr rfl) (pe_own (pe_op op_addU (pv 6) (pe_lst (pa_cons (pe_tup (pa_cons (pv 1) pa_nil)) (pa_cons pe_non (pa_cons (pv 2) (pa_cons (pe_tup pa_nil) pa_nil))))))))
    (pss_cons (ps_expr (pe_bm PySem.F.plainAttrs_list PySem.F.slot_list_append PySem.F.type_list_append mt_append (pv 6) (pa_cons (pe_tup (pa_cons (pe_ix ix_seq (pv 1) pe_int (fun _ _ => rfl)) (pa_cons (pe_ix ix_seq (pv 1) pe_int (fun _ _ => rfl)) (pa_cons (pe_ix ix_seq (pv 1) pe_int (fun _ _ => rfl)) (pa_cons (pe_ix ix_seq (pv 1) pe_int (fun _ _ => rfl)) pa_nil))))) pa_nil)))
    (pss_one (ps_ret (pe_weak (pe_frz (pv 6)))))))))))))))), ?_⟩
  intro B ds fp PD X hE hX hM hR
  try dsimp only [cxK, cxN]

  obtain ⟨p, xs, a, b, c, plan, rfl, rfl, hs, hP⟩ := hR
  show SvD K B _ [some (dR p), some (.tup [dI a, dI b, dI c, dS plan]), none, none, none, none, none] [(p, .lst xs)] _
  walk_at "dd"
  refine ed_callN 0 1 ?_
  walk_at "dd"
  refine ⟨p, xs, 1000, rfl, rfl, hs, by decide, by decide, fun far x1 f0 f1 s1 => ?_⟩
  walk_at "dd"
  refine ed_callN 0 1 ?_
  walk_at "dd"
  refine ⟨p, x1, 4, rfl, rfl, s1, by decide, by decide, fun k x2 k0 k1 s2 => ?_⟩
  obtain ⟨L, bad, j, i1, i2, i3, hbad⟩ := bad_ex f0 k0 k1 a b c plan
  walk_at "dd"
  refine rv_ixO (n := 1) rfl i1 ?_
  walk_at "dd"
  refine rv_ixL i2 ?_
  walk_at "dd"
  refine ⟨_, 2, j, _, _, rfl, rfl, rfl, i3, ?_⟩
  walk_at "dd"
  refine rs_tup (by show ¬ (HT.sIx 4 0 none = 0 ∧ HT.sIx 4 4 (some 3) = 4); decide) ?_
  walk_at "dd"
  refine rv_addT (by simp) (by simp) ?_
  walk_at "dd"
  refine ⟨_, _, rfl, rfl, by simp, fun q hq => ?_⟩
  walk_at "dd"
  refine DropTo.mk [(p, .lst x2)] (show List.Sublist _ ((p, M.lst x2) :: _) from .cons₂ _ (List.nil_sublist _)) (hP _ _ (fun d hd => ?_) s2)
  simp only [List.mem_append, List.mem_cons, List.not_mem_nil, or_false] at hd
  rcases hd with ((rfl | rfl | rfl | rfl) | (rfl | rfl | rfl | rfl)) | rfl
  · exact hbad
  · exact bad_no rfl fun xs e => by cases e
  · refine bad_no rfl fun xs e => ?_
    cases e
    exact ⟨fun x hx => by
      have h : x ∈ [dI a, dI b, dI c] := hx
      simp only [List.mem_cons, List.not_mem_nil, or_false] at h
      rcases h with rfl | rfl | rfl <;> rfl, by show ([dI a, dI b, dI c] : List D).length ≠ 4; simp⟩
  · refine bad_no rfl fun xs e => ?_
    cases e
    exact ⟨fun x hx => by
      simp only [List.mem_append, List.mem_cons, List.not_mem_nil, or_false] at hx
      rcases hx with (rfl | rfl | rfl | rfl) | rfl <;> rfl, by simp⟩
  · refine bad_no rfl fun xs e => ?_
    cases e
    exact ⟨fun x hx => by
      simp only [List.mem_cons, List.not_mem_nil, or_false] at hx
      subst hx
      rfl, by simp⟩
  · exact bad_no rfl fun xs e => by cases e
  · exact bad_no rfl fun xs e => by cases e
  · refine bad_no rfl fun xs e => ?_
    cases e
    exact ⟨fun x hx => by simp at hx, by simp⟩
  · exact ⟨plain4 rfl rfl rfl rfl, by simp [ruleB, wholeB]⟩
theorem C_law_no_rules (T : Cxt K mg) : Cal P w K mg base CX0 2 "_law_no_rules" ["_law_state", "_law_rule_here"] (spR K R_law_no_rules) [] := by
  obtain ⟨fd, F, G⟩ := F_law_no_rules (P := P) (w := w) (base := base)  T
  exact ⟨_, fd, [], G, g_law_no_rules T, F.kp, F.bindsN fun _ _ _ _ _ _ us hl => match us, hl with | [_, _], _ => rfl, .nil⟩

def R_law_refused (K : PySem.W.Frag) : DR := fun ds fp P _ => ∃ (sh : ShS) (d : D) (word : Str), ds = [dR sh.p, d, dS word] ∧ fp = shO K sh ∧ plainIn d ∧ sh.writes.all logOk = true ∧
  ((ruleB d = false ∧ word = "rule") ∨ (ruleB d = true ∧ word = "bare" ∧ ∃ ks : List Int, sh.texts.map (·.1) = ks.map Sum.inl ∧ ks.length < 64 ∧ (ks ≠ [] ∨ sh.lines ≠ ""))) ∧ P (dB true) (shO K sh)
theorem sc_law_refused : FnScope ["_law_shelf", "_law_rule_here", "_law_word", "_law_log", "_law_told", "e"] ["_law_shelf", "_law_rule_here", "_law_word"] (defScope s_law_refused) := ⟨rfl, rfl, rfl, by decide +kernel, rfl, by decide +kernel, by decide +kernel⟩
theorem F_law_refused (T : Cxt K mg) : ∃ fd, FunD K d_law_refused.name d_law_refused.qual d_law_refused.params d_law_refused.body d_law_refused.scope (d_law_refused.dvs K) (d_law_refused.kws K) (He.fAd K d_law_refused.at_) fd ∧ FnOk P w K mg base CX0 9 (He.fAd K d_law_refused.at_) fd ["_law_shelf", "_law_rule_here", "_law_word"] (spR K (R_law_refused K)) := by
  obtain ⟨fd, F⟩ := T.c.def_ 34 (d := d_law_refused) rfl
  refine ⟨fd, F, fnR F sc_law_refused (fun ds fp PD X h => by obtain ⟨_, _, _, rfl, _⟩ := h; rfl) (fun cdv A outer s H E hr => ?_)⟩
  have hu := hu_of hr
  refine ⟨_, (pss_cons (ps_set (i := 3) sc_law_refused.nd rfl (by first | exact Or.inl rfl | exact Or.inr rfl) (pe_mth0 (pv 0) (N_Shelf_log T) (hr.mono (by decide)) pass0))
    (pss_cons (ps_set (i := 4) sc_law_refused.nd rfl (by first | exact Or.inl rfl | exact Or.inr rfl) pe_str)
    (pss_cons (ps_try_cla (tb := fun W => tDrop (tCallS _ (WE W) _)) (l := [⟨.ref (He.ga K "NoRule"), 5, fun a cls d => tAsg (tOp (rIx K) (tLst (tCons (tC (.str "rule")) (tCons (tC (.str "")) tNil))) (tCB rIntU (tCons (tOrV (tCB (rIsX K a cls d) (tCons (tVar 5) (tCons (tC (.ref (He.ga K "NotBare"))) tNil))) (tNotV (tCB (rIsX K a cls d) (tCons (tVar 5) (tCons (tC (.ty "ValueError")) tNil))))) tNil))) (gName 4)⟩, ⟨.ref (He.ga K "FallError"), 5, fun a cls d => tAsg (tOp (rIx K) (tLst (tCons (tC (.str "")) (tCons (tC (.str "bare")) tNil))) (tCB rIntU (tCons (tAndV (tCB (rIsX K a cls d) (tCons (tVar 5) (tCons (tC (.ref (He.ga K "NotBare"))) tNil))) (tCB (rIsX K a cls d) (tCons (tVar 5) (tCons (tC (.ty "ValueError")) tNil)))) tNil))) (gName 4)⟩]) (Wout := fun _ _ _ _ => False) rfl rfl sc_law_refused.nd takes_none5
      (fun W pn xe tk _ => by exact pss_one (ps_expr (pe_calS (C_begin T) (hr.mono (by decide)) rfl (fun σ => passAt tk σ) (pa_cons (pv 0) (pa_cons (pv 1) pa_nil)))))
      (ClaOk.cons ⟨rfl, by decide, Or.inl (g_NoRule T)⟩ rfl rfl (fun a oe cls d pn hz hf => by dsimp only; exact (pss_one (ps_set (i := 4) sc_law_refused.nd rfl (by first | exact Or.inl rfl | exact Or.inr rfl) (pe_ix (ix_seqK (K := K) rfl) (pe_lst (pa_cons pe_str (pa_cons pe_str pa_nil))) (pe_callTy call_intU rfl (f_int T) boot_int (pa_cons (pe_or (pe_callB (call_isXK (K := K) rfl hz hf) rfl (f_isinstance T) boot_isinstance (pa_cons (pv 5) (pa_cons (pe_gref rfl (g_NotBare T)) pa_nil))) (pe_one (pe_not (pe_callB (call_isXK (K := K) rfl hz hf) rfl (f_isinstance T) boot_isinstance (pa_cons (pv 5) (pa_cons (pe_tyn rfl (f_ValueError T) boot_ValueError) pa_nil)))))) pa_nil)) (fun _ _ => rfl))))) (ClaOk.cons ⟨rfl, by decide, Or.inl (g_FallError T)⟩ rfl rfl (fun a oe cls d pn hz hf => by dsimp only; exact (pss_one (ps_set (i := 4) sc_law_refused.nd rfl (by first | exact Or.inl rfl | exact Or.inr rfl) (pe_ix (ix_seqK (K := K) rfl) (pe_lst (pa_cons pe_str (pa_cons pe_str pa_nil))) (pe_callTy call_intU rfl (f_int T) boot_int (pa_cons (pe_and (pe_callB (call_isXK (K := K) rfl hz hf) rfl (f_isinstance T) boot_isinstance (pa_cons (pv 5) (pa_cons (pe_gref rfl (g_NotBare T)) pa_nil))) (pe_one (pe_callB (call_isXK (K := K) rfl hz hf) rfl (f_isinstance T) boot_isinstance (pa_cons (pv 5) (pa_cons (pe_tyn rfl (f_ValueError T) boot_ValueError) pa_nil))))) pa_nil)) (fun _ _ => rfl))))) ClaOk.nil)))
    (pss_one (ps_ret (pe_weak (pe_and (pe_cmpR (op_eqU hr) (pv 4) (pv 2) (nomark _)) (pe_one (pe_cmpR (op_eqU hr) (pe_mth0 (pv 0) (N_Shelf_log T) (hr.mono (by decide)) pass0) (pv 3) (nomark _)))))))))), ?_⟩
  intro B ds fp PD X hE hX hM hR
  try dsimp only [cxK, cxN]

  obtain ⟨sh, d, word, rfl, rfl, hpl, hlog, hcase, hP⟩ := hR
  obtain ⟨py, hpy, hshp⟩ := log_py hlog
  show SvD K B _ [some (dR sh.p), some (d), some (dS word), none, none, none] (shO K sh) _
  walk_at "dd"
  refine ed_methN 0 4 ?_
  walk_at "dd"
  refine ⟨_, InsD.own 0 rfl, rfl, ?_⟩
  walk_at "dd"
  refine ⟨sh, rfl, rfl, ?_⟩
  walk_at "dd"
  refine sv_try ?_
  walk_at "dd"
  refine ⟨[], shO K sh, [], rfl, sh, d, rfl, rfl, hpl, fun hb x => ?_, fun hb => ?_⟩
  · rcases hcase with ⟨_, rfl⟩ | ⟨h, _⟩
    · refine ⟨rfl, true, em_NoRule_NoRule T, fun _ a => ?_, (fun h => nomatch h)⟩
      dsimp only
      show SvD K B (tAsg _ _) [some (dR sh.p), some d, some (dS "rule"), some (.lst sh.writes), some (dS ""), some (dR a)] (shO K sh ++ [(x, .ins (He.ga K "Store") [])]) _
      walk_at "dd"
      refine rc_isX (x_xc_NoRule T) (x_kit_NoRule_NotBare T) ?_
      walk_at "dd"
      refine rc_isXT (x_xc_NoRule T) (x_kit_NoRule_ValueError T) ?_
      walk_at "dd"
      refine ed_methN 0 4 ?_
      walk_at "dd"
      refine ⟨_, InsD.own 0 rfl, rfl, ?_⟩
      walk_at "dd"
      refine ⟨sh, rfl, rfl, ?_⟩
      walk_at "dd"
      refine rv_eqSame hpy hshp ?_
      exact DropTo.mk (shO K sh) (List.sublist_append_left _ _) hP
    · rw [h] at hb
      cases hb
  · rcases hcase with ⟨h, _⟩ | ⟨_, rfl, ks, hk, hl, hne⟩
    · rw [h] at hb
      cases hb
    · refine ⟨ks, hk, hl, fun _ st => ?_, fun h => ?_⟩
      · refine ⟨rfl, false, em_NotBare_NoRule T, (fun h => nomatch h), fun _ => ⟨true, em_NotBare_FallError T, fun _ a => ?_, (fun h => nomatch h)⟩⟩
        dsimp only
        show SvD K B (tAsg _ _) [some (dR sh.p), some d, some (dS "bare"), some (.lst sh.writes), some (dS ""), some (dR a)] (shO K sh ++ stO K st) _
        walk_at "dd"
        refine rc_isX (x_xc_NotBare T) kit_self ?_
        walk_at "dd"
        refine rc_isXT (x_xc_NotBare T) (x_kit_NotBare_ValueError T) ?_
        walk_at "dd"
        refine ed_methN 0 4 ?_
        walk_at "dd"
        refine ⟨_, InsD.own 0 rfl, rfl, ?_⟩
        walk_at "dd"
        refine ⟨sh, rfl, rfl, ?_⟩
        walk_at "dd"
        refine rv_eqSame hpy hshp ?_
        exact DropTo.mk (shO K sh) (List.sublist_append_left _ _) hP
      · rcases hne with h1 | h1
        · exact (h1 h.1).elim
        · exact (h1 h.2).elim
theorem C_law_refused (T : Cxt K mg) : Cal P w K mg base CX0 9 "_law_refused" ["_law_shelf", "_law_rule_here", "_law_word"] (spR K (R_law_refused K)) [] := by
  obtain ⟨fd, F, G⟩ := F_law_refused (P := P) (w := w) (base := base)  T
  exact ⟨_, fd, [], G, g_law_refused T, F.kp, F.bindsN fun _ _ _ _ _ _ us hl => match us, hl with | [_, _, _], _ => rfl, .nil⟩

theorem okT_page : okT ("page" : Str) = true := by decide +kernel
theorem okT_line : okT ("line" : Str) = true := by decide +kernel
theorem line_ne (z : Str) : (("" : Str) ++ (z ++ ("\n" : Str))) ≠ "" := fun e => by
  have := congrArg Str.length e
  rw [str_app_len, str_app_len, nl_len] at this
  have e0 : ("" : Str).length = 0 := by decide +kernel
  omega
theorem item_line {r : Int} (h0 : 0 ≤ r) (h1 : r < 3) : ∃ z : Str, itemD [dS "", dS "1 mark", dS "0"] r = some (dS z) ∧ okT z = true ∧ z.length ≤ 10 := by
  have : r = 0 ∨ r = 1 ∨ r = 2 := by omega
  rcases this with rfl | rfl | rfl
  · exact ⟨_, rfl, by decide +kernel, by decide +kernel⟩
  · exact ⟨_, rfl, by decide +kernel, by decide +kernel⟩
  · exact ⟨_, rfl, by decide +kernel, by decide +kernel⟩
theorem item_txt {r : Int} (h0 : 0 ≤ r) (h1 : r < 3) : ∃ z : Str, itemD [dS "x", dS "8 leaf 0 -", dS "0 "] r = some (dS z) ∧ okT z = true := by
  have : r = 0 ∨ r = 1 ∨ r = 2 := by omega
  rcases this with rfl | rfl | rfl
  · exact ⟨_, rfl, by decide +kernel⟩
  · exact ⟨_, rfl, by decide +kernel⟩
  · exact ⟨_, rfl, by decide +kernel⟩
theorem item_bd {r : Int} (h0 : 0 ≤ r) (h1 : r < 3) : ∃ b : Int, itemD [dI 3, dI 20, dI (10 ^ Int.toNat 6 + 1)] r = some (dI b) ∧ 0 < b ∧ b ≤ 1000001 := by
  have : r = 0 ∨ r = 1 ∨ r = 2 := by omega
  rcases this with rfl | rfl | rfl
  · exact ⟨_, rfl, by decide, by decide⟩
  · exact ⟨_, rfl, by decide, by decide⟩
  · exact ⟨_, rfl, by decide, by decide⟩
structure NotBareS (sh : ShS) : Prop where
  log : sh.writes.all logOk = true
  len : sh.writes.length < 1000
  ks : ∃ ks : List Int, sh.texts.map (·.1) = ks.map Sum.inl ∧ ks.length < 64 ∧ (ks ≠ [] ∨ sh.lines ≠ "")
def R_law_not_bare (K : PySem.W.Frag) : DR := fun ds fp P _ => ∃ (p : Addr) (xs : List D), ds = [dR p] ∧ fp = [(p, .lst xs)] ∧ StOk xs ∧ ∀ (sh : ShS) (xs' : List D), NotBareS sh → StOk xs' → P (dR sh.p) ([(p, .lst xs')] ++ shO K sh)
theorem sc_law_not_bare : FnScope ["_law_state", "_law_shelf", "_law_way", "_law_place"] ["_law_state"] (defScope s_law_not_bare) := ⟨rfl, rfl, rfl, by decide +kernel, rfl, by decide +kernel, by decide +kernel⟩
theorem F_law_not_bare (T : Cxt K mg) : ∃ fd, FunD K d_law_not_bare.name d_law_not_bare.qual d_law_not_bare.params d_law_not_bare.body d_law_not_bare.scope (d_law_not_bare.dvs K) (d_law_not_bare.kws K) (He.fAd K d_law_not_bare.at_) fd ∧ FnOk P w K mg base CX0 3 (He.fAd K d_law_not_bare.at_) fd ["_law_state"] (spR K (R_law_not_bare K)) := by
  obtain ⟨fd, F⟩ := T.c.def_ 35 (d := d_law_not_bare) rfl
  refine ⟨fd, F, fnR F sc_law_not_bare (fun ds fp PD X h => by obtain ⟨_, _, rfl, _⟩ := h; rfl) (fun cdv A outer s H E hr => ?_)⟩
  have hu := hu_of hr
  refine ⟨_, (pss_cons (ps_set (i := 1) sc_law_not_bare.nd rfl (by first | exact Or.inl rfl | exact Or.inr rfl) (pe_mkr0 (M_Shelf T) (hr.mono (by decide)) rfl pass0))
    (pss_cons (ps_set (i := 2) sc_law_not_bare.nd rfl (by first | exact Or.inl rfl | exact Or.inr rfl) (pe_cal (C_law_digit T) (hr.mono (by decide)) rfl pass0 (pa_cons (pv 0) (pa_cons pe_int pa_nil))))
    (pss_cons (ps_if (pt_cmpR (op_neU hr) (pv 2) pe_int (nomark _))
      (pss_cons (ps_set (i := 3) sc_law_not_bare.nd rfl (by first | exact Or.inl rfl | exact Or.inr rfl) (pe_cal (C_law_digit T) (hr.mono (by decide)) rfl pass0 (pa_cons (pv 0) (pa_cons (pe_ix ix_seq (pe_lst (pa_cons pe_int (pa_cons pe_int (pa_cons (pe_op op_addU (pe_op op_pow pe_int pe_int) pe_int) pa_nil)))) (pe_cal (C_law_digit T) (hr.mono (by decide)) rfl pass0 (pa_cons (pv 0) (pa_cons pe_int pa_nil))) (fun _ _ => rfl)) pa_nil))))
    (pss_one (ps_expr (pe_mth (pv 1) (N_Shelf_write T) (hr.mono (by decide)) pass0 (pa_cons (pv 3) (pa_cons (pe_ix ix_seq (pe_lst (pa_cons pe_str (pa_cons pe_str (pa_cons pe_str pa_nil)))) (pe_cal (C_law_digit T) (hr.mono (by decide)) rfl pass0 (pa_cons (pv 0) (pa_cons pe_int pa_nil))) (fun _ _ => rfl)) pa_nil))))))
      pss_nil)
    (pss_cons (ps_if (PW.pt (pw_or (pt_cmpR (op_eqU hr) (pv 2) pe_int (nomark _)) (pw_or1 (pt_cmpR (op_eqU hr) (pv 2) pe_int (nomark _)))))
      (pss_one (ps_expr (pe_mth (pv 1) (N_Shelf_line T) (hr.mono (by decide)) pass0 (pa_cons (pe_ix ix_seq (pe_lst (pa_cons pe_str (pa_cons pe_str (pa_cons pe_str pa_nil)))) (pe_cal (C_law_digit T) (hr.mono (by decide)) rfl pass0 (pa_cons (pv 0) (pa_cons pe_int pa_nil))) (fun _ _ => rfl)) pa_nil))))
      pss_nil)
    (pss_one (ps_ret (pv 1))))))), ?_⟩
  intro B ds fp PD X hE hX hM hR
  try dsimp only [cxK, cxN]

  obtain ⟨p, xs, rfl, rfl, hs, hP⟩ := hR
  show SvD K B _ [some (dR p), none, none, none] [(p, .lst xs)] _
  walk_at "dd"
  refine ed_make ?_
  walk_at "dd"
  refine ⟨_, rfl, rfl, fun t w ft => ?_⟩
  walk_at "dd"
  rename_i sp hsp
  let sh0 : ShS := ⟨sp, t, w, ft, [], "", []⟩
  refine ed_callN 0 1 ?_
  walk_at "dd"
  refine ⟨p, xs, 4, rfl, rfl, hs, by decide, by decide, fun way x1 w0 w1 s1 => ?_⟩
  walk_at "dd"
  · refine ed_callN 0 1 ?_
    walk_at "dd"
    refine ed_callN 0 1 ?_
    walk_at "dd"
    refine ⟨p, x1, 3, rfl, rfl, s1, by decide, by decide, fun r x2 r0 r1 s2 => ?_⟩
    obtain ⟨bd, hbd, b0, b1⟩ := item_bd r0 r1
    refine rv_ixL hbd ?_
    walk_at "dd"
    refine ⟨p, x2, bd, rfl, rfl, s2, b0, by omega, fun pl x3 p0 p1 s3 => ?_⟩
    walk_at "dd"
    refine ed_methN 1 4 ?_
    walk_at "dd"
    refine ⟨_, InsD.own 1 rfl, rfl, ?_⟩
    walk_at "dd"
    refine ed_callN 0 1 ?_
    walk_at "dd"
    refine ⟨p, x3, 3, rfl, rfl, s3, by decide, by decide, fun r2 x4 r20 r21 s4 => ?_⟩
    obtain ⟨z, hz, hk⟩ := item_txt r20 r21
    refine rv_ixL hz ?_
    walk_at "dd"
    refine ⟨sh0, pl, z, rfl, rfl, p0, by omega, by show List.length [] < _; simp, by show List.length [] < _; simp, ?_⟩
    walk_at "dd"
    · refine ed_methN 1 4 ?_
      walk_at "dd"
      refine ⟨_, InsD.own 1 rfl, rfl, ?_⟩
      walk_at "dd"
      refine ed_callN 0 1 ?_
      walk_at "dd"
      refine ⟨p, x4, 3, rfl, rfl, s4, by decide, by decide, fun r9 x9 r90 r91 s9 => ?_⟩
      obtain ⟨z9, hz9, hk9, hl9⟩ := item_line r90 r91
      refine rv_ixL hz9 ?_
      walk_at "dd"
      refine ⟨⟨sp, t, w, ft, [(.inl pl, dS z)], "", [.tup [dS "page", dI pl, dS z]]⟩, z9, rfl, rfl, by omega, by show ("" : Str).length ≤ _; decide +kernel, by show List.length [_] < _; simp, ?_⟩
      walk_at "dd"
      exact hP ⟨sp, t, w, ft, [(.inl pl, dS z)], ("" : Str) ++ (z9 ++ ("\n" : Str)), [.tup [dS "page", dI pl, dS z]] ++ [.tup [dS "line", dS z9]]⟩ x9 ⟨by simp [logOk, shOk, hk9, hk, okT_page, okT_line], by simp, ⟨[pl], rfl, by simp, .inl (by simp)⟩⟩ s9
    · refine ed_methN 1 4 ?_
      walk_at "dd"
      refine ⟨_, InsD.own 1 rfl, rfl, ?_⟩
      walk_at "dd"
      refine ed_callN 0 1 ?_
      walk_at "dd"
      refine ⟨p, x4, 3, rfl, rfl, s4, by decide, by decide, fun r9 x9 r90 r91 s9 => ?_⟩
      obtain ⟨z9, hz9, hk9, hl9⟩ := item_line r90 r91
      refine rv_ixL hz9 ?_
      walk_at "dd"
      refine ⟨⟨sp, t, w, ft, [(.inl pl, dS z)], "", [.tup [dS "page", dI pl, dS z]]⟩, z9, rfl, rfl, by omega, by show ("" : Str).length ≤ _; decide +kernel, by show List.length [_] < _; simp, ?_⟩
      walk_at "dd"
      exact hP ⟨sp, t, w, ft, [(.inl pl, dS z)], ("" : Str) ++ (z9 ++ ("\n" : Str)), [.tup [dS "page", dI pl, dS z]] ++ [.tup [dS "line", dS z9]]⟩ x9 ⟨by simp [logOk, shOk, hk9, hk, okT_page, okT_line], by simp, ⟨[pl], rfl, by simp, .inl (by simp)⟩⟩ s9
    · exact hP ⟨sp, t, w, ft, [(.inl pl, dS z)], "", [.tup [dS "page", dI pl, dS z]]⟩ x4 ⟨by simp [logOk, shOk, hk, okT_page], by simp, ⟨[pl], rfl, by simp, .inl (by simp)⟩⟩ s4
  · refine ed_methN 1 4 ?_
    walk_at "dd"
    refine ⟨_, InsD.own 1 rfl, rfl, ?_⟩
    walk_at "dd"
    refine ed_callN 0 1 ?_
    walk_at "dd"
    refine ⟨p, x1, 3, rfl, rfl, s1, by decide, by decide, fun r9 x9 r90 r91 s9 => ?_⟩
    obtain ⟨z9, hz9, hk9, hl9⟩ := item_line r90 r91
    refine rv_ixL hz9 ?_
    walk_at "dd"
    refine ⟨sh0, z9, rfl, rfl, by omega, by show ("" : Str).length ≤ _; decide +kernel, by show List.length [] < _; simp, ?_⟩
    walk_at "dd"
    exact hP ⟨sp, t, w, ft, [], ("" : Str) ++ (z9 ++ ("\n" : Str)), [] ++ [.tup [dS "line", dS z9]]⟩ x9 ⟨by simp [logOk, shOk, hk9, okT_line], by simp, ⟨[], rfl, by simp, .inr (line_ne z9)⟩⟩ s9
  · refine ed_methN 1 4 ?_
    walk_at "dd"
    refine ⟨_, InsD.own 1 rfl, rfl, ?_⟩
    walk_at "dd"
    refine ed_callN 0 1 ?_
    walk_at "dd"
    refine ⟨p, x1, 3, rfl, rfl, s1, by decide, by decide, fun r9 x9 r90 r91 s9 => ?_⟩
    obtain ⟨z9, hz9, hk9, hl9⟩ := item_line r90 r91
    refine rv_ixL hz9 ?_
    walk_at "dd"
    refine ⟨sh0, z9, rfl, rfl, by omega, by show ("" : Str).length ≤ _; decide +kernel, by show List.length [] < _; simp, ?_⟩
    walk_at "dd"
    exact hP ⟨sp, t, w, ft, [], ("" : Str) ++ (z9 ++ ("\n" : Str)), [] ++ [.tup [dS "line", dS z9]]⟩ x9 ⟨by simp [logOk, shOk, hk9, okT_line], by simp, ⟨[], rfl, by simp, .inr (line_ne z9)⟩⟩ s9
  · exfalso
    clear hP
    simp_all
theorem C_law_not_bare (T : Cxt K mg) : Cal P w K mg base CX0 3 "_law_not_bare" ["_law_state"] (spR K (R_law_not_bare K)) [] := by
  obtain ⟨fd, F, G⟩ := F_law_not_bare (P := P) (w := w) (base := base)  T
  exact ⟨_, fd, [], G, g_law_not_bare T, F.kp, F.bindsN fun _ _ _ _ _ _ us hl => match us, hl with | [_], _ => rfl, .nil⟩

def R_law_begun (K : PySem.W.Frag) : DR := fun ds fp P _ => ∃ (sh : ShS) (st : StS) (k : KeS) (a b c : Nat) (plan : Str), ds = [dR k.kp, dR sh.p, ruleD a b c plan, .lst sh.writes] ∧ fp = shO K (begunS sh a b c plan) ++ (stO K st ++ keptO K sh st k) ∧ st.rule = ruleD a b c plan ∧ (a < 400 ∧ b < 400 ∧ c < 400 ∧ plan.length ≤ 20) ∧
  sh.writes.length < 1000 ∧ sh.writes.all (treeOk 3) = true ∧ P (dB true) fp
theorem tree_due (a b c : Nat) (plan : Str) : (dueD a b c plan).all (treeOk 3) = true := by simp [dueD, treeOk]
theorem tree_log {w : List D} {a b c : Nat} {plan : Str} (hl : w.length < 1000) (h : w.all (treeOk 3) = true) : treeOk 5 (.lst [.lst (w ++ dueD a b c plan), .lst (w ++ dueD a b c plan)]) = true := by
  have e : (w ++ dueD a b c plan).length ≤ 1000000 := by simp [dueD]; omega
  have e2 : (w ++ dueD a b c plan).all (treeOk 3) = true := by rw [List.all_append, h, tree_due]; rfl
  simp only [treeOk, List.all_cons, List.all_nil, e2, decide_eq_true e, List.length_cons, List.length_nil]
  rfl
theorem sort2 {ys : List Int} (hp : ys.Perm [2, 0]) (hs : ys.Pairwise (· ≤ ·)) : ys = [0, 2] := by
  have h2 : ([0, 2] : List Int).Perm [2, 0] := .swap 2 0 []
  exact (hp.trans h2.symm).eq_of_pairwise (fun a b _ _ h1 h2 => Int.le_antisymm h1 h2) hs (by decide)
theorem sc_law_begun : FnScope ["_law_kept", "_law_shelf", "_law_rule_here", "_law_ahead", "_law_due_here", "_law_texts"] ["_law_kept", "_law_shelf", "_law_rule_here", "_law_ahead"] (defScope s_law_begun) := ⟨rfl, rfl, rfl, by decide +kernel, rfl, by decide +kernel, by decide +kernel⟩
theorem F_law_begun (T : Cxt K mg) : ∃ fd, FunD K d_law_begun.name d_law_begun.qual d_law_begun.params d_law_begun.body d_law_begun.scope (d_law_begun.dvs K) (d_law_begun.kws K) (He.fAd K d_law_begun.at_) fd ∧ FnOk P w K mg base CX0 9 (He.fAd K d_law_begun.at_) fd ["_law_kept", "_law_shelf", "_law_rule_here", "_law_ahead"] (spR K (R_law_begun K)) := by
  obtain ⟨fd, F⟩ := T.c.def_ 33 (d := d_law_begun) rfl
  refine ⟨fd, F, fnR F sc_law_begun (fun ds fp PD X h => by obtain ⟨_, _, _, _, _, _, _, rfl, _⟩ := h; rfl) (fun cdv A outer s H E hr => ?_)⟩
  have hu := hu_of hr
  refine ⟨_, (pss_cons (ps_set (i := 4) sc_law_begun.nd rfl (by first | exact Or.inl rfl | exact Or.inr rfl) (pe_cal (C_law_due T) (hr.mono (by decide)) rfl pass0 (pa_cons (pv 2) pa_nil)))
    (pss_cons (ps_if (pt_not (pt_val (pe_cal (C_law_alike T) (hr.mono (by decide)) rfl pass0 (pa_cons (pe_lst (pa_cons (pe_mth0 (pv 1) (N_Shelf_log T) (hr.mono (by decide)) pass0) (pa_cons (pe_mth0 (pe_fld (pv 0) rfl) (N_Shelf_log T) (hr.mono (by decide)) pass0) pa_nil))) (pa_cons (pe_lst (pa_cons (pe_op op_addU (pv 3) (pv 4)) (pa_cons (pe_op op_addU (pv 3) (pv 4)) pa_nil))) pa_nil)))))
      (pss_one (ps_ret pe_bl))
      pss_nil)
    (pss_cons (ps_set (i := 5) sc_law_begun.nd rfl (by first | exact Or.inl rfl | exact Or.inr rfl) (pe_lst (pa_cons (pe_mth (pv 1) (N_Shelf_page T) (hr.mono (by decide)) pass0 (pa_cons pe_int pa_nil)) (pa_cons (pe_mth (pv 1) (N_Shelf_page T) (hr.mono (by decide)) pass0 (pa_cons pe_int pa_nil)) (pa_cons (pe_mth0 (pv 1) (N_Shelf_journal T) (hr.mono (by decide)) pass0) pa_nil)))))
    (pss_cons (ps_if (pt_not (pt_val (pe_cal (C_law_alike T) (hr.mono (by decide)) rfl pass0 (pa_cons (pv 5) (pa_cons (pe_lst (pa_cons (pe_ix ix_seq (pe_ix ix_seq (pv 4) pe_int (fun _ _ => rfl)) pe_int (fun _ _ => rfl)) (pa_cons (pe_ix ix_seq (pe_ix ix_seq (pv 4) pe_int (fun _ _ => rfl)) pe_int (fun _ _ => rfl)) (pa_cons pe_str pa_nil)))) pa_nil)))))
      (pss_one (ps_ret pe_bl))
      pss_nil)
    (pss_cons (ps_if (PW.pt (pw_or (pt_not (pt_val (pe_cal (C_law_alike T) (hr.mono (by decide)) rfl pass0 (pa_cons (pe_mth0 (pv 1) (N_Shelf_places T) (hr.mono (by decide)) pass0) (pa_cons (pe_lst (pa_cons pe_int (pa_cons pe_int pa_nil))) pa_nil))))) (pw_or1 (pt_not (pt_val (pe_cal (C_law_alike T) (hr.mono (by decide)) rfl pass0 (pa_cons (pe_fld (pe_fld (pv 0) rfl) rfl) (pa_cons (pv 2) pa_nil))))))))
      (pss_one (ps_ret pe_bl))
      pss_nil)
    (pss_one (ps_ret (pe_cal (C_law_alike T) (hr.mono (by decide)) rfl pass0 (pa_cons (pe_mth0 (pe_fld (pv 0) rfl) (N_Store_image T) (hr.mono (by decide)) pass0) (pa_cons (pe_tup (pa_cons (pv 2) (pa_cons pe_int (pa_cons (pe_lst pa_nil) (pa_cons pe_int (pa_cons (pe_lst (pa_cons (pe_tup (pa_cons pe_str (pa_cons pe_int (pa_cons (pe_lst pa_nil) pa_nil)))) pa_nil)) pa_nil)))))) pa_nil)))))))))), ?_⟩
  intro B ds fp PD X hE hX hM hR
  try dsimp only [cxK, cxN]
  have := cl_Kept T
  have := na_Kept_shelf T
  have := na_Kept_store T
  have := cl_Store T
  have := na_Store_rule T

  obtain ⟨sh, st, k, a, b, c, plan, rfl, rfl, hru, hb, hl, hw, hP⟩ := hR
  obtain ⟨sp, sk, stt, sdd, ru⟩ := st
  dsimp only at hru
  subst hru
  have ew : (begunS sh a b c plan).writes = sh.writes ++ dueD a b c plan := by simp [begunS, dueD]
  show SvD K B _ [some (dR k.kp), some (dR sh.p), some (ruleD a b c plan), some (.lst sh.writes), none, none] (shO K (begunS sh a b c plan) ++ (stO K ⟨sp, sk, stt, sdd, ruleD a b c plan⟩ ++ keptO K sh ⟨sp, sk, stt, sdd, ruleD a b c plan⟩ k)) _
  walk_at "dd"
  refine ed_callP ?_
  walk_at "dd"
  refine ⟨a, b, c, plan, rfl, rfl, hb, ?_⟩
  walk_at "dd"
  refine ed_methN 0 4 ?_
  walk_at "dd"
  refine ⟨_, InsD.own 0 rfl, rfl, ?_⟩
  walk_at "dd"
  refine ⟨begunS sh a b c plan, rfl, rfl, ?_⟩
  walk_at "dd"
  have hadd : sh.writes.length + (dueD a b c plan).length ≤ 1000000 := by simp [dueD]; omega
  let O : Ow := shO K (begunS sh a b c plan) ++ (stO K ⟨sp, sk, stt, sdd, ruleD a b c plan⟩ ++ keptO K sh ⟨sp, sk, stt, sdd, ruleD a b c plan⟩ k)
  refine ed_methN 0 4 ?_
  walk_at "dd"
  refine ⟨_, InsD.own 0 rfl, rfl, ?_⟩
  walk_at "dd"
  refine ⟨begunS sh a b c plan, rfl, rfl, ?_⟩
  walk_at "dd"
  refine rv_addL hadd ?_
  walk_at "dd"
  refine rv_addL hadd ?_
  walk_at "dd"
  refine ⟨.lst [.lst (sh.writes ++ dueD a b c plan), .lst (sh.writes ++ dueD a b c plan)], by rw [ew], rfl, tree_log hl hw, ?_⟩
  walk_at "dd"
  refine ed_methN 0 4 ?_
  walk_at "dd"
  refine ⟨_, InsD.own 0 rfl, rfl, ?_⟩
  walk_at "dd"
  refine ⟨begunS sh a b c plan, 0, rfl, rfl, by decide, by decide, ?_⟩
  walk_at "dd"
  refine ed_methN 0 4 ?_
  walk_at "dd"
  refine ⟨_, InsD.own 0 rfl, rfl, ?_⟩
  walk_at "dd"
  refine ⟨begunS sh a b c plan, 2, rfl, rfl, by decide, by decide, ?_⟩
  walk_at "dd"
  refine ed_methN 0 4 ?_
  walk_at "dd"
  refine ⟨_, InsD.own 0 rfl, rfl, ?_⟩
  walk_at "dd"
  refine ⟨begunS sh a b c plan, rfl, rfl, ?_⟩
  walk_at "dd"
  · rfl
  refine ed_methN 0 4 ?_
  walk_at "dd"
  refine ⟨_, InsD.own 0 rfl, rfl, ?_⟩
  walk_at "dd"
  refine ⟨begunS sh a b c plan, [2, 0], rfl, rfl, rfl, by decide, fun ys hp hs => ?_⟩
  have hys := sort2 hp hs
  subst hys
  show EvA K B _ _ O _
  walk_at "dd"
  · rfl
  · rfl
  refine ed_methN 4 4 ?_
  walk_at "dd"
  refine ⟨_, InsD.own 4 rfl, rfl, ?_⟩
  walk_at "dd"
  refine ⟨⟨sp, sk, stt, sdd, ruleD a b c plan⟩, rfl, rfl, ?_⟩
  walk_at "dd"
  · rfl
  exact hP
theorem C_law_begun (T : Cxt K mg) : Cal P w K mg base CX0 9 "_law_begun" ["_law_kept", "_law_shelf", "_law_rule_here", "_law_ahead"] (spR K (R_law_begun K)) [] := by
  obtain ⟨fd, F, G⟩ := F_law_begun (P := P) (w := w) (base := base)  T
  exact ⟨_, fd, [], G, g_law_begun T, F.kp, F.bindsN fun _ _ _ _ _ _ us hl => match us, hl with | [_, _, _, _], _ => rfl, .nil⟩

def R_law (K : PySem.W.Frag) : Hp → DR := fun G ds fp P _ => ∃ (a : Addr) (ns : List Int), ds = [dR a] ∧ fp = [] ∧ SqL K G a (ns.map V.int) ∧ ∀ o, P (dB true) o
structure RuleG (a b c : Nat) (plan : Str) : Prop where
  pl : plainIn (ruleD a b c plan)
  ok : ruleB (ruleD a b c plan) = true
  bd : a < 400 ∧ b < 400 ∧ c < 400 ∧ plan.length ≤ 20
  tx : okT plan = true
theorem RuleOk.g {a b c : Nat} {plan : Str} (h : RuleOk a b c plan) : RuleG a b c plan := by
  obtain ⟨h1, h2, h3, h4, h5, h6, h7⟩ := h
  have hp : planB (dS plan) = true := by rcases h7 with rfl | rfl <;> decide +kernel
  have hl : plan.length ≤ 20 := by rcases h7 with rfl | rfl <;> decide +kernel
  have ht : okT plan = true := by rcases h7 with rfl | rfl <;> decide +kernel
  refine ⟨plain4 rfl rfl rfl rfl, ?_, ⟨by omega, by omega, by omega, hl⟩, ht⟩
  unfold ruleD
  simp only [ruleB, hp, wholeB]
  simp only [Bool.and_eq_true, decide_eq_true_eq, Bool.and_true]
  omega
theorem okT_head {a b c : Nat} {plan : Str} (g : RuleG a b c plan) : okT (headOf a b c plan) = true := by
  have hh := headT_len (a := 0) (b := 0) (c := 1) (e := 2) (t := a) (f := b) (r := c) (plan := plan) ⟨by decide, by decide, by decide, by decide, g.bd.1, g.bd.2.1, g.bd.2.2.1, g.bd.2.2.2⟩
  unfold headOf pageT
  refine okT_app (okT_app (okT_small _ (by omega)) (by decide +kernel)) ?_
  unfold headT
  refine okT_app (by decide +kernel) (okT_join (by decide +kernel) _ fun z hz => ?_)
  have hr : okT (ruleT a b c plan) = true := by
    unfold ruleT
    refine okT_join (by decide +kernel) _ fun z hz => ?_
    simp only [List.mem_cons, List.not_mem_nil, or_false] at hz
    rcases hz with rfl | rfl | rfl | rfl
    · exact nT_ok g.bd.1
    · exact nT_ok g.bd.2.1
    · exact nT_ok g.bd.2.2.1
    · exact g.tx
  simp only [List.mem_cons, List.not_mem_nil, or_false] at hz
  rcases hz with rfl | rfl | rfl | rfl | rfl | rfl
  · exact nT_ok (by decide)
  · exact nT_ok (by decide)
  · exact nT_ok (by decide)
  · exact nT_ok (by decide)
  · exact hr
  · decide +kernel
theorem log_begun {sh : ShS} {a b c : Nat} {plan : Str} (g : RuleG a b c plan) (h : sh.writes.all logOk = true) : (begunS sh a b c plan).writes.all logOk = true := by
  have h1 : okT (pageT (leafT 0)) = true := by decide +kernel
  have h2 := okT_head g
  have h3 : okT ("page" : Str) = true := by decide +kernel
  have h4 : okT ("blot" : Str) = true := by decide +kernel
  simp [begunS, List.all_append, h, logOk, shOk, h1, h2, h3, h4]
theorem bad3 {a b c : Nat} {plan : Str} : BadR (.tup (cutD [dI a, dI b, dI c, dS plan] none (some 3))) := by
  refine bad_no rfl fun xs e => ?_
  cases e
  exact ⟨fun x hx => by
    have h : x ∈ [dI a, dI b, dI c] := hx
    simp only [List.mem_cons, List.not_mem_nil, or_false] at h
    rcases h with rfl | rfl | rfl <;> rfl, by show ([dI a, dI b, dI c] : List D).length ≠ 4; simp⟩
theorem sc_law : FnScope ["_law_script", "_law_state", "_law_rule_here", "_law_other", "_law_blotted", "_law_bare", "_law_shelf", "_law_bad", "_law_ahead", "_law_first", "_law_second", "_law_one"] ["_law_script"] (defScope s_law) := ⟨rfl, rfl, rfl, by decide +kernel, rfl, by decide +kernel, by decide +kernel⟩
theorem F_law (T : Cxt K mg) : ∃ fd, FunD K d_law.name d_law.qual d_law.params d_law.body d_law.scope (d_law.dvs K) (d_law.kws K) (He.fAd K d_law.at_) fd ∧ ∀ base : Heap, FnOk P w K mg base CX0 10 (He.fAd K d_law.at_) fd ["_law_script"] (spG K (R_law K)) := by
  obtain ⟨fd, F⟩ := T.c.def_ 36 (d := d_law) rfl
  refine ⟨fd, F, fun base => fnG F sc_law (fun _ ds fp PD X h => by obtain ⟨_, _, rfl, _⟩ := h; rfl) (fun cdv A outer s H E hr => ?_)⟩
  have hu := hu_of hr
  refine ⟨_, (pss_cons (ps_set (i := 1) sc_law.nd rfl (by first | exact Or.inl rfl | exact Or.inr rfl) (pe_own (pe_lst (pa_cons (pe_cal (C_law_cell_at T) (hr.mono (by decide)) rfl pass0 (pa_cons (pv 0) (pa_cons pe_int pa_nil))) pa_nil))))
    (pss_cons (ps_set (i := 2) sc_law.nd rfl (by first | exact Or.inl rfl | exact Or.inr rfl) (pe_cal (C_law_rule T) (hr.mono (by decide)) rfl pass0 (pa_cons (pv 1) pa_nil)))
    (pss_cons (ps_set (i := 3) sc_law.nd rfl (by first | exact Or.inl rfl | exact Or.inr rfl) (pe_cal (C_law_rule T) (hr.mono (by decide)) rfl pass0 (pa_cons (pe_own (pe_lst (pa_cons (pe_op op_addU (pe_cal (C_law_cell_at T) (hr.mono (by decide)) rfl pass0 (pa_cons (pv 0) (pa_cons pe_int pa_nil))) pe_int) pa_nil))) pa_nil)))
    (pss_cons (ps_set (i := 4) sc_law.nd rfl (by first | exact Or.inl rfl | exact Or.inr rfl) (pe_mkr0 (M_Shelf T) (hr.mono (by decide)) rfl pass0))
    (pss_cons (ps_expr (pe_mth (pv 4) (N_Shelf_line T) (hr.mono (by decide)) pass0 (pa_cons pe_str pa_nil)))
    (pss_cons (ps_expr (pe_mth0 (pv 4) (N_Shelf_blot T) (hr.mono (by decide)) pass0))
    (pss_cons (ps_set (i := 5) sc_law.nd rfl (by first | exact Or.inl rfl | exact Or.inr rfl) (pe_mkr0 (M_Shelf T) (hr.mono (by decide)) rfl pass0))
    (pss_cons (ps_set (i := 6) sc_law.nd rfl (by first | exact Or.inl rfl | exact Or.inr rfl) (pe_cal (C_law_not_bare T) (hr.mono (by decide)) rfl pass0 (pa_cons (pv 1) pa_nil)))
    (pss_cons (ps_for PassesOwn.never rfl (pi_list (pe_cal (C_law_no_rules T) (hr.mono (by decide)) rfl pass0 (pa_cons (pv 1) (pa_cons (pv 2) pa_nil)))) (pg_name (i := 7) sc_law.nd rfl (by first | exact Or.inl rfl | exact Or.inr rfl))
      (pss_one (ps_for PassesOwn.never rfl (pi_list (pe_lst (pa_cons (pv 6) (pa_cons (pv 5) (pa_cons (pv 4) pa_nil))))) (pg_name (i := 11) sc_law.nd rfl (by first | exact Or.inl rfl | exact Or.inr rfl))
      (pss_one (ps_if (pt_not (pt_val (pe_cal (C_law_refused T) (hr.mono (by decide)) rfl pass0 (pa_cons (pv 11) (pa_cons (pv 7) (pa_cons pe_str pa_nil))))))
      (pss_one (ps_ret pe_bl))
      pss_nil)))))
    (pss_cons (ps_if (PW.pt (pw_or (pt_not (pt_val (pe_cal (C_law_refused T) (hr.mono (by decide)) rfl pass0 (pa_cons (pv 6) (pa_cons (pv 2) (pa_cons pe_str pa_nil)))))) (pw_or1 (pt_cmpR (op_neU hr) (pe_mth0 (pv 5) (N_Shelf_log T) (hr.mono (by decide)) pass0) (pe_lst pa_nil) (nomark _)))))
      (pss_one (ps_ret pe_bl))
      pss_nil)
    (pss_cons (ps_set (i := 8) sc_law.nd rfl (by first | exact Or.inl rfl | exact Or.inr rfl) (pe_mth0 (pv 4) (N_Shelf_log T) (hr.mono (by decide)) pass0))
    (pss_cons (ps_set (i := 9) sc_law.nd rfl (by first | exact Or.inl rfl | exact Or.inr rfl) (pe_cal (C_begin T) (hr.mono (by decide)) rfl passF (pa_cons (pv 5) (pa_cons (pv 2) pa_nil))))
    (pss_cons (ps_set (i := 10) sc_law.nd rfl (by first | exact Or.inl rfl | exact Or.inr rfl) (pe_cal (C_begin T) (hr.mono (by decide)) rfl passF (pa_cons (pv 4) (pa_cons (pv 3) pa_nil))))
    (pss_cons (ps_if (PW.pt (pw_or (pt_not (pt_val (pe_cal (C_law_begun T) (hr.mono (by decide)) rfl pass0 (pa_cons (pv 9) (pa_cons (pv 5) (pa_cons (pv 2) (pa_cons (pe_lst pa_nil) pa_nil))))))) (pw_or1 (pt_not (pt_val (pe_cal (C_law_begun T) (hr.mono (by decide)) rfl pass0 (pa_cons (pv 10) (pa_cons (pv 4) (pa_cons (pv 3) (pa_cons (pv 8) pa_nil))))))))))
      (pss_one (ps_ret pe_bl))
      pss_nil)
    (pss_cons (ps_if (PW.pt (pw_or (pt_not (pt_val (pe_cal (C_law_refused T) (hr.mono (by decide)) rfl pass0 (pa_cons (pv 5) (pa_cons (pv 3) (pa_cons pe_str pa_nil)))))) (pw_or1 (pt_not (pt_val (pe_cal (C_law_refused T) (hr.mono (by decide)) rfl pass0 (pa_cons (pv 4) (pa_cons (pe_slice sl_U (pv 2) po_none (po_some pe_int)) (pa_cons pe_str pa_nil)))))))))
      (pss_one (ps_ret pe_bl))
      pss_nil)
    (pss_one (ps_ret (pe_and (pe_cal (C_law_begun T) (hr.mono (by decide)) rfl pass0 (pa_cons (pv 9) (pa_cons (pv 5) (pa_cons (pv 2) (pa_cons (pe_lst pa_nil) pa_nil))))) (pe_one (pe_cal (C_law_begun T) (hr.mono (by decide)) rfl pass0 (pa_cons (pv 10) (pa_cons (pv 4) (pa_cons (pv 3) (pa_cons (pv 8) pa_nil)))))))))))))))))))))))), ?_⟩
  intro B ds fp PD X hE hX hM hR
  try dsimp only [cxK, cxN]

  obtain ⟨a, ns, rfl, rfl, hs, hP⟩ := hR
  show SvD K B _ [some (dR a), none, none, none, none, none, none, none, none, none, none, none] [] _
  walk_at "dd"
  refine ed_callG ?_
  walk_at "dd"
  refine fun G e => ⟨a, ns, 0, rfl, rfl, same_sqL e hs, by decide, fun c0 => ⟨rfl, ?_⟩⟩
  walk_at "dd"
  rename_i sa hsa
  refine ed_callN 0 1 ?_
  walk_at "dd"
  refine ⟨sa, [dI c0], rfl, rfl, .inl ⟨c0, rfl⟩, fun a1 b1 c1 p1 x1 r1 s1 => ?_⟩
  walk_at "dd"
  refine ed_callN 1 1 ?_
  walk_at "dd"
  refine ed_callG ?_
  walk_at "dd"
  refine fun G e => ⟨a, ns, 1, rfl, rfl, same_sqL e hs, by decide, fun c2 => ⟨rfl, ?_⟩⟩
  walk_at "dd"
  rename_i ta hta
  refine ⟨ta, [dI (c2 + 1)], rfl, rfl, .inl ⟨_, rfl⟩, fun a2 b2 c3 p2 x2 r2 s2 => ?_⟩
  walk_at "dd"
  refine ed_make ?_
  walk_at "dd"
  refine ⟨_, rfl, rfl, fun t1 w1 f1 => ?_⟩
  walk_at "dd"
  rename_i bl hbl
  refine ed_methN 2 4 ?_
  walk_at "dd"
  refine ⟨_, InsD.own 2 rfl, rfl, ?_⟩
  walk_at "dd"
  refine ⟨⟨bl, t1, w1, f1, [], "", []⟩, "1 mark", rfl, rfl, by decide +kernel, by show ("" : Str).length ≤ _; decide +kernel, by show List.length [] < _; simp, ?_⟩
  walk_at "dd"
  refine ed_methN 2 4 ?_
  walk_at "dd"
  refine ⟨_, InsD.own 2 rfl, rfl, ?_⟩
  walk_at "dd"
  refine ⟨⟨bl, t1, w1, f1, [], ("" : Str) ++ (("1 mark" : Str) ++ ("\n" : Str)), [] ++ [.tup [dS "line", dS "1 mark"]]⟩, rfl, rfl, by show List.length ([] ++ [_]) < _; simp, ?_⟩
  walk_at "dd"
  refine ed_make ?_
  walk_at "dd"
  refine ⟨_, rfl, rfl, fun t2 w2 f2 => ?_⟩
  walk_at "dd"
  rename_i ba hba
  let shB : ShS := ⟨bl, t1, w1, f1, [], "", [.tup [dS "line", dS "1 mark"], .tup [dS "blot"]]⟩
  let shA : ShS := ⟨ba, t2, w2, f2, [], "", []⟩
  show EvD K B _ _ ((sa, .lst x1) :: (ta, .lst x2) :: (shO K shB ++ shO K shA)) _
  refine ed_callN 0 1 ?_
  walk_at "dd"
  refine ⟨sa, x1, rfl, rfl, s1, fun shC x3 nb s3 => ?_⟩
  walk_at "dd"
  have g1 := r1.g
  have g2 := r2.g
  have hlB : shB.writes.all logOk = true := by
    show List.all [D.tup [dS "line", dS "1 mark"], D.tup [dS "blot"]] logOk = true
    decide +kernel
  have htB : shB.writes.all (treeOk 3) = true := by
    show List.all [D.tup [dS "line", dS "1 mark"], D.tup [dS "blot"]] (treeOk 3) = true
    decide +kernel
  refine sv_forL ?_
  refine ed_callN 0 1 ?_
  walk_at "dd"
  refine ⟨sa, x3, a1, b1, c1, p1, rfl, rfl, s3, fun l x4 hl s4 => ?_⟩
  let O : Ow := (sa, .lst x4) :: (shO K shC ++ ((ta, .lst x2) :: (shO K shB ++ shO K shA)))
  refine ⟨l, rfl, fun _ e o => ∃ y z, e = [some (dR a), some (dR sa), some (ruleD a1 b1 c1 p1), some (ruleD a2 b2 c3 p2), some (dR bl), some (dR ba), some (dR shC.p), y, none, none, none, z] ∧ o = O, ⟨none, none, rfl, rfl⟩, ?_, ?_⟩
  · rintro i x env' o' hx ⟨y, z, rfl, rfl⟩
    have hb := hl x (List.mem_of_getElem? hx)
    walk_at "dd"
    refine sv_forU ?_
    walk_at "dd"
    refine ed_callN 1 4 ?_
    walk_at "dd"
    refine ⟨shC, x, "rule", rfl, rfl, hb.1, nb.log, .inl ⟨hb.2, rfl⟩, ?_⟩
    walk_at "dd"
    refine ed_callN 10 4 ?_
    walk_at "dd"
    refine ⟨shA, x, "rule", rfl, rfl, hb.1, rfl, .inl ⟨hb.2, rfl⟩, ?_⟩
    walk_at "dd"
    refine ed_callN 6 4 ?_
    walk_at "dd"
    refine ⟨shB, x, "rule", rfl, rfl, hb.1, hlB, .inl ⟨hb.2, rfl⟩, ?_⟩
    walk_at "dd"
    exact ⟨_, _, rfl, rfl⟩
  · rintro env' o' ⟨y, z, rfl, rfl⟩
    walk_at "dd"
    refine ed_callN 1 4 ?_
    walk_at "dd"
    refine ⟨shC, ruleD a1 b1 c1 p1, "bare", rfl, rfl, g1.pl, nb.log, .inr ⟨g1.ok, rfl, nb.ks⟩, ?_⟩
    walk_at "dd"
    refine ed_methN 10 4 ?_
    walk_at "dd"
    refine ⟨_, InsD.own 10 rfl, rfl, ?_⟩
    walk_at "dd"
    refine ⟨shA, rfl, rfl, ?_⟩
    walk_at "dd"
    refine rv_neSame (a := .list []) rfl (by rfl) ?_
    walk_at "dd"
    refine ed_methN 6 4 ?_
    walk_at "dd"
    refine ⟨_, InsD.own 6 rfl, rfl, ?_⟩
    walk_at "dd"
    refine ⟨shB, rfl, rfl, ?_⟩
    walk_at "dd"
    show EvD K B _ _ O _
    refine ed_callN 10 4 ?_
    walk_at "dd"
    refine ⟨shA, ruleD a1 b1 c1 p1, rfl, rfl, g1.pl, fun h => ?_, fun _ => ⟨[], rfl, by decide, fun h => ?_, fun _ => ⟨a1, b1, c1, p1, rfl, g1.bd, by show List.length [] < _; simp, fun stA kA sdA hA => ?_⟩⟩⟩
    · rw [g1.ok] at h
      cases h
    · rcases h with h | h
      · exact (h rfl).elim
      · exact (h rfl).elim
    walk_at "dd"
    refine ed_callN 6 4 ?_
    walk_at "dd"
    refine ⟨shB, ruleD a2 b2 c3 p2, rfl, rfl, g2.pl, fun h => ?_, fun _ => ⟨[], rfl, by decide, fun h => ?_, fun _ => ⟨a2, b2, c3, p2, rfl, g2.bd, by show List.length [_, _] < _; simp, fun stB kB sdB hB => ?_⟩⟩⟩
    · rw [g2.ok] at h
      cases h
    · rcases h with h | h
      · exact (h rfl).elim
      · exact (h rfl).elim
    walk_at "dd"
    let O2 : Ow := (sa, .lst x4) :: (shO K shC ++ ((ta, .lst x2) :: ((shO K (begunS shB a2 b2 c3 p2) ++ (stO K stB ++ keptO K shB stB ⟨kB, sdB⟩)) ++ (shO K (begunS shA a1 b1 c1 p1) ++ (stO K stA ++ keptO K shA stA ⟨kA, sdA⟩)))))
    show EvD K B _ _ O2 _
    refine ed_callN 16 10 ?_
    walk_at "dd"
    refine ⟨shA, stA, ⟨kA, sdA⟩, a1, b1, c1, p1, rfl, rfl, hA, g1.bd, by show List.length [] < _; simp, rfl, ?_⟩
    walk_at "dd"
    refine ed_callN 6 10 ?_
    walk_at "dd"
    refine ⟨shB, stB, ⟨kB, sdB⟩, a2, b2, c3, p2, rfl, rfl, hB, g2.bd, by show List.length [_, _] < _; simp, htB, ?_⟩
    walk_at "dd"
    show EvD K B _ _ O2 _
    refine ed_callN 16 4 ?_
    walk_at "dd"
    refine ⟨begunS shA a1 b1 c1 p1, ruleD a2 b2 c3 p2, "bare", rfl, rfl, g2.pl, log_begun g1 rfl, .inr ⟨g2.ok, rfl, [2, 0], rfl, by decide, .inl (by simp)⟩, ?_⟩
    walk_at "dd"
    refine ed_callN 6 4 ?_
    walk_at "dd"
    refine rs_tup (by show ¬ (HT.sIx 4 0 none = 0 ∧ HT.sIx 4 4 (some 3) = 4); decide) ?_
    walk_at "dd"
    refine ⟨begunS shB a2 b2 c3 p2, _, "rule", rfl, rfl, bad3.1, log_begun g2 hlB, .inl ⟨bad3.2, rfl⟩, ?_⟩
    walk_at "dd"
    show EvD K B _ _ O2 _
    refine ed_callN 16 10 ?_
    walk_at "dd"
    refine ⟨shA, stA, ⟨kA, sdA⟩, a1, b1, c1, p1, rfl, rfl, hA, g1.bd, by show List.length [] < _; simp, rfl, ?_⟩
    walk_at "dd"
    refine ed_callN 6 10 ?_
    walk_at "dd"
    refine ⟨shB, stB, ⟨kB, sdB⟩, a2, b2, c3, p2, rfl, rfl, hB, g2.bd, by show List.length [_, _] < _; simp, htB, ?_⟩
    exact hP _
end
end K84
set_option maxHeartbeats 0
open PySem PySem.W PySem.Calls PyProof.Rows
theorem law_end {K : PySem.W.Frag} {H : L2.Hp} {a : Addr} {ns : List Int} (hS : L2.SqL K H a (ns.map L2.V.int)) : DK.spG K (K84.R_law K) [.ref a] H (fun v _ => v = .bl true) (fun _ _ _ => False) :=
  ⟨H, [DK.dR a], [], fun d _ => d = DK.dB true, DK.X0, L2.Same.refl H, .cons (.sc _) .nil, (fun pm h => by cases h), List.nodup_nil, ⟨a, ns, rfl, rfl, hS, fun o => rfl⟩, DK.XOk.none, fun v d G' H' fp' T rv p => by
    subst p
    cases rv
    rfl⟩
theorem PySem.Challenge.cw_notefall_k84_begun_on_a_bare_shelf_holds : PySem.Challenge.rw_notefall_k84_begun_on_a_bare_shelf.Holds := by
  w_on; o_law
  refine HandSHeadRun.head_any (r := OpenLaw.row PySem.Challenge.rw_notefall_k84_begun_on_a_bare_shelf) (q := view (OpenLaw.row PySem.Challenge.rw_notefall_k84_begun_on_a_bare_shelf).prog [72]) (H := K84.hk) (ob := K84.ob) (M := 20000) (loose := K84.loose) (d := HandSHeadRun.topDef (OpenLaw.row PySem.Challenge.rw_notefall_k84_begun_on_a_bare_shelf).prog 72) (kwd := []) K84.ob_eq
    (by kernel_rfl) (fun s => by kernel_rfl) K84.run (by kernel_rfl) (by kernel_rfl) (by kernel_rfl) (by rfl) (by first | assumption | decide +kernel) (by decide +kernel) ⟨rfl, rfl, rfl, rfl, rfl, by decide +kernel⟩ ?hw ?hc
  case hw => w_witness2
  case hc =>
    refine L2.walk_ofE (l := PySem.Challenge.rw_notefall_k84_begun_on_a_bare_shelf) (n := 63) (k := 10) (x := "_law_script") (CX := L2.CX0) rfl (by decide) (by kernel_rfl) ⟨rfl, by decide, by decide⟩ ?F (fun _ _ _ _ z => z)
    intro w mg fa h Y G hmg0
    obtain ⟨K, KX, c⟩ := Y
    have hmg : mg ("law" : PySem.Str) = some (.ref fa) := by
      have e : (HandSHeadRun.topDef (OpenLaw.row PySem.Challenge.rw_notefall_k84_begun_on_a_bare_shelf).prog 72).name = ("law" : PySem.Str) := by kernel_rfl
      rw [← e]
      exact hmg0
    have T : K84.Cxt K mg := ⟨c, h, KX, G⟩
    obtain ⟨fd, F, hF⟩ := K84.F_law (P := (PySem.Challenge.rw_notefall_k84_begun_on_a_bare_shelf).prog) (w := w) T
    have e := hmg.symm.trans (K84.g_law T)
    cases e
    have b := L2.FunD.bindsA (ps := ["_law_script"]) F fun _ _ _ _ _ _ us hl => match us, hl with | [_], _ => rfl
    exact ⟨K, fd, DK.spG K (K84.R_law K), KX, fun s v => b s [v] rfl, fun H a ns hl _ hS => law_end hS, fun base _ _ => hF base⟩

