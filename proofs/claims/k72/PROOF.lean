import PyProof.Rows.All
import Wide.All
import OpenK.AllK
import Wide.FinOn
import HandS.ForMost
import HandS.ForExc
import HandS.Deep
import HandS.TupAny
import HandS.Defaults
import HandS.IsInst
import HandS.StrMore
import HandS.Replace
import HandS.ReplaceLit
import HandS.ReplaceDef
import HandS.More
import HandS.Words
import HandS.WordsExc
import HandS.Head0
import HandS.Head1
import HandS.Head2
import HandS.HeadEnd
import HandS.HeadHook1
import HandS.HeadHook2
import HandS.ReplaceList
import PySem.Challenge.RW_clicktrain_k72_rows_and_shows_as_texts
set_option Elab.async false
set_option linter.all false
set_option maxRecDepth 100000
set_option maxHeartbeats 8000000
namespace Tz
open PySem PySem.Spec PyProof.Rows L2

/-! ### frozen data at a heap -/
abbrev D := PyData
mutual
inductive Rp (K : PySem.W.Frag) (H : Hp) : V → D → Prop
  | non : Rp K H .non .none
  | bl (b : Bool) : Rp K H (.bl b) (.bool b)
  | int (i : Int) : Rp K H (.int i) (.int i)
  | str (x : Str) : Rp K H (.str x) (.str x)
  | lst {a : Addr} {xs : List V} {ds : List D} : SqL K H a xs → RpAll K H xs ds → Rp K H (.ref a) (.list ds)
  | tup {a : Addr} {xs : List V} {ds : List D} : SqT K H a xs → RpAll K H xs ds → Rp K H (.ref a) (.tuple ds)
inductive RpAll (K : PySem.W.Frag) (H : Hp) : List V → List D → Prop
  | nil : RpAll K H [] []
  | cons {v : V} {vs : List V} {d : D} {ds : List D} : Rp K H v d → RpAll K H vs ds → RpAll K H (v :: vs) (d :: ds)
end
section
variable {K : PySem.W.Frag} {H H' : Hp}
theorem same_rd (e : Same H H') {a : Addr} {u : HO} (h : Rd H a u) : Rd H' a u := by
  rcases h with h | ⟨o, h⟩
  · exact .inl (e _ _ h)
  · exact .inr ⟨o, e _ _ h⟩
theorem same_sql (e : Same H H') {a : Addr} {xs : List V} (h : SqL K H a xs) : SqL K H' a xs := by
  rcases h with h | h
  · exact .inl (same_rd e h)
  · exact .inr h
theorem same_sqt (e : Same H H') {a : Addr} {xs : List V} (h : SqT K H a xs) : SqT K H' a xs := by
  rcases h with h | h
  · exact .inl (same_rd e h)
  · exact .inr h
mutual
theorem Rp.mono (e : Same H H') : ∀ {d : D} {v : V}, Rp K H v d → Rp K H' v d
  | .none, _, h => by cases h; exact .non
  | .bool b, _, h => by cases h; exact .bl b
  | .int i, _, h => by cases h; exact .int i
  | .str x, _, h => by cases h; exact .str x
  | .list ds, _, h => by cases h with | lst h1 h2 => exact .lst (same_sql e h1) (RpAll.mono e h2)
  | .tuple ds, _, h => by cases h with | tup h1 h2 => exact .tup (same_sqt e h1) (RpAll.mono e h2)
  | .dict _, _, h => by cases h
theorem RpAll.mono (e : Same H H') : ∀ {ds : List D} {vs : List V}, RpAll K H vs ds → RpAll K H' vs ds
  | [], _, h => by cases h; exact .nil
  | d :: ds, _, h => by cases h with | cons h1 h2 => exact .cons (Rp.mono e h1) (RpAll.mono e h2)
end
mutual
theorem Rp.dp : ∀ {d : D} {v : V}, Rp K H v d → Dp K H v d
  | .none, _, h => by cases h; exact .non
  | .bool b, _, h => by cases h; exact .bl b
  | .int i, _, h => by cases h; exact .int i
  | .str x, _, h => by cases h; exact .str x
  | .list ds, _, h => by cases h with | lst h1 h2 => exact .lst h1 (RpAll.dp h2)
  | .tuple ds, _, h => by cases h with | tup h1 h2 => exact .tup h1 (RpAll.dp h2)
  | .dict _, _, h => by cases h
theorem RpAll.dp : ∀ {ds : List D} {vs : List V}, RpAll K H vs ds → DpAll K H vs ds
  | [], _, h => by cases h; exact .nil
  | d :: ds, _, h => by cases h with | cons h1 h2 => exact .cons (Rp.dp h1) (RpAll.dp h2)
end
theorem RpAll.length : ∀ {vs : List V} {ds : List D}, RpAll K H vs ds → vs.length = ds.length
  | _, _, .nil => rfl
  | _, _, .cons _ t => congrArg (· + 1) (RpAll.length t)
theorem RpAll.get : ∀ {vs : List V} {ds : List D} {i : Nat} {d : D}, RpAll K H vs ds → ds[i]? = some d → ∃ v, vs[i]? = some v ∧ Rp K H v d
  | _, _, _, _, .nil, e => by simp at e
  | _, _, 0, _, .cons r _, e => by simp at e; subst e; exact ⟨_, rfl, r⟩
  | _, _, i + 1, _, .cons _ t, e => RpAll.get (i := i) t (by simpa using e)
theorem RpAll.getV : ∀ {vs : List V} {ds : List D} {i : Nat} {v : V}, RpAll K H vs ds → vs[i]? = some v → ∃ d, ds[i]? = some d ∧ Rp K H v d
  | _, _, _, _, .nil, e => by simp at e
  | _, _, 0, _, .cons r _, e => by simp at e; subst e; exact ⟨_, rfl, r⟩
  | _, _, i + 1, _, .cons _ t, e => RpAll.getV (i := i) t (by simpa using e)
theorem RpAll.append : ∀ {vs ws : List V} {ds es : List D}, RpAll K H vs ds → RpAll K H ws es → RpAll K H (vs ++ ws) (ds ++ es)
  | _, _, _, _, .nil, s => s
  | _, _, _, _, .cons r t, s => .cons r (RpAll.append t s)
theorem RpAll.take : ∀ {vs : List V} {ds : List D} (n : Nat), RpAll K H vs ds → RpAll K H (vs.take n) (ds.take n)
  | _, _, 0, _ => .nil
  | _, _, _ + 1, .nil => .nil
  | _, _, n + 1, .cons r t => .cons r (RpAll.take n t)
theorem RpAll.drop : ∀ {vs : List V} {ds : List D} (n : Nat), RpAll K H vs ds → RpAll K H (vs.drop n) (ds.drop n)
  | _, _, 0, r => r
  | _, _, _ + 1, .nil => .nil
  | _, _, n + 1, .cons _ t => RpAll.drop n t
theorem RpAll.set : ∀ {vs : List V} {ds : List D} (i : Nat) {v : V} {d : D}, RpAll K H vs ds → Rp K H v d → RpAll K H (vs.set i v) (ds.set i d)
  | _, _, _, _, _, .nil, _ => .nil
  | _, _, 0, _, _, .cons _ t, q => .cons q t
  | _, _, i + 1, _, _, .cons r t, q => .cons r (RpAll.set i t q)
theorem RpAll.rep {vs : List V} {ds : List D} (h : RpAll K H vs ds) : ∀ k : Nat, RpAll K H (List.replicate k vs).flatten (List.replicate k ds).flatten
  | 0 => .nil
  | k + 1 => by
    rw [List.replicate_succ, List.replicate_succ, List.flatten_cons, List.flatten_cons]
    exact h.append (RpAll.rep h k)
theorem RpAll.dropLast {vs : List V} {ds : List D} (h : RpAll K H vs ds) : RpAll K H vs.dropLast ds.dropLast := by
  rw [List.dropLast_eq_take, List.dropLast_eq_take, h.length]
  exact h.take _
end

/-! ### slots, results -/
/-- what a slot holds: nothing known, frozen data, an own list, an own dict -/
inductive SV where
  | un | fr (t : D) | ol (ts : List D) | od (kvs : List (D × D))
def SV.own : SV → Bool
  | .ol _ => true
  | .od _ => true
  | _ => false
abbrev LS := List SV
inductive R (α : Type) where
  | ok (a : α) (ls : LS) | exc (c : Str) (ls : LS) | bad
abbrev M (α : Type) := LS → R α
def ret {α : Type} (a : α) : M α := fun ls => .ok a ls
def bnd {α β : Type} (m : M α) (f : α → M β) : M β := fun ls => match m ls with
  | .ok a ls' => f a ls'
  | .exc c ls' => .exc c ls'
  | .bad => .bad
def bad {α : Type} : M α := fun _ => .bad
def optM {α : Type} (o : Option α) : M α := fun ls => match o with
  | some a => .ok a ls
  | none => .bad

/-- the ghosts of a running def: the heap at its entry, its frozen part, the own lists handed in, what is wanted of what it raises -/
structure CC where
  H0 : Hp
  F0 : Hp
  io : List (Nat × Addr)
  /-- the slots of io -/
  J : List Nat
  /-- lists in the making, held by no slot -/
  tp : List (Addr × List V)
  E : Str → L2.St → Hp → Prop

/-- an own object's content -/
def ownRel (K : PySem.W.Frag) (F H : Hp) : SV → Addr → Prop
  | .ol ts, a => ∃ xs, H a = some (.lst xs) ∧ RpAll K F xs ts
  | _, _ => False
theorem ownRel.mono {K : PySem.W.Frag} {F F' H H' : Hp} {s : SV} {a : Addr} (e : Same F F') (h : ∀ o, H a = some o → H' a = some o) (r : ownRel K F H s a) : ownRel K F' H' s a := by
  cases s with
  | ol ts => obtain ⟨xs, e1, e2⟩ := r; exact ⟨xs, h _ e1, e2.mono e⟩
  | _ => exact r
theorem ownRel.some {K : PySem.W.Frag} {F H : Hp} {s : SV} {a : Addr} (r : ownRel K F H s a) : ∃ o, H a = Option.some o := by
  cases s with
  | ol ts => obtain ⟨xs, e1, e2⟩ := r; exact ⟨_, e1⟩
  | _ => exact r.elim

structure Rel (K : PySem.W.Frag) (C : CC) (F : Hp) (ls : LS) (σ : L2.St) (H : Hp) : Prop where
  f0 : Same C.F0 F
  fh : Same F H
  fm : ∀ a o, C.H0 a = some o → (∀ p ∈ C.io, p.2 ≠ a) → H a = some o
  al : ∀ a o, C.H0 a = some o → ∃ o', H a = some o'
  nw : ∀ a o, F a = some o → (∃ u, C.F0 a = some u) ∨ C.H0 a = none
  len : ls.length = σ.length
  fr : ∀ (i : Nat) t, ls[i]? = some (.fr t) → ∃ v, σ[i]? = some (some v) ∧ Rp K F v t
  ow : ∀ (i : Nat) s, ls[i]? = some s → s.own = true → ∃ a, σ[i]? = some (some (.ref a)) ∧ ownRel K F H s a ∧ F a = none ∧ (C.H0 a = none ∨ (i, a) ∈ C.io)
  dj : ∀ (i j : Nat) a s s', i ≠ j → ls[i]? = some s → ls[j]? = some s' → s.own = true → s'.own = true → σ[i]? = some (some (.ref a)) → σ[j]? ≠ some (some (.ref a))
  io : ∀ p ∈ C.io, σ[p.1]? = some (some (.ref p.2))
  jx : ∀ p ∈ C.io, p.1 ∈ C.J
  tm : ∀ p ∈ C.tp, H p.1 = some (.lst p.2) ∧ F p.1 = none
  tn : ∀ p ∈ C.tp, ∀ (i : Nat) s, ls[i]? = some s → s.own = true → σ[i]? ≠ some (some (.ref p.1))

/-- new frozen objects only -/
structure Grow (F H F' H' : Hp) : Prop where
  ff : Same F F'
  hh : Same H H'
  fh : Same F' H'
  nw : ∀ a o, F' a = some o → (∃ u, F a = some u) ∨ H a = none
theorem Grow.refl {F H : Hp} (h : Same F H) : Grow F H F H := ⟨Same.refl _, Same.refl _, h, fun a o e => .inl ⟨o, e⟩⟩
theorem Grow.trans {F H F1 H1 F2 H2 : Hp} (a : Grow F H F1 H1) (b : Grow F1 H1 F2 H2) : Grow F H F2 H2 :=
  ⟨a.ff.trans b.ff, a.hh.trans b.hh, b.fh, fun c o e => by
    rcases b.nw c o e with ⟨u, q⟩ | q
    · exact a.nw c u q
    · exact .inr (a.hh.free q)⟩
/-- one new frozen object -/
theorem same_laid {H : Hp} {p : Addr} {o : HO} (h : H p = none) : Same H (upd H p o) := fun b x e => by
  rw [upd_ne (ne_of_none e h)]
  exact e
theorem Grow.laid {F H : Hp} {p : Addr} (o : HO) (h : Same F H) (n : H p = none) : Grow F H (upd F p o) (upd H p o) :=
  ⟨same_laid (h.free n), same_laid n, fun b x e => by
    by_cases hb : b = p
    · subst hb; rw [upd_same] at e ⊢; exact e
    · rw [upd_ne hb] at e ⊢; exact h _ _ e, fun b x e => by
    by_cases hb : b = p
    · subst hb; exact .inr n
    · rw [upd_ne hb] at e; exact .inl ⟨x, e⟩⟩
theorem Rel.grow {K : PySem.W.Frag} {C : CC} {F F' H H' : Hp} {ls : LS} {σ : L2.St} (r : Rel K C F ls σ H) (g : Grow F H F' H') : Rel K C F' ls σ H' where
  f0 := r.f0.trans g.ff
  fh := g.fh
  fm := fun a o e n => g.hh a o (r.fm a o e n)
  al := fun a o e => by obtain ⟨o', q⟩ := r.al a o e; exact ⟨o', g.hh a o' q⟩
  nw := fun a o e => by
    rcases g.nw a o e with ⟨u, q⟩ | q
    · exact r.nw a u q
    · cases q' : C.F0 a with
      | some u => exact .inl ⟨u, rfl⟩
      | none =>
        refine .inr ?_
        cases q2 : C.H0 a with
        | none => rfl
        | some u =>
          obtain ⟨o', q3⟩ := r.al a u q2
          rw [q3] at q; cases q
  len := r.len
  fr := fun i t e => by obtain ⟨v, h1, h2⟩ := r.fr i t e; exact ⟨v, h1, h2.mono g.ff⟩
  ow := fun i s e o => by
    obtain ⟨a, h1, h2, h3, h4⟩ := r.ow i s e o
    refine ⟨a, h1, h2.mono g.ff (g.hh a), ?_, h4⟩
    cases q : F' a with
    | none => rfl
    | some u =>
      rcases g.nw a u q with ⟨z, q2⟩ | q2
      · rw [h3] at q2; cases q2
      · obtain ⟨o2, q3⟩ := h2.some
        rw [q2] at q3; cases q3
  dj := r.dj
  io := r.io
  jx := r.jx
  tm := fun p hp => by
    obtain ⟨h1, h2⟩ := r.tm p hp
    refine ⟨g.hh _ _ h1, ?_⟩
    cases q : F' p.1 with
    | none => rfl
    | some u =>
      rcases g.nw _ u q with ⟨z, q2⟩ | q2
      · rw [h2] at q2; cases q2
      · rw [h1] at q2; cases q2
  tn := r.tn
end Tz
namespace Tz
open PySem PySem.Spec PyProof.Rows L2

/-! ### slots change -/
def killS : List Nat → LS → LS
  | [], ls => ls
  | k :: ks, ls => killS ks (ls.set k .un)
theorem killS_length : ∀ (ks : List Nat) (ls : LS), (killS ks ls).length = ls.length
  | [], _ => rfl
  | k :: ks, ls => by unfold killS; rw [killS_length, List.length_set]
theorem set_un {ls : LS} {k i : Nat} {s : SV} (h : (ls.set k .un)[i]? = some s) : s = .un ∨ ls[i]? = some s := by
  by_cases e : k = i
  · subst e
    by_cases hk : k < ls.length
    · rw [List.getElem?_set_self hk] at h; exact .inl (Option.some.inj h).symm
    · rw [List.getElem?_eq_none (by rw [List.length_set]; omega)] at h; cases h
  · rw [List.getElem?_set_ne e] at h; exact .inr h
section
variable {K : PySem.W.Frag} {C : CC} {F F' H H' : Hp} {ls ls' : LS} {σ : L2.St}
/-- forgetting -/
theorem Rel.weak (r : Rel K C F ls σ H) (hl : ls'.length = ls.length) (h : ∀ (i : Nat) s, ls'[i]? = some s → s = .un ∨ ls[i]? = some s) : Rel K C F ls' σ H where
  f0 := r.f0
  fh := r.fh
  fm := r.fm
  al := r.al
  nw := r.nw
  len := hl.trans r.len
  fr := fun i t e => by
    rcases h i _ e with q | q
    · cases q
    · exact r.fr i t q
  ow := fun i s e o => by
    rcases h i _ e with q | q
    · subst q; cases o
    · exact r.ow i s q o
  dj := fun i j a s s' n e e' o o' x => by
    rcases h i _ e with q | q
    · subst q; cases o
    · rcases h j _ e' with q' | q'
      · subst q'; cases o'
      · exact r.dj i j a s s' n q q' o o' x
  io := r.io
  jx := r.jx
  tm := r.tm
  tn := fun p hp i s e o => by
    rcases h i _ e with q | q
    · subst q; cases o
    · exact r.tn p hp i s q o
theorem kill_get : ∀ (ks : List Nat) {ls : LS} {i : Nat} {s : SV}, (killS ks ls)[i]? = some s → s = .un ∨ ls[i]? = some s
  | [], _, _, _, h => .inr h
  | k :: ks, ls, i, s, h => by
    rcases kill_get ks h with q | q
    · exact .inl q
    · exact set_un q
theorem Rel.kill (r : Rel K C F ls σ H) (ks : List Nat) : Rel K C F (killS ks ls) σ H := r.weak (killS_length ks ls) fun i s h => kill_get ks h

theorem set_get {ls : LS} {k i : Nat} {x s : SV} (h : (ls.set k x)[i]? = some s) : (k = i ∧ s = x ∧ k < ls.length) ∨ (k ≠ i ∧ ls[i]? = some s) := by
  by_cases e : k = i
  · subst e
    by_cases hk : k < ls.length
    · rw [List.getElem?_set_self hk] at h; exact .inl ⟨rfl, (Option.some.inj h).symm, hk⟩
    · rw [List.getElem?_eq_none (by rw [List.length_set]; omega)] at h; cases h
  · rw [List.getElem?_set_ne e] at h; exact .inr ⟨e, h⟩
/-- a slot gets frozen data -/
theorem Rel.setFr (r : Rel K C F ls σ H) {i : Nat} {v : V} {t : D} (hi : i ∉ C.J) (hv : Rp K F v t) : Rel K C F (ls.set i (.fr t)) (σ.set i (some v)) H where
  f0 := r.f0
  fh := r.fh
  fm := r.fm
  al := r.al
  nw := r.nw
  len := by rw [List.length_set, List.length_set]; exact r.len
  fr := fun j u e => by
    rcases set_get e with ⟨e1, e2, e3⟩ | ⟨e1, e2⟩
    · subst e1; cases e2
      rw [List.getElem?_set_self (by rw [← r.len]; exact e3)]
      exact ⟨v, rfl, hv⟩
    · rw [List.getElem?_set_ne e1]; exact r.fr j u e2
  ow := fun j s e o => by
    rcases set_get e with ⟨e1, e2, e3⟩ | ⟨e1, e2⟩
    · subst e2; cases o
    · rw [List.getElem?_set_ne e1]; exact r.ow j s e2 o
  dj := fun j k a s s' n e e' o o' x => by
    rcases set_get e with ⟨e1, e2, e3⟩ | ⟨e1, e2⟩
    · subst e2; cases o
    · rcases set_get e' with ⟨f1, f2, f3⟩ | ⟨f1, f2⟩
      · subst f2; cases o'
      · rw [List.getElem?_set_ne e1] at x
        rw [List.getElem?_set_ne f1]
        exact r.dj j k a s s' n e2 f2 o o' x
  io := fun p hp => by
    rw [List.getElem?_set_ne (show i ≠ p.1 from fun z => hi (by rw [z]; exact r.jx p hp))]
    exact r.io p hp
  jx := r.jx
  tm := r.tm
  tn := fun p hp j s e o => by
    rcases set_get e with ⟨e1, e2, e3⟩ | ⟨e1, e2⟩
    · subst e2; cases o
    · rw [List.getElem?_set_ne e1]; exact r.tn p hp j s e2 o
/-- an own object that no slot holds yet -/
structure Fresh (K : PySem.W.Frag) (C : CC) (F : Hp) (ls : LS) (σ : L2.St) (H : Hp) (s : SV) (a : Addr) : Prop where
  own : s.own = true
  rel : ownRel K F H s a
  ff : F a = none
  h0 : C.H0 a = none
  nx : ∀ (i : Nat) s', ls[i]? = some s' → s'.own = true → σ[i]? ≠ some (some (.ref a))
  nt : ∀ p ∈ C.tp, p.1 ≠ a
/-- a slot gets an own object -/
theorem Rel.setOw (r : Rel K C F ls σ H) {i : Nat} {s : SV} {a : Addr} (hi : i ∉ C.J) (f : Fresh K C F ls σ H s a) : Rel K C F (ls.set i s) (σ.set i (some (.ref a))) H where
  f0 := r.f0
  fh := r.fh
  fm := r.fm
  al := r.al
  nw := r.nw
  len := by rw [List.length_set, List.length_set]; exact r.len
  fr := fun j u e => by
    rcases set_get e with ⟨e1, e2, e3⟩ | ⟨e1, e2⟩
    · have o := f.own
      rw [← e2] at o; cases o
    · rw [List.getElem?_set_ne e1]; exact r.fr j u e2
  ow := fun j s e o => by
    rcases set_get e with ⟨e1, e2, e3⟩ | ⟨e1, e2⟩
    · subst e1; subst e2
      rw [List.getElem?_set_self (by rw [← r.len]; exact e3)]
      exact ⟨a, rfl, f.rel, f.ff, .inl f.h0⟩
    · rw [List.getElem?_set_ne e1]; exact r.ow j s e2 o
  dj := fun j k b s1 s2 n e e' o o' x => by
    rcases set_get e with ⟨e1, e2, e3⟩ | ⟨e1, e2⟩
    · subst e1
      rw [List.getElem?_set_self (by rw [← r.len]; exact e3)] at x
      cases x
      rcases set_get e' with ⟨f1, f2, f3⟩ | ⟨f1, f2⟩
      · exact absurd f1 n
      · rw [List.getElem?_set_ne f1]; exact f.nx k s2 f2 o'
    · rw [List.getElem?_set_ne e1] at x
      rcases set_get e' with ⟨f1, f2, f3⟩ | ⟨f1, f2⟩
      · subst f1
        rw [List.getElem?_set_self (by rw [← r.len]; exact f3)]
        intro z
        cases z
        exact f.nx j s1 e2 o x
      · rw [List.getElem?_set_ne f1]
        exact r.dj j k b s1 s2 n e2 f2 o o' x
  io := fun p hp => by
    rw [List.getElem?_set_ne (show i ≠ p.1 from fun z => hi (by rw [z]; exact r.jx p hp))]
    exact r.io p hp
  jx := r.jx
  tm := r.tm
  tn := fun p hp j s e o => by
    rcases set_get e with ⟨e1, e2, e3⟩ | ⟨e1, e2⟩
    · subst e1
      rw [List.getElem?_set_self (by rw [← r.len]; exact e3)]
      intro z
      cases z
      exact f.nt p hp rfl
    · rw [List.getElem?_set_ne e1]; exact r.tn p hp j s e2 o
/-- an own object's content is changed -/
theorem Rel.write (r : Rel K C F ls σ H) {i : Nat} {s s' : SV} {a : Addr} {o : HO} (e : ls[i]? = some s) (ho : s.own = true) (ho' : s'.own = true) (ha : σ[i]? = some (some (.ref a))) (n : ownRel K F (upd H a o) s' a) : Rel K C F (ls.set i s') σ (upd H a o) := by
  obtain ⟨a', h1, h2, h3, h4⟩ := r.ow i s e ho
  rw [ha] at h1; cases h1
  refine ⟨r.f0, fun b x q => ?_, fun b x q hp => ?_, fun b x q => ?_, r.nw, by rw [List.length_set]; exact r.len, fun j t q => ?_, fun j u q hu => ?_, fun j k b u u' nn q q' hu hu' x => ?_, r.io, r.jx, fun p hp => ?_, fun p hp j u q hu => ?_⟩
  · have nb : b ≠ a := ne_of_none q h3
    rw [upd_ne nb]; exact r.fh b x q
  · have nb : b ≠ a := by
      rintro rfl
      rcases h4 with z | z
      · rw [q] at z; cases z
      · exact hp _ z rfl
    rw [upd_ne nb]; exact r.fm b x q hp
  · by_cases hb : b = a
    · subst hb; exact ⟨o, upd_same⟩
    · rw [upd_ne hb]; exact r.al b x q
  · rcases set_get q with ⟨e1, e2, e3⟩ | ⟨e1, e2⟩
    · rw [← e2] at ho'; cases ho'
    · exact r.fr j t e2
  · rcases set_get q with ⟨e1, e2, e3⟩ | ⟨e1, e2⟩
    · subst e1; subst e2
      exact ⟨a, ha, n, h3, h4⟩
    · obtain ⟨b, g1, g2, g3, g4⟩ := r.ow j u e2 hu
      have nb : b ≠ a := by
        rintro rfl
        exact r.dj i j b s u e1 e e2 ho hu ha g1
      exact ⟨b, g1, g2.mono (Same.refl F) fun x z => by rw [upd_ne nb]; exact z, g3, g4⟩
  · rcases set_get q with ⟨e1, e2, e3⟩ | ⟨e1, e2⟩
    · subst e1
      rcases set_get q' with ⟨f1, f2, f3⟩ | ⟨f1, f2⟩
      · exact absurd f1 nn
      · exact r.dj i k b s u' nn e f2 ho hu' x
    · rcases set_get q' with ⟨f1, f2, f3⟩ | ⟨f1, f2⟩
      · subst f1
        exact r.dj j i b u s nn e2 e hu ho x
      · exact r.dj j k b u u' nn e2 f2 hu hu' x
  · have np : p.1 ≠ a := fun z => r.tn p hp i s e ho (by rw [z]; exact ha)
    rw [upd_ne np]
    exact r.tm p hp
  · rcases set_get q with ⟨e1, e2, e3⟩ | ⟨e1, e2⟩
    · subst e1; exact r.tn p hp i s e ho
    · exact r.tn p hp j u e2 hu
/-- F without a -/
def cut (F : Hp) (a : Addr) : Hp := fun b => if b = a then none else F b
/-- an own list that is not handed in becomes frozen -/
theorem Rel.freeze (r : Rel K C F ls σ H) {i : Nat} {ts : List D} (e : ls[i]? = some (.ol ts)) (hi : i ∉ C.J) :
    ∃ a xs, σ[i]? = some (some (.ref a)) ∧ F a = none ∧ H a = some (.lst xs) ∧ Same F (upd F a (.lst xs)) ∧ Rel K C (upd F a (.lst xs)) (ls.set i (.fr (.list ts))) σ H ∧ Rp K (upd F a (.lst xs)) (.ref a) (.list ts) := by
  obtain ⟨a, h1, ⟨xs, h2, h3⟩, h4, h5⟩ := r.ow i _ e rfl
  have h6 : C.H0 a = none := by
    rcases h5 with z | z
    · exact z
    · exact absurd (r.jx _ z) hi
  have sm : Same F (upd F a (.lst xs)) := same_laid h4
  have rp : Rp K (upd F a (.lst xs)) (.ref a) (.list ts) := .lst (.inl (.inl upd_same)) (h3.mono sm)
  refine ⟨a, xs, h1, h4, h2, sm, ⟨r.f0.trans sm, fun b x q => ?_, r.fm, r.al, fun b x q => ?_, by rw [List.length_set]; exact r.len, fun j t q => ?_, fun j u q hu => ?_, fun j k b u u' nn q q' hu hu' x => ?_, r.io, r.jx, fun p hp => ?_, fun p hp j u q hu => ?_⟩, rp⟩
  · by_cases hb : b = a
    · subst hb; rw [upd_same] at q; cases q; exact h2
    · rw [upd_ne hb] at q; exact r.fh b x q
  · by_cases hb : b = a
    · subst hb; exact .inr h6
    · rw [upd_ne hb] at q; exact r.nw b x q
  · rcases set_get q with ⟨e1, e2, e3⟩ | ⟨e1, e2⟩
    · subst e1; cases e2; exact ⟨_, h1, rp⟩
    · obtain ⟨v, g1, g2⟩ := r.fr j t e2
      exact ⟨v, g1, g2.mono sm⟩
  · rcases set_get q with ⟨e1, e2, e3⟩ | ⟨e1, e2⟩
    · subst e2; cases hu
    · obtain ⟨b, g1, g2, g3, g4⟩ := r.ow j u e2 hu
      have nb : b ≠ a := by
        rintro rfl
        exact r.dj i j b _ u e1 e e2 rfl hu h1 g1
      exact ⟨b, g1, g2.mono sm fun x z => z, by rw [upd_ne nb]; exact g3, g4⟩
  · rcases set_get q with ⟨e1, e2, e3⟩ | ⟨e1, e2⟩
    · subst e2; cases hu
    · rcases set_get q' with ⟨f1, f2, f3⟩ | ⟨f1, f2⟩
      · subst f2; cases hu'
      · exact r.dj j k b u u' nn e2 f2 hu hu' x
  · obtain ⟨g1, g2⟩ := r.tm p hp
    have np : p.1 ≠ a := fun z => r.tn p hp i _ e rfl (by rw [z]; exact h1)
    exact ⟨g1, by rw [upd_ne np]; exact g2⟩
  · rcases set_get q with ⟨e1, e2, e3⟩ | ⟨e1, e2⟩
    · subst e2; cases hu
    · exact r.tn p hp j u e2 hu
/-- a fresh own list becomes frozen -/
theorem Rel.freezeNew (r : Rel K C F ls σ H) {a : Addr} {ts : List D} (f : Fresh K C F ls σ H (.ol ts) a) :
    ∃ xs, H a = some (.lst xs) ∧ Same F (upd F a (.lst xs)) ∧ Rel K C (upd F a (.lst xs)) ls σ H ∧ Rp K (upd F a (.lst xs)) (.ref a) (.list ts) := by
  obtain ⟨xs, h2, h3⟩ := f.rel
  have sm : Same F (upd F a (.lst xs)) := same_laid f.ff
  refine ⟨xs, h2, sm, ⟨r.f0.trans sm, fun b x q => ?_, r.fm, r.al, fun b x q => ?_, r.len, fun j t q => ?_, fun j u q hu => ?_, r.dj, r.io, r.jx, fun p hp => ?_, r.tn⟩, .lst (.inl (.inl upd_same)) (h3.mono sm)⟩
  · by_cases hb : b = a
    · subst hb; rw [upd_same] at q; cases q; exact h2
    · rw [upd_ne hb] at q; exact r.fh b x q
  · by_cases hb : b = a
    · subst hb; exact .inr f.h0
    · rw [upd_ne hb] at q; exact r.nw b x q
  · obtain ⟨v, g1, g2⟩ := r.fr j t q
    exact ⟨v, g1, g2.mono sm⟩
  · obtain ⟨b, g1, g2, g3, g4⟩ := r.ow j u q hu
    have nb : b ≠ a := by
      rintro rfl
      exact f.nx j u q hu g1
    exact ⟨b, g1, g2.mono sm fun x z => z, by rw [upd_ne nb]; exact g3, g4⟩
  · obtain ⟨g1, g2⟩ := r.tm p hp
    exact ⟨g1, by rw [upd_ne (f.nt p hp)]; exact g2⟩
/-- a new list, not frozen -/
theorem Rel.newOwn (r : Rel K C F ls σ H) {p : Addr} {xs : List V} {ts : List D} (n : H p = none) (h : RpAll K F xs ts) : Rel K C F ls σ (upd H p (.lst xs)) ∧ Fresh K C F ls σ (upd H p (.lst xs)) (.ol ts) p := by
  have sm : Same H (upd H p (.lst xs)) := same_laid n
  have nF : F p = none := r.fh.free n
  have n0 : C.H0 p = none := by
    cases q : C.H0 p with
    | none => rfl
    | some o => obtain ⟨o', z⟩ := r.al p o q; rw [n] at z; cases z
  refine ⟨⟨r.f0, r.fh.trans sm, fun a o e hp => sm _ _ (r.fm a o e hp), fun a o e => by obtain ⟨o', z⟩ := r.al a o e; exact ⟨o', sm _ _ z⟩, r.nw, r.len, r.fr, fun i s e o => ?_, r.dj, r.io, r.jx, fun q hq => ?_, r.tn⟩, ⟨rfl, ⟨xs, upd_same, h⟩, nF, n0, fun i s' e o x => ?_, fun q hq z => ?_⟩⟩
  · obtain ⟨b, g1, g2, g3, g4⟩ := r.ow i s e o
    exact ⟨b, g1, g2.mono (Same.refl F) (sm b), g3, g4⟩
  · obtain ⟨g1, g2⟩ := r.tm q hq
    exact ⟨sm _ _ g1, g2⟩
  · obtain ⟨b, g1, g2, g3, g4⟩ := r.ow i s' e o
    rw [x] at g1; cases g1
    obtain ⟨z, q⟩ := g2.some
    rw [n] at q; cases q
  · obtain ⟨g1, g2⟩ := r.tm q hq
    rw [z, n] at g1; cases g1
/-- any untracked growth of the heap -/
theorem Rel.more (r : Rel K C F ls σ H) (sm : Same H H') : Rel K C F ls σ H' :=
  r.grow ⟨Same.refl _, sm, r.fh.trans sm, fun a o e => .inl ⟨o, e⟩⟩
theorem Fresh.grow {s : SV} {a : Addr} (f : Fresh K C F ls σ H s a) (g : Grow F H F' H') : Fresh K C F' ls σ H' s a := by
  refine ⟨f.own, f.rel.mono g.ff (g.hh a), ?_, f.h0, f.nx, f.nt⟩
  cases q : F' a with
  | none => rfl
  | some u =>
    rcases g.nw a u q with ⟨z, q2⟩ | q2
    · rw [f.ff] at q2; cases q2
    · obtain ⟨o2, q3⟩ := f.rel.some
      rw [q2] at q3; cases q3
end

/-! ### readings -/
section
variable (K : PySem.W.Frag) (C : CC)
def post {α : Type} (F : Hp) (σ : L2.St) (r : R α) (P : α → LS → Prop) : Prop := match r with
  | .ok a ls => P a ls
  | .exc c ls => ∀ H' F', Same F F' → Rel K C F' ls σ H' → C.E c σ H'
  | .bad => False
def tE (f : M D) : TE := fun σ H Q => ∃ F ls, Rel K C F ls σ H ∧ post K C F σ (f ls) fun t ls' => ∀ v H' F', Same F F' → Rel K C F' ls' σ H' → Rp K F' v t → Q v H'
/-- a new own object -/
def tN (f : M SV) : TE := fun σ H Q => ∃ F ls, Rel K C F ls σ H ∧ post K C F σ (f ls) fun s ls' => ∀ a H' F', Same F F' → Rel K C F' ls' σ H' → Fresh K C F' ls' σ H' s a → Q (.ref a) H'
def tP (f : M Bool) : TT := fun σ H Q => ∃ F ls, Rel K C F ls σ H ∧ post K C F σ (f ls) fun t ls' => ∀ H' F', Same F F' → Rel K C F' ls' σ H' → Q t H'
inductive Fl where
  | nx | rt (t : D) | ro (s : SV) | bk | ct
def pS (D0 : Ends) (F : Hp) (fl : Fl) (ls : LS) : Prop := ∀ σ H F', Same F F' → Rel K C F' ls σ H → match fl with
  | .nx => D0.nx σ H
  | .bk => D0.bk σ H
  | .ct => D0.ct σ H
  | .rt t => ∀ v, Rp K F' v t → D0.rt v H
  | .ro s => ∀ a, Fresh K C F' ls σ H s a → D0.rt (.ref a) H
/-- an exception behind stores: at any slots -/
def postS {α : Type} (F : Hp) (r : R α) (P : α → LS → Prop) : Prop := match r with
  | .ok a ls => P a ls
  | .exc c ls => ∀ σ H' F', Same F F' → Rel K C F' ls σ H' → C.E c σ H'
  | .bad => False
def tS (g : M Fl) : TS := fun D0 σ H => ∃ F ls, Rel K C F ls σ H ∧ postS K C F (g ls) fun fl ls' => pS K C D0 F fl ls'
end
section
variable {K : PySem.W.Frag} {C : CC} {α β : Type} {F F' : Hp} {σ : L2.St}
theorem post_bnd {m : M α} {f : α → M β} {ls : LS} {P : β → LS → Prop} : post K C F σ (bnd m f ls) P ↔ post K C F σ (m ls) fun a ls' => post K C F σ (f a ls') P := by
  unfold bnd post
  cases m ls <;> exact Iff.rfl
theorem postS_bnd {m : M α} {f : α → M β} {ls : LS} {P : β → LS → Prop} : postS K C F (bnd m f ls) P ↔ postS K C F (m ls) fun a ls' => postS K C F (f a ls') P := by
  unfold bnd postS
  cases m ls <;> exact Iff.rfl
theorem post_imp {r : R α} {P P' : α → LS → Prop} (h : post K C F σ r P) (e : Same F F') (k : ∀ a ls, P a ls → P' a ls) : post K C F' σ r P' := by
  unfold post at *
  cases r with
  | ok a ls => exact k a ls h
  | exc c ls => exact fun H' F1 e1 => h H' F1 (e.trans e1)
  | bad => exact h
theorem postS_imp {r : R α} {P P' : α → LS → Prop} (h : postS K C F r P) (e : Same F F') (k : ∀ a ls, P a ls → P' a ls) : postS K C F' r P' := by
  unfold postS at *
  cases r with
  | ok a ls => exact k a ls h
  | exc c ls => exact fun σ H' F1 e1 => h σ H' F1 (e.trans e1)
  | bad => exact h
theorem postS_post {r : R α} {P : α → LS → Prop} (h : postS K C F r P) : post K C F σ r P := by
  unfold post postS at *
  cases r with
  | ok a ls => exact h
  | exc c ls => exact h σ
  | bad => exact h
end
section
variable {X : Cx}
theorem peI {e : Expr} {t t' : TE} (h : PE X e t) (k : ∀ σ H Q, t' σ H Q → t σ H Q) : PE X e t' := ⟨fun pins s σ H Q I q => h.run pins s σ H Q I (k σ H Q q)⟩
theorem ptI {e : Expr} {t t' : TT} (h : PT X e t) (k : ∀ σ H Q, t' σ H Q → t σ H Q) : PT X e t' := ⟨fun pins s σ H Q I q => h.run pins s σ H Q I (k σ H Q q)⟩
theorem pwI {e : Expr} {t t' : TT} (h : PW X e t) (k : ∀ σ H Q, t' σ H Q → t σ H Q) : PW X e t' := ⟨fun w pins s σ H Q I q => h.run w pins s σ H Q I (k σ H Q q)⟩
theorem psI {e : Stmt} {t t' : TS} (h : PS X e t) (k : ∀ D σ H, t' D σ H → t D σ H) : PS X e t' := ⟨fun pins s σ H D I q => h.run pins s σ H D I (k D σ H q)⟩
theorem pssI {e : List Stmt} {t t' : TS} (h : PSs X e t) (k : ∀ D σ H, t' D σ H → t D σ H) : PSs X e t' := ⟨fun pins s σ H D I q => h.run pins s σ H D I (k D σ H q)⟩
theorem paI {e : List Expr} {t t' : TA} (h : PA X e t) (k : ∀ σ H Q, t' σ H Q → t σ H Q) : PA X e t' := ⟨fun pos pins s σ H Q I q => h.run pos pins s σ H Q I (k σ H Q q)⟩
theorem piI {tg e : Expr} {t t' : TI} (h : PI X tg e t) (k : ∀ σ H Q, t' σ H Q → t σ H Q) : PI X tg e t' := ⟨fun pins s σ H Q I q => h.run pins s σ H Q I (k σ H Q q)⟩
theorem pgI {e : Expr} {t t' : TG} (h : PG X e t) (k : ∀ v σ H Q, t' v σ H Q → t v σ H Q) : PG X e t' := ⟨fun pins s σ H v u Q I r q => h.run pins s σ H v u Q I r (k v σ H Q q)⟩
end

/-! ### composing -/
section
variable {K : PySem.W.Frag} {C : CC} {α : Type} {F : Hp} {σ : L2.St} {H : Hp} {ls : LS}
/-- an expression first, then the rest -/
theorem thenE {f : M D} {g : D → M α} {P : α → LS → Prop} {Q : VK} (r : Rel K C F ls σ H) (h : post K C F σ (bnd f g ls) P)
    (k : ∀ t ls' v H' F', Same F F' → Rel K C F' ls' σ H' → Rp K F' v t → post K C F' σ (g t ls') P → Q v H') : tE K C f σ H Q := by
  refine ⟨F, ls, r, post_imp (post_bnd.mp h) (Same.refl F) fun t ls' q v H' F' e r' p => k t ls' v H' F' e r' p ?_⟩
  exact post_imp q e fun _ _ z => z
theorem thenP {f : M Bool} {g : Bool → M α} {P : α → LS → Prop} {Q : Bool → Hp → Prop} (r : Rel K C F ls σ H) (h : post K C F σ (bnd f g ls) P)
    (k : ∀ t ls' H' F', Same F F' → Rel K C F' ls' σ H' → post K C F' σ (g t ls') P → Q t H') : tP K C f σ H Q := by
  refine ⟨F, ls, r, post_imp (post_bnd.mp h) (Same.refl F) fun t ls' q H' F' e r' => k t ls' H' F' e r' ?_⟩
  exact post_imp q e fun _ _ z => z
theorem thenN {f : M SV} {g : SV → M α} {P : α → LS → Prop} {Q : VK} (r : Rel K C F ls σ H) (h : post K C F σ (bnd f g ls) P)
    (k : ∀ s ls' a H' F', Same F F' → Rel K C F' ls' σ H' → Fresh K C F' ls' σ H' s a → post K C F' σ (g s ls') P → Q (.ref a) H') : tN K C f σ H Q := by
  refine ⟨F, ls, r, post_imp (post_bnd.mp h) (Same.refl F) fun s ls' q v H' F' e r' p => k s ls' v H' F' e r' p ?_⟩
  exact post_imp q e fun _ _ z => z
theorem thenES {f : M D} {g : D → M α} {P : α → LS → Prop} {Q : VK} (r : Rel K C F ls σ H) (h : postS K C F (bnd f g ls) P)
    (k : ∀ t ls' v H' F', Same F F' → Rel K C F' ls' σ H' → Rp K F' v t → postS K C F' (g t ls') P → Q v H') : tE K C f σ H Q := by
  refine ⟨F, ls, r, post_imp (postS_post (postS_bnd.mp h)) (Same.refl F) fun t ls' q v H' F' e r' p => k t ls' v H' F' e r' p ?_⟩
  exact postS_imp q e fun _ _ z => z
theorem thenPS {f : M Bool} {g : Bool → M α} {P : α → LS → Prop} {Q : Bool → Hp → Prop} (r : Rel K C F ls σ H) (h : postS K C F (bnd f g ls) P)
    (k : ∀ t ls' H' F', Same F F' → Rel K C F' ls' σ H' → postS K C F' (g t ls') P → Q t H') : tP K C f σ H Q := by
  refine ⟨F, ls, r, post_imp (postS_post (postS_bnd.mp h)) (Same.refl F) fun t ls' q H' F' e r' => k t ls' H' F' e r' ?_⟩
  exact postS_imp q e fun _ _ z => z
theorem thenNS {f : M SV} {g : SV → M α} {P : α → LS → Prop} {Q : VK} (r : Rel K C F ls σ H) (h : postS K C F (bnd f g ls) P)
    (k : ∀ s ls' a H' F', Same F F' → Rel K C F' ls' σ H' → Fresh K C F' ls' σ H' s a → postS K C F' (g s ls') P → Q (.ref a) H') : tN K C f σ H Q := by
  refine ⟨F, ls, r, post_imp (postS_post (postS_bnd.mp h)) (Same.refl F) fun s ls' q v H' F' e r' p => k s ls' v H' F' e r' p ?_⟩
  exact postS_imp q e fun _ _ z => z
end
end Tz
namespace Tz
open PySem PySem.Spec PyProof.Rows L2

/-! ### operators on data -/
def rD (K : PySem.W.Frag) (g : D → D → Option D) : R2 := fun x y H Q => ∃ F tx ty t, Same F H ∧ Rp K F x tx ∧ Rp K F y ty ∧ g tx ty = some t ∧ ∀ v F' H', Grow F H F' H' → Rp K F' v t → Q v H'
def mBin (g : D → D → Option D) (fa fb : M D) : M D := bnd fa fun x => bnd fb fun y => optM (g x y)
section
variable {X : Cx} {pins : List (Addr × Obj)} {σ : L2.St} {H : Hp} {s : Shared}
/-- of any plain list: its object -/
theorem lstR (I : Inv X pins σ H s) {p : Addr} {xs : List V} (h : SqL X.K H p xs) :
    xs.length ≤ sizeLine ∧ ∃ (its : List Value) (n : Nat) (sl : Array (Option Value)), Vals xs its ∧ xs.length = its.length ∧ s.heap.get? p = some ⟨.type "list", none, .seq its.toArray n, sl⟩ := by
  obtain ⟨its, r, ⟨o, n, e, c, d, q⟩, z⟩ := I.list h
  obtain ⟨c', d', q', sl⟩ := o
  cases c; cases d; cases q
  exact ⟨z, its, n, sl, r, r.length, e⟩
/-- k * l hands over to l * k -/
theorem int_rmul_gen (k : Int) (t : Tok) (p : Addr) (its : Array Value) (n : Nat) (sl : Array (Option Value)) :
    Meets (Builtin.«int.__rmul__» ⟨[.int k t, .ref p], []⟩) (fun _ R z => z.heap.get? p = some ⟨.type "list", none, .seq its n, sl⟩ ∧ R (.ok (.ret Value.notImplemented)) z) :=
  .of_wp fun P w A R z h => by
    obtain ⟨h0, g, d, tk, os⟩ := z
    obtain ⟨h1, h2⟩ := h
    wp_walk
    exact ⟨_, rfl, h2⟩
theorem list_mul_gen (p : Addr) (its : Array Value) (n : Nat) (k : Int) (t : Tok) (sl : Array (Option Value)) (f1 : ¬(!Builtin.List.listFitsIndex k) = true) (f2 : ¬its.size * k.toNat > (2 ^ 63 - 1) / 8) (f3 : ¬Builtin.List.listTooLong (its.size * k.toNat) = true) :
    Meets (Builtin.«list.__mul__» ⟨[.ref p, .int k t], []⟩) (fun _ R z => z.heap.get? p = some ⟨.type "list", none, .seq its n, sl⟩ ∧ R (.ok (.ret (Value.ref z.heap.objs.size))) { z with heap := z.heap.push { cls := Value.type "list", data := Data.seq (List.foldl (fun x1 x2 => x1 ++ x2) #[] (List.replicate (if its.isEmpty = true then 0 else k.toNat) its)) }, toks := z.toks }) :=
  .of_wp fun P w A R z h => by
    obtain ⟨h0, g, d, tk, os⟩ := z
    obtain ⟨h1, h2⟩ := h
    have fz := AutoListH.joined_fits f3
    wp_walk
    refine wpAny_ite_false (decide_eq_false (Nat.not_lt.mpr fz)) ?_
    wp_walk
    exact ⟨_, rfl, h2⟩
theorem list_ext_gen (p : Addr) (its : Array Value) (n : Nat) (b : Addr) (its2 : Array Value) (n2 : Nat) (sl2 : Array (Option Value)) (f1 : ¬(!its.isEmpty && Builtin.List.listTooLong (its.size + its2.size)) = true) (f2 : its.size ≤ sizeLine) (f3 : its.size + its2.size ≤ sizeLine + 1) :
    Meets (Builtin.«list.extend» ⟨[.ref p, .ref b], []⟩) (fun _ R z => z.heap.get? p = some ⟨.type "list", none, .seq its n, #[]⟩ ∧ z.heap.get? b = some ⟨.type "list", none, .seq its2 n2, sl2⟩ ∧ R (.ok (.ret Value.none)) { z with heap := z.heap.update p (Obj.mapSeq fun x => x ++ its2), toks := z.toks }) :=
  .of_wp fun P w A R z h => by
    obtain ⟨h0, g, d, tk, os⟩ := z
    obtain ⟨h1, h3, h2⟩ := h
    have f1' := AutoSeq1.idx_int
    have f2' := AutoSeq1.sub_tuple_tuple
    have f3' := AutoSeq1.sub_list_list
    have f4' := AutoSeq1.sub_tuple_list
    have f5' := AutoSeq1.sub_list_tuple
    have fz : (its ++ its2).size ≤ sizeLine + 1 := by rw [Array.size_append]; exact f3
    wp_walk using (wpAny_updateSeq h1 rfl (hz := f2) (_hz' := fz)), AutoSeq1.wpAny_loadPart' h1, AutoSeq1.wpAny_loadPart' h3
    exact ⟨_, rfl, h2⟩
end
section
variable {K : PySem.W.Frag} {F H : Hp}
/-- a new list, a new tuple, frozen -/
theorem newLst {p : Addr} {xs : List V} {ts : List D} (sm : Same F H) (n : H p = none) (h : RpAll K F xs ts) : Grow F H (upd F p (.lst xs)) (upd H p (.lst xs)) ∧ Rp K (upd F p (.lst xs)) (.ref p) (.list ts) :=
  have g := Grow.laid (.lst xs) sm n
  ⟨g, .lst (.inl (.inl upd_same)) (h.mono g.ff)⟩
theorem newTup {p : Addr} {xs : List V} {ts : List D} (sm : Same F H) (n : H p = none) (h : RpAll K F xs ts) : Grow F H (upd F p (.tup xs)) (upd H p (.tup xs)) ∧ Rp K (upd F p (.tup xs)) (.ref p) (.tuple ts) :=
  have g := Grow.laid (.tup xs) sm n
  ⟨g, .tup (.inl (.inl upd_same)) (h.mono g.ff)⟩
end
def gd {α : Type} (c : Bool) (a : α) : Option α := match c with
  | true => some a
  | false => none
theorem gd_some {α : Type} {c : Bool} {a b : α} (h : gd c a = some b) : c = true ∧ a = b := by
  cases c with
  | true => exact ⟨rfl, Option.some.inj h⟩
  | false => cases h
def dAdd : D → D → Option D
  | .int i, .int j => some (.int (i + j))
  | .str x, .str y => gd (decide (x.length + y.length ≤ sizeLine)) (.str (x ++ y))
  | .list xs, .list ys => gd (decide (xs.length + ys.length ≤ sizeLine)) (.list (xs ++ ys))
  | .tuple xs, .tuple ys => gd (decide (xs.length + ys.length ≤ sizeLine)) (.tuple (xs ++ ys))
  | _, _ => none
def dSub : D → D → Option D
  | .int i, .int j => some (.int (i - j))
  | _, _ => none
/-- whether a product fits -/
def mulFits (i j : Int) : Bool := !(decide (Builtin.Int.intBits i > shortFactorBits) && decide (Builtin.Int.intBits j > shortFactorBits) && Builtin.Int.intTooBig (Builtin.Int.intBits i + Builtin.Int.intBits j))
def okCount (n : Int) : Bool := decide (-(2 ^ 63) ≤ n) && decide (n < 2 ^ 63)
def dMul : D → D → Option D
  | .int i, .int j => gd (mulFits i j) (.int (i * j))
  | .list xs, .int k => gd (okCount k && decide (xs.length * k.toNat ≤ sizeLine)) (.list (List.replicate k.toNat xs).flatten)
  | .str x, .int k => gd (okCount k && decide (x.length * k.toNat ≤ sizeLine)) (.str ⟨(List.replicate k.toNat x.cps.toList).flatten.toArray⟩)
  | _, _ => none
def dFdiv : D → D → Option D
  | .int i, .int j => gd (decide (0 < j) && decide (j.natAbs.log2 < 9000)) (.int (i / j))
  | _, _ => none
def dMod : D → D → Option D
  | .int i, .int j => gd (decide (0 < j)) (.int (i % j))
  | _, _ => none
def dPow : D → D → Option D
  | .int i, .int j => gd (decide (0 ≤ j) && decide ((Builtin.Int.intBits i : Int) * j ≤ 2 ^ 27)) (.int (i ^ j.toNat))
  | _, _ => none
section
variable {X : Cx}
theorem opD_of {f : Value → Value → Sem Value} {g : D → D → Option D}
    (h : ∀ (pins : List (Addr × Obj)) (s : Shared) (σ : L2.St) (H : Hp) (x y : V) (v u : Value) (Q : VK) (F : Hp) (tx ty t : D), Inv X pins σ H s → RelV x v → RelV y u → Same F H → Rp X.K F x tx → Rp X.K F y ty → g tx ty = some t →
      (∀ v F' H', Grow F H F' H' → Rp X.K F' v t → Q v H') → wpAny (model X.prog X.w) X.A (f v u) (EP X pins σ Q) X.xe s) : OpR X f (rD X.K g) := by
  intro pins s σ H x y v u Q I rx ry hh
  obtain ⟨F, tx, ty, t, sm, px, py, hg, k⟩ := hh
  exact h pins s σ H x y v u Q F tx ty t I rx ry sm px py hg k
theorem opD_add : OpR X (binaryOp .Add) (rD X.K dAdd) := by
  refine opD_of fun pins s σ H x y v u Q F tx ty t I rx ry sm px py hg k => ?_
  cases px with
  | int i =>
    cases py with
    | int j =>
      cases hg
      exact op_add pins s σ H _ _ v u Q I rx ry ⟨i, j, rfl, rfl, k _ F H (.refl sm) (.int _)⟩
    | _ => cases hg
  | str a =>
    cases py with
    | str b =>
      obtain ⟨hz, rfl⟩ := gd_some hg
      exact op_add_str pins s σ H _ _ v u Q I rx ry ⟨a, b, rfl, rfl, of_decide_eq_true hz, k _ F H (.refl sm) (.str _)⟩
    | _ => cases hg
  | @lst a0 _ _ h1 h2 =>
    cases py with
    | @lst b0 _ _ g1 g2 =>
      obtain ⟨hz, rfl⟩ := gd_some hg
      have hz := of_decide_eq_true hz
      cases rx
      cases ry
      obtain ⟨z, its, n, sl, r, hl, e⟩ := lstR I (same_sql sm h1)
      obtain ⟨z2, its2, n2, sl2, r2, hl2, e2⟩ := lstR I (same_sql sm g1)
      have l1 := h2.length
      have l2 := g2.length
      refine concat_meets ⟨_, e, rfl⟩ ⟨_, e2, rfl⟩ noFill_list_add seq_list_add PySem.F.slot_list_add PySem.F.entry_list_add (PySem.F.args_list_add_2 _ _) (list_addW a0 b0 its.toArray its2.toArray n n2 none none sl sl2 (by rw [List.size_toArray, List.size_toArray]; omega)) ⟨e, e2, ?_⟩
      have ea : its.toArray ++ its2.toArray = (its ++ its2).toArray := by simp
      rw [ea]
      obtain ⟨gr, rp⟩ := newLst sm I.fresh (h2.append g2)
      exact ⟨.ref _, _, I.lnew (t' := s.toks) (r.append r2) (by rw [List.length_append]; omega), rfl, k _ _ _ gr rp⟩
    | _ => cases hg
  | @tup a xs ds h1 h2 =>
    cases py with
    | @tup b ys es g1 g2 =>
      obtain ⟨hz, rfl⟩ := gd_some hg
      have hz := of_decide_eq_true hz
      have l1 := h2.length
      have l2 := g2.length
      refine op_catA pins s σ H _ _ v u Q I rx ry ⟨a, b, xs, ys, rfl, rfl, same_sqt sm h1, same_sqt sm g1, by omega, fun e => ?_, fun e e' => ?_, fun _ _ p np => ?_⟩
      · subst e
        cases h2
        exact k _ F H (.refl sm) (.tup g1 g2)
      · subst e'
        cases g2
        rw [List.append_nil] at k
        exact k _ F H (.refl sm) (.tup h1 h2)
      · obtain ⟨gr, rp⟩ := newTup sm np (h2.append g2)
        exact k _ _ _ gr rp
    | _ => cases hg
  | _ => cases hg
theorem opD_sub : OpR X (binaryOp .Sub) (rD X.K dSub) := by
  refine opD_of fun pins s σ H x y v u Q F tx ty t I rx ry sm px py hg k => ?_
  cases px with
  | int i =>
    cases py with
    | int j =>
      cases hg
      exact op_sub pins s σ H _ _ v u Q I rx ry ⟨i, j, rfl, rfl, k _ F H (.refl sm) (.int _)⟩
    | _ => cases hg
  | _ => cases hg
theorem rep_flat (z : Array Nat) : ∀ (m : Nat) (acc : Array Nat), List.foldl (fun x1 x2 => x1 ++ x2) acc (List.replicate m z) = acc ++ (List.replicate m z.toList).flatten.toArray
  | 0, acc => by simp
  | m + 1, acc => by
    rw [List.replicate_succ, List.foldl_cons, rep_flat z m, List.replicate_succ, List.flatten_cons, Array.append_assoc]
    congr 1
    apply Array.toList_inj.mp
    simp
theorem fitsB {k : Int} (h : okCount k = true) : -(2 ^ 63) ≤ k ∧ k < 2 ^ 63 := by
  unfold okCount at h
  simpa using h
theorem op_repR {pins : List (Addr × Obj)} {s : Shared} {σ : L2.St} {H : Hp} {l : Addr} {k : Int} {t : Tok} {xs : List V} {Q : VK} (I : Inv X pins σ H s) (hH : SqL X.K H l xs) (h1 : -(2 ^ 63) ≤ k) (h2 : k < 2 ^ 63) (hz : xs.length * k.toNat ≤ sizeLine)
    (q : ∀ p, H p = none → Q (.ref p) (upd H p (.lst (List.replicate k.toNat xs).flatten))) : wpAny (model X.prog X.w) X.A (binaryOp .Mult (.ref l) (.int k t)) (EP X pins σ Q) X.xe s := by
  obtain ⟨z, its, n, sl, r, hl, e⟩ := lstR I hH
  have hlen : its.toArray.size * k.toNat ≤ sizeLine := by rw [List.size_toArray, ← hl]; exact hz
  have hcap : ¬ its.toArray.size * k.toNat > (2 ^ 63 - 1) / 8 := by
    have : (sizeLine : Nat) ≤ (2 ^ 63 - 1) / 8 := by decide
    omega
  have hfit : ¬ (!Builtin.List.listFitsIndex k) = true := by
    rw [fitsIndex_both h1 h2]
    exact Bool.false_ne_true
  have hlong : ¬ Builtin.List.listTooLong (its.toArray.size * k.toNat) = true := by
    rw [notLongL hlen]
    exact Bool.false_ne_true
  have hnew : List.foldl (fun x1 x2 => x1 ++ x2) #[] (List.replicate (if its.toArray.isEmpty = true then 0 else k.toNat) its.toArray) = (List.replicate k.toNat its).flatten.toArray := by
    have f0 : ∀ m : Nat, List.foldl (fun x1 x2 => x1 ++ x2) #[] (List.replicate m its.toArray) = (List.replicate m its).flatten.toArray := fun m => by
      have := foldl_rep its m []
      rw [List.nil_append] at this
      exact this
    rw [f0]
    cases its with
    | nil => simp
    | cons a r' => rw [if_neg (by simp)]
  refine wpAny_binaryOp_repeat_ref (T := "list") (U := "int") (by decide) ⟨_, e, rfl⟩ (fun s' => typeIs_int s' k t) noFill_list_mul F.fills_int_mul F.slot_int_rmul repeat_list F.slot_int_index.lookup
    (call_meets F.slot_int_rmul (typeIs_int s k t) F.entry_int_rmul (F.args_int_rmul_2 _ _) (int_rmul_gen k t l its.toArray n sl)
      ⟨e, rfl, ⟨_, e, rfl⟩, call_meets F.slot_list_mul ⟨_, e, rfl⟩ F.entry_list_mul (F.args_list_mul_2 _ _) (list_mul_gen l its.toArray n k t sl hfit hcap hlong) ⟨e, ?_⟩⟩)
  rw [hnew]
  exact ⟨.ref _, _, I.lnew (t' := s.toks) (r.rep k.toNat) (by rw [PyProof.Rows.lm_len_rep_flat, Nat.mul_comm]; exact hz), rfl, q _ I.fresh⟩
theorem str_rep {prog : Program} {w : World} {A : Around} {E : Value → Shared → Prop} {s : Shared} {x : Str} {n : Int} {t u : Tok} {Q : Value → Shared → Prop} (h1 : -(2 ^ 63) ≤ n) (h2 : n < 2 ^ 63) (hz : x.length * n.toNat ≤ sizeLine)
    (q : ∀ t' tk, Q (.str ⟨(List.replicate n.toNat x.cps.toList).flatten.toArray⟩ t') { s with toks := tk }) : wpAny (model prog w) A (binaryOp .Mult (.str x t) (.int n u)) Q E s := by
  have ex : x = ⟨x.cps⟩ := rfl
  refine PySem.P.mul_str (by
    rw [decide_eq_false (show ¬ n < -(2 ^ 63 : Int) by omega), decide_eq_false (show ¬ n ≥ 2 ^ 63 by omega)]; rfl) (fun hn _ => ?_) (fun hn _ => ?_) ?_
  · intro hc
    have h3 : (x.length : Int) * n ≤ (sizeLine : Nat) := by
      have : ((x.length * n.toNat : Nat) : Int) ≤ (sizeLine : Nat) := by exact_mod_cast hz
      rw [Int.natCast_mul, Int.toNat_of_nonneg (by omega)] at this
      exact this
    have h4 : (2 ^ 63 - 1) / n < (x.length : Int) := hc
    have h5 : 2 ^ 63 - 1 < (x.length : Int) * n := (Int.ediv_lt_iff_lt_mul (by omega)).mp h4
    have h6 : ((sizeLine : Nat) : Int) = 16777216 := by rw [sizeLine_eq]; rfl
    omega
  · have hs := sizeLine_eq
    unfold Builtin.Str.tooLong
    exact decide_eq_false (by omega)
  · by_cases hn : n < 1
    · rw [if_pos hn]
      have e0 : n.toNat = 0 := by omega
      rw [e0] at q
      exact ⟨by decide, q _ _⟩
    · rw [if_neg hn]
      by_cases hb : (n == 1 || x.length == 0) = true
      · rw [if_pos hb]
        have e : (⟨(List.replicate n.toNat x.cps.toList).flatten.toArray⟩ : Str) = x := by
          rw [Bool.or_eq_true, beq_iff_eq, beq_iff_eq] at hb
          rcases hb with hb | hb
          · subst hb
            show (⟨(List.replicate 1 x.cps.toList).flatten.toArray⟩ : Str) = x
            simp [List.replicate_succ]
          · have : x.cps.toList = [] := by
              have h0 : x.cps.size = 0 := hb
              exact List.eq_nil_of_length_eq_zero (by simpa using h0)
            rw [ex, this]
            have e2 : (List.replicate n.toNat ([] : List Nat)).flatten = [] := by
              induction n.toNat with
              | zero => rfl
              | succ m ih => rw [List.replicate_succ, List.flatten_cons, ih]; rfl
            rw [e2]
            have e3 : x.cps = #[] := Array.toList_inj.mp (by rw [this])
            rw [e3]
        rw [e] at q
        exact q t s.toks
      · rw [if_neg hb]
        have e := rep_flat x.cps n.toNat #[]
        rw [e]
        have e4 : (#[] : Array Nat) ++ (List.replicate n.toNat x.cps.toList).flatten.toArray = (List.replicate n.toNat x.cps.toList).flatten.toArray := by simp
        rw [e4]
        refine ⟨?_, q _ _⟩
        have hl : ((List.replicate n.toNat x.cps.toList).flatten.toArray).size = x.length * n.toNat := by
          rw [List.size_toArray, PyProof.Rows.lm_len_rep_flat, Nat.mul_comm]
          simp [Str.length]
        show ((List.replicate n.toNat x.cps.toList).flatten.toArray).size ≤ sizeLine
        rw [hl]
        exact hz
theorem fits_and {a : Bool} {n m : Nat} (h : (a && decide (n ≤ m)) = true) : a = true ∧ n ≤ m := by
  rw [Bool.and_eq_true] at h
  exact ⟨h.1, of_decide_eq_true h.2⟩
theorem opD_mul : OpR X (binaryOp .Mult) (rD X.K dMul) := by
  refine opD_of fun pins s σ H x y v u Q F tx ty t I rx ry sm px py hg k => ?_
  cases px with
  | int i =>
    cases py with
    | int j =>
      obtain ⟨hz, rfl⟩ := gd_some hg
      obtain ⟨t1, rfl⟩ := rx
      obtain ⟨t2, rfl⟩ := ry
      refine mul_int ⟨.int _, H, I.tok _, ⟨_, rfl⟩, k _ F H (.refl sm) (.int _)⟩ ?_
      intro z
      unfold mulFits at hz
      rw [z] at hz
      cases hz
    | _ => cases hg
  | str a =>
    cases py with
    | int j =>
      obtain ⟨hz, rfl⟩ := gd_some hg
      obtain ⟨t1, rfl⟩ := rx
      obtain ⟨t2, rfl⟩ := ry
      obtain ⟨z1, z2⟩ := fits_and hz
      obtain ⟨f1, f2⟩ := fitsB z1
      exact str_rep f1 f2 z2 fun t' tk => ⟨.str _, H, I.tok _, ⟨_, rfl⟩, k _ F H (.refl sm) (.str _)⟩
    | _ => cases hg
  | lst h1 h2 =>
    cases py with
    | int j =>
      obtain ⟨hz, rfl⟩ := gd_some hg
      cases rx
      obtain ⟨t2, rfl⟩ := ry
      obtain ⟨z1, z2⟩ := fits_and hz
      obtain ⟨f1, f2⟩ := fitsB z1
      refine op_repR I (same_sql sm h1) f1 f2 (by rw [h2.length]; exact z2) fun p np => ?_
      obtain ⟨gr, rp⟩ := newLst sm np (h2.rep j.toNat)
      exact k _ _ _ gr rp
    | _ => cases hg
  | tup h1 h2 => cases py <;> cases hg
  | _ => cases hg
theorem opD_fdiv : OpR X (binaryOp .FloorDiv) (rD X.K dFdiv) := by
  refine opD_of fun pins s σ H x y v u Q F tx ty t I rx ry sm px py hg k => ?_
  cases px with
  | int i =>
    cases py with
    | int j =>
      obtain ⟨hz, rfl⟩ := gd_some hg
      rw [Bool.and_eq_true] at hz
      have h1 : 0 < j := of_decide_eq_true hz.1
      obtain ⟨t1, rfl⟩ := rx
      obtain ⟨t2, rfl⟩ := ry
      refine floordiv_int (by omega) ?_ (.inl (PyProof.noPylong_of_log2 (of_decide_eq_true hz.2)))
      rw [Int.fdiv_eq_ediv_of_nonneg i (by omega)]
      exact ⟨.int _, H, I.tok _, ⟨_, rfl⟩, k _ F H (.refl sm) (.int _)⟩
    | _ => cases hg
  | _ => cases hg
theorem opD_mod : OpR X (binaryOp .Mod) (rD X.K dMod) := by
  refine opD_of fun pins s σ H x y v u Q F tx ty t I rx ry sm px py hg k => ?_
  cases px with
  | int i =>
    cases py with
    | int j =>
      obtain ⟨hz, rfl⟩ := gd_some hg
      exact op_mod pins s σ H _ _ v u Q I rx ry ⟨i, j, rfl, rfl, of_decide_eq_true hz, k _ F H (.refl sm) (.int _)⟩
    | _ => cases hg
  | _ => cases hg
theorem opD_pow : OpR X (binaryOp .Pow) (rD X.K dPow) := by
  refine opD_of fun pins s σ H x y v u Q F tx ty t I rx ry sm px py hg k => ?_
  cases px with
  | int i =>
    cases py with
    | int j =>
      obtain ⟨hz, rfl⟩ := gd_some hg
      rw [Bool.and_eq_true] at hz
      obtain ⟨t1, rfl⟩ := rx
      obtain ⟨t2, rfl⟩ := ry
      exact pow_int (of_decide_eq_true hz.1) (of_decide_eq_true hz.2) ⟨.int _, H, I.tok _, ⟨_, rfl⟩, k _ F H (.refl sm) (.int _)⟩
    | _ => cases hg
  | _ => cases hg
end

/-! ### comparisons on data -/
/-- depth and signs such that == is told -/
def dEq : D → D → Option D := fun a b => gd (SeqAt.shaped a && SeqAt.shaped b) (.bool (PyData.eqv a b))
def dNe : D → D → Option D := fun a b => gd (SeqAt.shaped a && SeqAt.shaped b) (.bool (!PyData.eqv a b))
def dLt : D → D → Option D
  | .int i, .int j => some (.bool (decide (i < j)))
  | _, _ => none
def dLe : D → D → Option D
  | .int i, .int j => some (.bool (decide (i ≤ j)))
  | _, _ => none
def dGt : D → D → Option D
  | .int i, .int j => some (.bool (decide (j < i)))
  | _, _ => none
def dGe : D → D → Option D
  | .int i, .int j => some (.bool (decide (j ≤ i)))
  | _, _ => none
/-- x in y: an item of a list, a sign of a text -/
def dIn (neg : Bool) : D → D → Option D
  | d, .list ds => gd (SeqAt.shaped d && SeqAt.shaped (.list ds)) (.bool (xor neg (ds.any fun z => PyData.eqv z d)))
  | .str c, .str z => match c.cps.toList with
    | [k] => some (.bool (xor neg (decide (k ∈ z.cps.toList))))
    | _ => none
  | _, _ => none
section
variable {X : Cx}
theorem opD_eq (hu : X.A.units + 64 < cLine) : OpR X (compareOp .Eq) (rD X.K dEq) := by
  refine opD_of fun pins s σ H x y v u Q F tx ty t I rx ry sm px py hg k => ?_
  obtain ⟨hz, rfl⟩ := gd_some hg
  rw [Bool.and_eq_true] at hz
  exact op_eqD hu pins s σ H x y v u Q I rx ry ⟨tx, ty, (px.mono sm).dp, (py.mono sm).dp, hz.1, hz.2, k _ F H (.refl sm) (.bl _)⟩
theorem opD_ne (hu : X.A.units + 64 < cLine) : OpR X (compareOp .NotEq) (rD X.K dNe) := by
  refine opD_of fun pins s σ H x y v u Q F tx ty t I rx ry sm px py hg k => ?_
  obtain ⟨hz, rfl⟩ := gd_some hg
  rw [Bool.and_eq_true] at hz
  exact op_neD hu pins s σ H x y v u Q I rx ry ⟨tx, ty, (px.mono sm).dp, (py.mono sm).dp, hz.1, hz.2, k _ F H (.refl sm) (.bl _)⟩
theorem opD_lt : OpR X (compareOp .Lt) (rD X.K dLt) := by
  refine opD_of fun pins s σ H x y v u Q F tx ty t I rx ry sm px py hg k => ?_
  cases px with
  | int i =>
    cases py with
    | int j =>
      cases hg
      exact op_lt pins s σ H _ _ v u Q I rx ry ⟨i, j, rfl, rfl, k _ F H (.refl sm) (.bl _)⟩
    | _ => cases hg
  | _ => cases hg
theorem opD_le : OpR X (compareOp .LtE) (rD X.K dLe) := by
  refine opD_of fun pins s σ H x y v u Q F tx ty t I rx ry sm px py hg k => ?_
  cases px with
  | int i =>
    cases py with
    | int j =>
      cases hg
      exact op_le pins s σ H _ _ v u Q I rx ry ⟨i, j, rfl, rfl, k _ F H (.refl sm) (.bl _)⟩
    | _ => cases hg
  | _ => cases hg
theorem opD_gt : OpR X (compareOp .Gt) (rD X.K dGt) := by
  refine opD_of fun pins s σ H x y v u Q F tx ty t I rx ry sm px py hg k => ?_
  cases px with
  | int i =>
    cases py with
    | int j =>
      cases hg
      exact op_gt pins s σ H _ _ v u Q I rx ry ⟨i, j, rfl, rfl, k _ F H (.refl sm) (.bl _)⟩
    | _ => cases hg
  | _ => cases hg
theorem opD_ge : OpR X (compareOp .GtE) (rD X.K dGe) := by
  refine opD_of fun pins s σ H x y v u Q F tx ty t I rx ry sm px py hg k => ?_
  cases px with
  | int i =>
    cases py with
    | int j =>
      cases hg
      exact op_ge pins s σ H _ _ v u Q I rx ry ⟨i, j, rfl, rfl, k _ F H (.refl sm) (.bl _)⟩
    | _ => cases hg
  | _ => cases hg
theorem one_sign {c : Str} {k : Nat} (h : c.cps.toList = [k]) : c = ⟨#[k]⟩ := by
  have : c.cps = #[k] := Array.toList_inj.mp (by rw [h])
  cases c
  exact congrArg Str.mk this
theorem opD_in (hu : X.A.units + 65 < cLine) : OpR X (compareOp .In) (rD X.K (dIn false)) := by
  refine opD_of fun pins s σ H x y v u Q F tx ty t I rx ry sm px py hg k => ?_
  cases ty with
  | list ds =>
    have hg' : gd (SeqAt.shaped tx && SeqAt.shaped (.list ds)) (PyData.bool (xor false (ds.any fun z => PyData.eqv z tx))) = some t := by cases tx <;> exact hg
    obtain ⟨hz, rfl⟩ := gd_some hg'
    rw [Bool.and_eq_true] at hz
    rw [Bool.false_xor] at k
    exact op_inD hu pins s σ H x y v u Q I rx ry ⟨tx, ds, (px.mono sm).dp, (py.mono sm).dp, hz.1, hz.2, k _ F H (.refl sm) (.bl _)⟩
  | str z =>
    cases tx with
    | str c =>
      cases px
      cases py
      cases e : c.cps.toList with
      | nil => simp only [dIn, e] at hg; cases hg
      | cons a r =>
        cases r with
        | nil =>
          simp only [dIn, e, Bool.false_xor] at hg
          cases hg
          exact op_in_sign pins s σ H _ _ v u Q I rx ry ⟨a, z, by rw [← one_sign e], rfl, k _ F H (.refl sm) (.bl _)⟩
        | cons b r => simp only [dIn, e] at hg; cases hg
    | _ => cases hg
  | _ => cases tx <;> cases hg
theorem opD_notIn (hu : X.A.units + 65 < cLine) : OpR X (compareOp .NotIn) (rD X.K (dIn true)) := by
  refine opD_of fun pins s σ H x y v u Q F tx ty t I rx ry sm px py hg k => ?_
  cases ty with
  | list ds =>
    have hg' : gd (SeqAt.shaped tx && SeqAt.shaped (.list ds)) (PyData.bool (xor true (ds.any fun z => PyData.eqv z tx))) = some t := by cases tx <;> exact hg
    obtain ⟨hz, rfl⟩ := gd_some hg'
    rw [Bool.and_eq_true] at hz
    rw [Bool.true_xor] at k
    exact op_notInD hu pins s σ H x y v u Q I rx ry ⟨tx, ds, (px.mono sm).dp, (py.mono sm).dp, hz.1, hz.2, k _ F H (.refl sm) (.bl _)⟩
  | str z =>
    cases tx with
    | str c =>
      cases px
      cases py
      cases e : c.cps.toList with
      | nil => simp only [dIn, e] at hg; cases hg
      | cons a r =>
        cases r with
        | nil =>
          simp only [dIn, e, Bool.true_xor] at hg
          cases hg
          exact op_notIn_sign pins s σ H _ _ v u Q I rx ry ⟨a, z, by rw [← one_sign e], rfl, k _ F H (.refl sm) (.bl _)⟩
        | cons b r => simp only [dIn, e] at hg; cases hg
    | _ => cases hg
  | _ => cases tx <;> cases hg
end
end Tz
namespace Tz
open PySem PySem.Spec PyProof.Rows L2

/-! ### shallow expressions -/
def mVar (i : Nat) : M D := fun ls => match ls[i]? with
  | some (.fr t) => .ok t ls
  | _ => .bad
def mNil : M (List D) := ret []
def mCons (f : M D) (g : M (List D)) : M (List D) := bnd f fun x => bnd g fun xs => ret (x :: xs)
def asB (f : M D) : M Bool := bnd f fun d => match d with
  | .bool b => ret b
  | _ => bad
def ofB (f : M Bool) : M D := bnd f fun b => ret (.bool b)
def mNo : M (Option Int) := ret none
def mSome (f : M D) : M (Option Int) := bnd f fun d => match d with
  | .int i => ret (some i)
  | _ => bad
def mSl (g : D → Option Int → Option Int → Option D) (fe : M D) (fl fu : M (Option Int)) : M D := bnd fe fun x => bnd fl fun l => bnd fu fun u => optM (g x l u)
def mIf {α : Type} (c : M Bool) (a b : M α) : M α := bnd c fun k => match k with
  | true => a
  | false => b
def mAnd (a b : M Bool) : M Bool := mIf a b (ret false)
def mOr (a b : M Bool) : M Bool := mIf a (ret true) b
def mNot (a : M Bool) : M Bool := bnd a fun k => ret (!k)
def mChain (g g' : D → D → Option D) (fa fb fc : M D) : M D := bnd fa fun x => bnd fb fun y => bnd (asB (optM (g x y))) fun k => match k with
  | true => bnd fc fun z => optM (g' y z)
  | false => ret (.bool false)
def mTup (f : M (List D)) : M D := bnd f fun xs => optM (gd (decide (xs.length ≤ sizeLine)) (.tuple xs))
def mLst (f : M (List D)) : M SV := bnd f fun xs => optM (gd (decide (xs.length ≤ sizeLine)) (.ol xs))
/-- a new own list, frozen at once -/
def mFz (f : M SV) : M D := bnd f fun s => match s with
  | .ol ts => ret (.list ts)
  | _ => bad
/-- a call by values -/
def mCall (g : List D → Option D) (f : M (List D)) : M D := bnd f fun xs => optM (g xs)
def mMeth (g : D → List D → Option D) (fo : M D) (f : M (List D)) : M D := bnd fo fun x => bnd f fun xs => optM (g x xs)

/-! ### readings of argument lists, parts of slices -/
section
variable (K : PySem.W.Frag) (C : CC)
def tA (f : M (List D)) : TA := fun σ H Q => ∃ F ls, Rel K C F ls σ H ∧ post K C F σ (f ls) fun ts ls' => ∀ vs H' F', Same F F' → Rel K C F' ls' σ H' → RpAll K F' vs ts → Q vs H'
def tO (f : M (Option Int)) : TO := fun σ H Q => ∃ F ls, Rel K C F ls σ H ∧ post K C F σ (f ls) fun o ls' => ∀ H' F', Same F F' → Rel K C F' ls' σ H' → Q o H'
end
section
variable {K : PySem.W.Frag} {C : CC} {α : Type} {F : Hp} {σ : L2.St} {H : Hp} {ls : LS}
theorem thenA {f : M (List D)} {g : List D → M α} {P : α → LS → Prop} {Q : List V → Hp → Prop} (r : Rel K C F ls σ H) (h : post K C F σ (bnd f g ls) P)
    (k : ∀ ts ls' vs H' F', Same F F' → Rel K C F' ls' σ H' → RpAll K F' vs ts → post K C F' σ (g ts ls') P → Q vs H') : tA K C f σ H Q := by
  refine ⟨F, ls, r, post_imp (post_bnd.mp h) (Same.refl F) fun t ls' q v H' F' e r' p => k t ls' v H' F' e r' p ?_⟩
  exact post_imp q e fun _ _ z => z
theorem thenO {f : M (Option Int)} {g : Option Int → M α} {P : α → LS → Prop} {Q : Option Int → Hp → Prop} (r : Rel K C F ls σ H) (h : post K C F σ (bnd f g ls) P)
    (k : ∀ t ls' H' F', Same F F' → Rel K C F' ls' σ H' → post K C F' σ (g t ls') P → Q t H') : tO K C f σ H Q := by
  refine ⟨F, ls, r, post_imp (post_bnd.mp h) (Same.refl F) fun t ls' q H' F' e r' => k t ls' H' F' e r' ?_⟩
  exact post_imp q e fun _ _ z => z
/-- the end of a chain: a pure function's value -/
theorem endO {o : Option α} {P : α → LS → Prop} (h : post K C F σ (optM o ls) P) : ∃ t, o = some t ∧ P t ls := by
  cases o with
  | none => exact h.elim
  | some t => exact ⟨t, rfl, h⟩
theorem endR {a : α} {P : α → LS → Prop} (h : post K C F σ (ret a ls) P) : P a ls := h
end

/-! ### expressions -/
section
variable {X : Cx} {C : CC} {a b c e : Expr} {es : List Expr} {pos p : Pos} {fa fb fc : M D} {f : M (List D)} {x : Str}
theorem tl_var (i : Nat) (hN : X.N[i]? = some x := by rfl) (hv : Vis X.env.scope x := by first | exact Or.inl rfl | exact Or.inr (Or.inl rfl) | exact Or.inr (Or.inr rfl)) (hd : (x == ("__debug__" : Str)) = false := by decide)
    (hcd : (x == ("__classdict__" : Str)) = false := by decide) : PE X (.Name x pos) (tE X.K C (mVar i)) := by
  refine peI (pe_var hN hv hd hcd) fun σ H Q h => ?_
  obtain ⟨F, ls, r, h⟩ := h
  cases q : ls[i]? with
  | none => simp only [mVar, q] at h; exact h.elim
  | some s =>
    cases s with
    | fr t =>
      simp only [mVar, q] at h
      obtain ⟨v, h1, h2⟩ := r.fr i t q
      exact ⟨v, h1, h v H F (Same.refl F) r h2⟩
    | _ => simp only [mVar, q] at h; exact h.elim
theorem tl_int {i : Int} {j : Nat} : PE X (.Constant (.int i) j pos) (tE X.K C (ret (.int i))) := peI pe_int fun σ H Q ⟨F, ls, r, h⟩ => h _ H F (Same.refl F) r (.int i)
theorem tl_bl {i : Bool} {j : Nat} : PE X (.Constant (.bool i) j pos) (tE X.K C (ret (.bool i))) := peI pe_bl fun σ H Q ⟨F, ls, r, h⟩ => h _ H F (Same.refl F) r (.bl i)
theorem tl_non {j : Nat} : PE X (.Constant .none j pos) (tE X.K C (ret .none)) := peI pe_non fun σ H Q ⟨F, ls, r, h⟩ => h _ H F (Same.refl F) r .non
theorem tl_str {z : Str} {j : Nat} : PE X (.Constant (.str z) j pos) (tE X.K C (ret (.str z))) := peI pe_str fun σ H Q ⟨F, ls, r, h⟩ => h _ H F (Same.refl F) r (.str z)
/-- a module's whole number or text -/
theorem tl_gint {i : Int} {t : Tok} (hg : Gl X x) (hm : X.mg x = some (.int i t)) (hd : (x == ("__debug__" : Str)) = false := by decide) : PE X (.Name x pos) (tE X.K C (ret (.int i))) :=
  peI (pe_glob hg hm (v := .int i) ⟨t, rfl⟩ hd) fun σ H Q ⟨F, ls, r, h⟩ => h _ H F (Same.refl F) r (.int i)
theorem tl_gstr {i : Str} {t : Tok} (hg : Gl X x) (hm : X.mg x = some (.str i t)) (hd : (x == ("__debug__" : Str)) = false := by decide) : PE X (.Name x pos) (tE X.K C (ret (.str i))) :=
  peI (pe_glob hg hm (v := .str i) ⟨t, rfl⟩ hd) fun σ H Q ⟨F, ls, r, h⟩ => h _ H F (Same.refl F) r (.str i)

theorem binD {r : R2} {g : D → D → Option D} (hr : r = rD X.K g) {σ : L2.St} {H : Hp} {Q : VK} (h : tE X.K C (mBin g fa fb) σ H Q) : tOp r (tE X.K C fa) (tE X.K C fb) σ H Q := by
  subst hr
  obtain ⟨F, ls, r, h⟩ := h
  refine thenE r h fun tx l1 v1 H1 F1 e1 r1 p1 h1 => thenE r1 h1 fun ty l2 v2 H2 F2 e2 r2 p2 h2 => ?_
  obtain ⟨t, hg, k⟩ := endO h2
  exact ⟨F2, tx, ty, t, r2.fh, p1.mono e2, p2, hg, fun v F' H' gr rp => k v H' F' ((e1.trans e2).trans gr.ff) (r2.grow gr) rp⟩
theorem tl_op {op : Operator} {g : D → D → Option D} (ho : OpR X (binaryOp op) (rD X.K g)) (ha : PE X a (tE X.K C fa)) (hb : PE X b (tE X.K C fb)) : PE X (.BinOp a op b pos) (tE X.K C (mBin g fa fb)) :=
  peI (pe_op ho ha hb) fun σ H Q h => binD rfl h
theorem tl_cmp {op : CmpOp} {g : D → D → Option D} (ho : OpR X (compareOp op) (rD X.K g)) (ha : PE X a (tE X.K C fa)) (hb : PE X b (tE X.K C fb)) (hm : behindInMarks op b = false) : PE X (.Compare a [op] [b] pos) (tE X.K C (mBin g fa fb)) :=
  peI (pe_cmpR ho ha hb hm) fun σ H Q h => binD rfl h
theorem asB_end {F : Hp} {σ : L2.St} {ls : LS} {f : M D} {P : Bool → LS → Prop} (h : post X.K C F σ (asB f ls) P) : post X.K C F σ (f ls) fun d ls' => ∃ k, d = .bool k ∧ P k ls' := by
  refine post_imp (post_bnd.mp h) (Same.refl F) fun d ls' q => ?_
  cases d with
  | bool k => exact ⟨k, rfl, q⟩
  | _ => exact q.elim
/-- an expression's bool -/
theorem tP_of {σ : L2.St} {H : Hp} {Q : Bool → Hp → Prop} {f : M D} {R : VK} (h : tP X.K C (asB f) σ H Q) (k : ∀ b H', Q b H' → R (.bl b) H') : tE X.K C f σ H R := by
  obtain ⟨F, ls, r, h⟩ := h
  refine ⟨F, ls, r, post_imp (asB_end h) (Same.refl F) fun d ls' q v H' F' e r' p => ?_⟩
  obtain ⟨b, rfl, q⟩ := q
  cases p
  exact k b H' (q H' F' e r')
theorem tl_tcmp {op : CmpOp} {g : D → D → Option D} (ho : OpR X (compareOp op) (rD X.K g)) (ha : PE X a (tE X.K C fa)) (hb : PE X b (tE X.K C fb)) (hm : behindInMarks op b = false) : PT X (.Compare a [op] [b] pos) (tP X.K C (asB (mBin g fa fb))) :=
  ptI (pt_cmpR ho ha hb hm) fun σ H Q h => binD rfl (tP_of h fun b H' q => ⟨b, rfl, q⟩)
/-- a test whose value is a bool -/
theorem tl_test (ha : PE X a (tE X.K C fa)) (he : ∀ whole, isTrue a X.env whole = (do let v ← whole; standAt a.pos; holding [v] (truthy v)) := by intro _; rfl) : PT X a (tP X.K C (asB fa)) :=
  ptI (pt_val ha he) fun σ H Q h => tP_of h fun b H' q => ⟨b, rfl, q⟩
theorem chainD {g g' : D → D → Option D} {σ : L2.St} {H : Hp} {Q : VK} (h : tE X.K C (mChain g g' fa fb fc) σ H Q) : tChain (rD X.K g) (rD X.K g') (tE X.K C fa) (tE X.K C fb) (tE X.K C fc) σ H Q := by
  obtain ⟨F, ls, r, h⟩ := h
  refine thenE r h fun tx l1 v1 H1 F1 e1 r1 p1 h1 => thenE r1 h1 fun ty l2 v2 H2 F2 e2 r2 p2 h2 => ?_
  have h3 := asB_end (post_bnd.mp h2)
  obtain ⟨t, hg, kb, rfl, k⟩ := endO h3
  refine ⟨F2, tx, ty, _, r2.fh, p1.mono e2, p2, hg, fun v F' H' gr rp => ?_⟩
  cases rp
  refine ⟨kb, rfl, ?_⟩
  have r3 := r2.grow gr
  cases kb with
  | false => exact iteF (k _ H' F' ((e1.trans e2).trans gr.ff) r3 (.bl false))
  | true =>
    have k' := post_imp k gr.ff fun _ _ z => z
    refine iteT (thenE r3 k' fun tz l4 v4 H4 F4 e4 r4 p4 h4 => ?_)
    obtain ⟨t, hg, k⟩ := endO h4
    exact ⟨F4, ty, tz, t, r4.fh, p2.mono (gr.ff.trans e4), p4, hg, fun v F' H' gr' rp => k v H' F' ((((e1.trans e2).trans gr.ff).trans e4).trans gr'.ff) (r4.grow gr') rp⟩
theorem tl_chain {op op' : CmpOp} {g g' : D → D → Option D} (ho : OpR X (compareOp op) (rD X.K g)) (ho' : OpR X (compareOp op') (rD X.K g')) (ha : PE X a (tE X.K C fa)) (hb : PE X b (tE X.K C fb)) (hc : PE X c (tE X.K C fc))
    (hm : lastMarks [op, op'] [b, c] = false := by with_unfolding_all rfl) : PE X (.Compare a [op, op'] [b, c] pos) (tE X.K C (mChain g g' fa fb fc)) := peI (pe_chain ho ho' ha hb hc hm) fun σ H Q h => chainD h
theorem tl_tchain {op op' : CmpOp} {g g' : D → D → Option D} (ho : OpR X (compareOp op) (rD X.K g)) (ho' : OpR X (compareOp op') (rD X.K g')) (ha : PE X a (tE X.K C fa)) (hb : PE X b (tE X.K C fb)) (hc : PE X c (tE X.K C fc))
    (hm : lastMarks [op, op'] [b, c] = false := by with_unfolding_all rfl) : PT X (.Compare a [op, op'] [b, c] pos) (tP X.K C (asB (mChain g g' fa fb fc))) :=
  ptI (pt_chain ho ho' ha hb hc hm) fun σ H Q h => chainD (tP_of h fun b H' q => ⟨b, rfl, q⟩)
/-- x is None, x is not None -/
def dIsN (neg : Bool) : D → D
  | .none => .bool (!neg)
  | _ => .bool neg
def mNeg (fa : M D) : M D := bnd fa fun x => match x with
  | .int i => ret (.int (-i))
  | _ => bad
def mIsN (n : Bool) (fa : M D) : M D := bnd fa fun x => ret (dIsN n x)
def mMs (g : D → List D → Option D) (fa : M D) (f : M (List D)) : M D := bnd fa fun x => match x with
  | .str z => bnd f fun xs => optM (g (.str z) xs)
  | _ => bad
theorem tl_isN {j : Nat} {pos' : Pos} (ha : PE X a (tE X.K C fa)) : PE X (.Compare a [.Is] [.Constant .none j pos'] pos) (tE X.K C (mIsN false fa)) := by
  refine peI (pe_cmp (pc_isN ha) rfl) fun σ H Q ⟨F, ls, r, h⟩ => thenE r h fun tx l1 v1 H1 F1 e1 r1 p1 h1 => ?_
  have k := endR h1
  cases p1 <;> exact k _ H1 F1 e1 r1 (.bl _)
theorem tl_notN {j : Nat} {pos' : Pos} (ha : PE X a (tE X.K C fa)) : PE X (.Compare a [.IsNot] [.Constant .none j pos'] pos) (tE X.K C (mIsN true fa)) := by
  refine peI (pe_cmp (pc_notN ha) rfl) fun σ H Q ⟨F, ls, r, h⟩ => thenE r h fun tx l1 v1 H1 F1 e1 r1 p1 h1 => ?_
  have k := endR h1
  cases p1 <;> exact k _ H1 F1 e1 r1 (.bl _)
theorem tl_tisN {j : Nat} {pos' : Pos} (ha : PE X a (tE X.K C fa)) : PT X (.Compare a [.Is] [.Constant .none j pos'] pos) (tP X.K C (asB (mIsN false fa))) := by
  refine ptI (pt_cmp (pc_isN ha) rfl) fun σ H Q h => ?_
  have h := tP_of (R := fun x H1 => ∃ c, x = .bl c ∧ Q c H1) h fun b H' q => ⟨b, rfl, q⟩
  obtain ⟨F, ls, r, h⟩ := h
  refine thenE r h fun tx l1 v1 H1 F1 e1 r1 p1 h1 => ?_
  have k := endR h1
  cases p1 <;> exact k _ H1 F1 e1 r1 (.bl _)
theorem tl_tnotN {j : Nat} {pos' : Pos} (ha : PE X a (tE X.K C fa)) : PT X (.Compare a [.IsNot] [.Constant .none j pos'] pos) (tP X.K C (asB (mIsN true fa))) := by
  refine ptI (pt_cmp (pc_notN ha) rfl) fun σ H Q h => ?_
  have h := tP_of (R := fun x H1 => ∃ c, x = .bl c ∧ Q c H1) h fun b H' q => ⟨b, rfl, q⟩
  obtain ⟨F, ls, r, h⟩ := h
  refine thenE r h fun tx l1 v1 H1 F1 e1 r1 p1 h1 => ?_
  have k := endR h1
  cases p1 <;> exact k _ H1 F1 e1 r1 (.bl _)
theorem tl_neg (ha : PE X a (tE X.K C fa)) : PE X (.UnaryOp .USub a pos) (tE X.K C (mNeg fa)) := by
  refine peI (pe_un un_neg ha) fun σ H Q ⟨F, ls, r, h⟩ => thenE r h fun tx l1 v1 H1 F1 e1 r1 p1 h1 => ?_
  cases p1 with
  | int i => exact ⟨i, rfl, (endR h1) _ H1 F1 e1 r1 (.int _)⟩
  | _ => exact h1.elim

/-! ### and, or, not, if -/
variable {tb : M Bool} {ta : M Bool} {rest : List Expr}
theorem tl_not (ha : PT X a (tP X.K C ta)) : PT X (.UnaryOp .Not a pos) (tP X.K C (mNot ta)) :=
  ptI (pt_not ha) fun σ H Q ⟨F, ls, r, h⟩ => thenP r h fun k l1 H1 F1 e1 r1 h1 => (endR h1) H1 F1 e1 r1
theorem tl_and1 (ha : PT X a (tP X.K C ta)) : PW X (.BoolOp .And [a] pos) (tP X.K C ta) := pw_and1 ha
theorem tl_or1 (ha : PT X a (tP X.K C ta)) : PW X (.BoolOp .Or [a] pos) (tP X.K C ta) := pw_or1 ha
theorem tl_and (ha : PT X a (tP X.K C ta)) (hb : PW X (.BoolOp .And (b :: rest) pos) (tP X.K C tb)) : PW X (.BoolOp .And (a :: b :: rest) pos) (tP X.K C (mAnd ta tb)) := by
  refine pwI (pw_and ha hb) fun σ H Q ⟨F, ls, r, h⟩ => thenP r h fun k l1 H1 F1 e1 r1 h1 => ?_
  cases k with
  | true => exact iteT ⟨F1, l1, r1, post_imp h1 (Same.refl _) fun b ls' q H' F' e r' => q H' F' (e1.trans e) r'⟩
  | false => exact iteF ((endR h1) H1 F1 e1 r1)
theorem tl_or (ha : PT X a (tP X.K C ta)) (hb : PW X (.BoolOp .Or (b :: rest) pos) (tP X.K C tb)) : PW X (.BoolOp .Or (a :: b :: rest) pos) (tP X.K C (mOr ta tb)) := by
  refine pwI (pw_or ha hb) fun σ H Q ⟨F, ls, r, h⟩ => thenP r h fun k l1 H1 F1 e1 r1 h1 => ?_
  cases k with
  | true => exact iteT ((endR h1) H1 F1 e1 r1)
  | false => exact iteF ⟨F1, l1, r1, post_imp h1 (Same.refl _) fun b ls' q H' F' e r' => q H' F' (e1.trans e) r'⟩
/-- as values (bools) -/
def mAndV (a b : M D) : M D := mIf (asB a) b (ret (.bool false))
def mOrV (a b : M D) : M D := mIf (asB a) (ret (.bool true)) b
theorem tl_andV (ha : PE X a (tE X.K C fa)) (hb : PE X (.BoolOp .And (b :: rest) pos) (tE X.K C fb)) : PE X (.BoolOp .And (a :: b :: rest) pos) (tE X.K C (mAndV fa fb)) := by
  refine peI (pe_and ha hb) fun σ H Q ⟨F, ls, r, h⟩ => ?_
  refine ⟨F, ls, r, post_imp (asB_end (post_bnd.mp h)) (Same.refl F) fun d ls' q v H' F' e r' p => ?_⟩
  obtain ⟨k, rfl, q⟩ := q
  cases p
  refine ⟨k, rfl, ?_⟩
  cases k with
  | true => exact iteT ⟨F', ls', r', post_imp q e fun t l2 z v' H2 F2 e2 => z v' H2 F2 (e.trans e2)⟩
  | false => exact iteF (q _ H' F' e r' (.bl false))
theorem tl_orV (ha : PE X a (tE X.K C fa)) (hb : PE X (.BoolOp .Or (b :: rest) pos) (tE X.K C fb)) : PE X (.BoolOp .Or (a :: b :: rest) pos) (tE X.K C (mOrV fa fb)) := by
  refine peI (pe_or ha hb) fun σ H Q ⟨F, ls, r, h⟩ => ?_
  refine ⟨F, ls, r, post_imp (asB_end (post_bnd.mp h)) (Same.refl F) fun d ls' q v H' F' e r' p => ?_⟩
  obtain ⟨k, rfl, q⟩ := q
  cases p
  refine ⟨k, rfl, ?_⟩
  cases k with
  | true => exact iteT (q _ H' F' e r' (.bl true))
  | false => exact iteF ⟨F', ls', r', post_imp q e fun t l2 z v' H2 F2 e2 => z v' H2 F2 (e.trans e2)⟩
theorem tl_oneV {op : BoolOp} (ha : PE X a (tE X.K C fa)) : PE X (.BoolOp op [a] pos) (tE X.K C fa) := pe_one ha
/-- not x as a value -/
theorem tl_notV (ha : PE X a (tE X.K C fa)) : PE X (.UnaryOp .Not a pos) (tE X.K C (ofB (mNot (asB fa)))) := by
  refine peI (pe_not ha) fun σ H Q ⟨F, ls, r, h⟩ => ?_
  refine ⟨F, ls, r, post_imp (asB_end (post_bnd.mp (post_bnd.mp h))) (Same.refl F) fun d ls' q v H' F' e r' p => ?_⟩
  obtain ⟨k, rfl, q⟩ := q
  cases p
  exact ⟨k, rfl, q _ H' F' e r' (.bl _)⟩
theorem tl_ifE (hc : PT X c (tP X.K C ta)) (ha : PE X a (tE X.K C fa)) (hb : PE X b (tE X.K C fb)) : PE X (.IfExp c a b pos) (tE X.K C (mIf ta fa fb)) := by
  refine peI (pe_ifExp hc ha hb) fun σ H Q ⟨F, ls, r, h⟩ => thenP r h fun k l1 H1 F1 e1 r1 h1 => ?_
  cases k with
  | true => exact iteT ⟨F1, l1, r1, post_imp h1 (Same.refl _) fun t l2 z v' H2 F2 e2 => z v' H2 F2 (e1.trans e2)⟩
  | false => exact iteF ⟨F1, l1, r1, post_imp h1 (Same.refl _) fun t l2 z v' H2 F2 e2 => z v' H2 F2 (e1.trans e2)⟩

/-! ### argument lists, displays -/
theorem tl_nil : PA X [] (tA X.K C mNil) := paI pa_nil fun σ H Q ⟨F, ls, r, h⟩ => h [] H F (Same.refl F) r .nil
theorem tl_cons (ha : PE X e (tE X.K C fa)) (hr : PA X es (tA X.K C f)) (hs : starEach (e :: es) X.env = (false, eval e X.env) :: starEach es X.env := by rfl) : PA X (e :: es) (tA X.K C (mCons fa f)) := by
  refine paI (pa_cons ha hr hs) fun σ H Q ⟨F, ls, r, h⟩ => thenE r h fun t l1 v1 H1 F1 e1 r1 p1 h1 => thenA r1 h1 fun ts l2 vs H2 F2 e2 r2 p2 h2 => ?_
  exact (endR h2) _ H2 F2 (e1.trans e2) r2 (.cons (p1.mono e2) p2)
theorem tl_tup {k : Nat} (h : PA X es (tA X.K C f)) : PE X (.Tuple es k pos) (tE X.K C (mTup f)) := by
  refine peI (pe_tup h) fun σ H Q ⟨F, ls, r, h⟩ => thenA r h fun ts l1 vs H1 F1 e1 r1 p1 h1 => ?_
  obtain ⟨t, hg, q⟩ := endO h1
  obtain ⟨hz, rfl⟩ := gd_some hg
  refine ⟨by rw [p1.length]; exact of_decide_eq_true hz, fun p np => ?_⟩
  obtain ⟨gr, rp⟩ := newTup r1.fh np p1
  exact q _ _ _ (e1.trans gr.ff) (r1.grow gr) rp
/-- a list as an own one -/
theorem tl_lstN (h : PA X es (tA X.K C f)) : PE X (.List es pos) (tN X.K C (mLst f)) := by
  refine peI (pe_lst h) fun σ H Q ⟨F, ls, r, h⟩ => thenA r h fun ts l1 vs H1 F1 e1 r1 p1 h1 => ?_
  obtain ⟨t, hg, q⟩ := endO h1
  obtain ⟨hz, rfl⟩ := gd_some hg
  refine ⟨by rw [p1.length]; exact of_decide_eq_true hz, fun p np => ?_⟩
  obtain ⟨r2, fr⟩ := r1.newOwn np p1
  exact q p _ F1 e1 r2 fr
/-- an own list frozen at once -/
theorem fz_read {K : PySem.W.Frag} {C : CC} {fn : M SV} {σ : L2.St} {H : Hp} {Q : VK} (h : tE K C (mFz fn) σ H Q) : tN K C fn σ H Q := by
  obtain ⟨F, ls, r, h⟩ := h
  refine thenN r h fun s l1 p1 H1 F1 e1 r1 f1 h1 => ?_
  cases s with
  | ol ts =>
    obtain ⟨xs, g1, g2, g3, g4⟩ := r1.freezeNew f1
    exact (endR h1) _ H1 _ (e1.trans g2) g3 g4
  | _ => exact h1.elim
theorem tl_fz {fn : M SV} (h : PE X e (tN X.K C fn)) : PE X e (tE X.K C (mFz fn)) := peI h fun σ H Q h => fz_read h
theorem tl_lst (h : PA X es (tA X.K C f)) : PE X (.List es pos) (tE X.K C (mFz (mLst f))) := tl_fz (tl_lstN h)

/-! ### calls of builtins, methods -/
def rC (K : PySem.W.Frag) (g : List D → Option D) : List V → Hp → VK → Prop := fun vs H Q => ∃ F ts t, Same F H ∧ RpAll K F vs ts ∧ g ts = some t ∧ ∀ v F' H', Grow F H F' H' → Rp K F' v t → Q v H'
def rM (K : PySem.W.Frag) (g : D → List D → Option D) : V → List V → Hp → VK → Prop := fun x vs H Q => ∃ F tx ts t, Same F H ∧ Rp K F x tx ∧ RpAll K F vs ts ∧ g tx ts = some t ∧ ∀ v F' H', Grow F H F' H' → Rp K F' v t → Q v H'
theorem callD {g : List D → Option D} {σ : L2.St} {H : Hp} {Q : VK} (h : tE X.K C (mCall g f) σ H Q) : tCB (rC X.K g) (tA X.K C f) σ H Q := by
  obtain ⟨F, ls, r, h⟩ := h
  refine thenA r h fun ts l1 vs H1 F1 e1 r1 p1 h1 => ?_
  obtain ⟨t, hg, q⟩ := endO h1
  exact ⟨F1, ts, t, r1.fh, p1, hg, fun v F' H' gr rp => q v H' F' (e1.trans gr.ff) (r1.grow gr) rp⟩
theorem tl_callB {id : String} {g : List D → Option D} (hc : CallR X (.builtin id) (rC X.K g)) (hg : Gl X x) (hm : X.mg x = none) (hv : bootBuiltins x = some (.builtin id)) (ha : PA X (e :: es) (tA X.K C f)) (hn : x ≠ "__name__" := by decide) (hdb : (x == ("__debug__" : Str)) = false := by decide)
    (he : starEach (e :: es) X.env = (false, eval e X.env) :: starEach es X.env := by rfl) (hpl : (backTo pos (starEach es X.env)).any (·.1) = false := by rfl) : PE X (.Call (.Name x p) (e :: es) [] pos) (tE X.K C (mCall g f)) :=
  peI (pe_callB hc hg hm hv ha hn hdb he hpl) fun σ H Q h => callD h
theorem tl_callT {T : String} {g : List D → Option D} (hc : CallR X (.type T) (rC X.K g)) (hg : Gl X x) (hm : X.mg x = none) (hv : bootBuiltins x = some (.type T)) (ha : PA X (e :: es) (tA X.K C f)) (hn : x ≠ "__name__" := by decide) (hdb : (x == ("__debug__" : Str)) = false := by decide)
    (he : starEach (e :: es) X.env = (false, eval e X.env) :: starEach es X.env := by rfl) (hpl : (backTo pos (starEach es X.env)).any (·.1) = false := by rfl) : PE X (.Call (.Name x p) (e :: es) [] pos) (tE X.K C (mCall g f)) :=
  peI (pe_callTy hc hg hm hv ha hn hdb he hpl) fun σ H Q h => callD h
/-- a method of a text -/
theorem tl_ms {id : String} {name : Str} {apos : Pos} {g : D → List D → Option D} (slot : Slot "str" name id) (ty : typeOf (.builtin id) = pure (.type "method_descriptor")) (hm : MtR X id (rM X.K g))
    (ho : PE X a (tE X.K C fa)) (ha : PA X (e :: es) (tA X.K C f))
    (hbase : attributeBase a name X.env (eval a X.env) = eval a X.env := by rfl)
    (hfew : ((backTo pos (starEach (e :: es) X.env)).all (fun x => !x.1) && (backToKw pos (keywordEach [] X.env)).all (fun x => x.1.isSome)
      && decide ((e :: es).length + ([] : List Keyword).length + (if ([] : List Keyword).isEmpty then 0 else 1) < 30)) = true := by rfl)
    (hline : (apos.endLine == pos.line) = true := by rfl) (hs : starEach (e :: es) X.env = (false, eval e X.env) :: starEach es X.env := by rfl) (hplain : (backTo pos (starEach es X.env)).any (·.1) = false := by rfl) :
    PE X (.Call (.Attribute a name apos) (e :: es) [] pos) (tE X.K C (mMs g fa f)) := by
  refine peI (pe_bm PySem.F.plainAttrs_str slot ty hm ho ha hbase hfew hline hs hplain) fun σ H Q ⟨F, ls, r, h⟩ => thenE r h fun tx l1 v1 H1 F1 e1 r1 p1 h1 => ?_
  cases p1 with
  | str z =>
    refine ⟨rfl, thenA r1 h1 fun ts l2 vs H2 F2 e2 r2 p2 h2 => ?_⟩
    obtain ⟨t, hg, q⟩ := endO h2
    exact ⟨F2, _, ts, t, r2.fh, .str z, p2, hg, fun v F' H' gr rp => q v H' F' ((e1.trans e2).trans gr.ff) (r2.grow gr) rp⟩
  | _ => exact h1.elim

/-! ### subscripts -/
def dIx : D → D → Option D
  | .list ds, .int i => atI ds i
  | .tuple ds, .int i => atI ds i
  | .str z, .int i => match atI z.cps.toList i with
    | some c => gd (decide (z.length ≤ sizeLine)) (.str ⟨#[c]⟩)
    | none => none
  | _, _ => none
theorem ix_mem {xs : List V} {ds : List D} {K : PySem.W.Frag} {F : Hp} {i : Int} {t : D} (p : RpAll K F xs ds) (h : atI ds i = some t) : ∃ v, atI xs i = some v ∧ Rp K F v t := by
  unfold atI at h ⊢
  rw [p.length]
  cases e : ixN ds.length i with
  | none => rw [e] at h; cases h
  | some j =>
    rw [e] at h
    exact p.get h
theorem ixD : IxR X (rD X.K dIx) := by
  intro value slice pins s σ H x y v u Q I rx ry h hs
  obtain ⟨F, tx, ty, t, sm, px, py, hg, k⟩ := h
  cases px with
  | @lst a xs ds h1 h2 =>
    cases py with
    | int i =>
      obtain ⟨w, e1, e2⟩ := ix_mem h2 (show atI ds i = some t from hg)
      exact ix_list value slice pins s σ H _ _ v u Q I rx ry ⟨a, xs, i, w, rfl, rfl, same_sql sm h1, e1, k w F H (.refl sm) e2⟩ hs
    | _ => cases hg
  | @tup a xs ds h1 h2 =>
    cases py with
    | int i =>
      obtain ⟨w, e1, e2⟩ := ix_mem h2 (show atI ds i = some t from hg)
      exact ix_tup value slice pins s σ H _ _ v u Q I rx ry ⟨a, xs, i, w, rfl, rfl, same_sqt sm h1, e1, k w F H (.refl sm) e2⟩ hs
    | _ => cases hg
  | str z =>
    cases py with
    | int i =>
      cases e : atI z.cps.toList i with
      | none => simp only [dIx, e] at hg; cases hg
      | some c =>
        simp only [dIx, e] at hg
        obtain ⟨hz, rfl⟩ := gd_some hg
        exact ix_str value slice pins s σ H _ _ v u Q I rx ry ⟨z, i, c, rfl, rfl, of_decide_eq_true hz, e, k _ F H (.refl sm) (.str _)⟩ hs
    | _ => cases hg
  | _ => cases hg
theorem tl_ix (ha : PE X a (tE X.K C fa)) (hb : PE X b (tE X.K C fb)) (hs : PlainIx b := by exact fun _ _ => rfl) : PE X (.Subscript a b pos) (tE X.K C (mBin dIx fa fb)) :=
  peI (pe_ix ixD ha hb hs) fun σ H Q h => binD rfl h
def cutD {α : Type} (xs : List α) (lo hi : Option Int) : List α := (xs.drop (HT.sIx xs.length 0 lo)).take (HT.sIx xs.length xs.length hi - HT.sIx xs.length 0 lo)
theorem cut_all {K : PySem.W.Frag} {F : Hp} {xs : List V} {ds : List D} (p : RpAll K F xs ds) (lo hi : Option Int) : RpAll K F (cutV xs lo hi) (cutD ds lo hi) := by
  unfold cutV cutD
  rw [p.length]
  exact (p.drop _).take _
def dSl : D → Option Int → Option Int → Option D
  | .list ds, l, u => some (.list (cutD ds l u))
  | .tuple ds, l, u => some (.tuple (cutD ds l u))
  | .str z, l, u => gd (decide (z.length ≤ sizeLine)) (.str (cutS z l u))
  | _, _, _ => none
def rSl (K : PySem.W.Frag) (g : D → Option Int → Option Int → Option D) : V → Option Int → Option Int → Hp → VK → Prop := fun x l u H Q => ∃ F tx t, Same F H ∧ Rp K F x tx ∧ g tx l u = some t ∧ ∀ v F' H', Grow F H F' H' → Rp K F' v t → Q v H'
theorem slD : SlR X (rSl X.K dSl) := by
  intro pins s σ H x v vl vu lo hi sl Q I rx hs pl pu h
  obtain ⟨F, tx, t, sm, px, hg, k⟩ := h
  cases px with
  | @lst a xs ds h1 h2 =>
    cases hg
    refine sl_list pins s σ H _ v vl vu lo hi sl Q I rx hs pl pu ⟨a, xs, rfl, same_sql sm h1, fun p np => ?_⟩
    obtain ⟨gr, rp⟩ := newLst sm np (cut_all h2 lo hi)
    exact k _ _ _ gr rp
  | @tup a xs ds h1 h2 =>
    cases hg
    refine sl_tupA pins s σ H _ v vl vu lo hi sl Q I rx hs pl pu ⟨a, xs, rfl, same_sqt sm h1, fun w => ?_, fun _ p np => ?_⟩
    · have e : cutD ds lo hi = ds := by
        unfold cutD
        rw [← h2.length, w.1, w.2, List.drop_zero, Nat.sub_zero, h2.length, List.take_length]
      rw [e] at k
      exact k _ F H (.refl sm) (.tup h1 h2)
    · obtain ⟨gr, rp⟩ := newTup sm np (cut_all h2 lo hi)
      exact k _ _ _ gr rp
  | str z =>
    obtain ⟨hz, rfl⟩ := gd_some hg
    exact sl_str pins s σ H _ v vl vu lo hi sl Q I rx hs pl pu ⟨z, rfl, of_decide_eq_true hz, k _ F H (.refl sm) (.str _)⟩
  | _ => cases hg
theorem tl_no : PO X none (tO X.K C mNo) := ⟨fun pins s σ H Q I ⟨F, ls, r, h⟩ => po_none.run pins s σ H Q I (h H F (Same.refl F) r)⟩
theorem tl_some (ha : PE X a (tE X.K C fa)) : PO X (some a) (tO X.K C (mSome fa)) := ⟨fun pins s σ H Q I ⟨F, ls, r, h⟩ => (po_some ha).run pins s σ H Q I (by
  refine thenE r h fun t l1 v1 H1 F1 e1 r1 p1 h1 => ?_
  cases p1 with
  | int i => exact ⟨i, rfl, (endR h1) H1 F1 e1 r1⟩
  | _ => exact h1.elim)⟩
theorem tl_slice {lo hi : Option Expr} {p2 : Pos} {fl fu : M (Option Int)} (ha : PE X a (tE X.K C fa)) (hl : PO X lo (tO X.K C fl)) (hu : PO X hi (tO X.K C fu)) : PE X (.Subscript a (.Slice lo hi none p2) pos) (tE X.K C (mSl dSl fa fl fu)) := by
  refine peI (pe_slice slD ha hl hu) fun σ H Q ⟨F, ls, r, h⟩ => thenE r h fun tx l1 v1 H1 F1 e1 r1 p1 h1 => thenO r1 h1 fun l l2 H2 F2 e2 r2 h2 => thenO r2 h2 fun u l3 H3 F3 e3 r3 h3 => ?_
  obtain ⟨t, hg, k⟩ := endO h3
  exact ⟨F3, tx, t, r3.fh, p1.mono (e2.trans e3), hg, fun v F' H' gr rp => k v H' F' (((e1.trans e2).trans e3).trans gr.ff) (r3.grow gr) rp⟩
end
end Tz
namespace Tz
open PySem PySem.Spec PyProof.Rows L2

/-! ### shallow statements -/
def mSeq (g1 g2 : M Fl) : M Fl := bnd g1 fun fl => match fl with
  | .nx => g2
  | f => ret f
def mDo (f : M D) : M Fl := bnd f fun _ => ret .nx
def mRet (f : M D) : M Fl := bnd f fun t => ret (.rt t)
def mRetN (f : M SV) : M Fl := bnd f fun s => ret (.ro s)
def mSet (i : Nat) (f : M D) : M Fl := bnd f fun t => fun ls => .ok .nx (ls.set i (.fr t))
def mOwn (i : Nat) (f : M SV) : M Fl := bnd f fun s => fun ls => .ok .nx (ls.set i s)
def mKill (ks : List Nat) : M Fl := fun ls => .ok .nx (killS ks ls)
def mAug (i : Nat) (g : D → D → Option D) (f : M D) : M Fl := bnd (mVar i) fun x => bnd f fun y => bnd (optM (g x y)) fun t => fun ls => .ok .nx (ls.set i (.fr t))
/-- targets -/
def gT (i : Nat) (t : D) : M Unit := fun ls => .ok () (ls.set i (.fr t))
def gTs : List (D → M Unit) → List D → M Unit
  | [], [] => ret ()
  | g :: gs, t :: ts => bnd (g t) fun _ => gTs gs ts
  | _, _ => bad
def gTup (gs : List (D → M Unit)) (t : D) : M Unit := match t with
  | .tuple ts => match decide (ts.length = gs.length) with
    | true => gTs gs ts
    | false => bad
  | _ => bad
def mAsg (g : D → M Unit) (f : M D) : M Fl := bnd f fun t => bnd (g t) fun _ => ret .nx
/-- an own list's append, extend -/
def isOl (i : Nat) : M Unit := fun ls => match ls[i]? with
  | some (.ol _) => .ok () ls
  | _ => .bad
def appT (i : Nat) (t : D) : M Unit := fun ls => match ls[i]? with
  | some (.ol ts) => match decide (ts.length < sizeLine) with
    | true => .ok () (ls.set i (.ol (ts ++ [t])))
    | false => .bad
  | _ => .bad
def extT (i : Nat) (t : D) : M Unit := fun ls => match ls[i]?, t with
  | some (.ol ts), .list us => match decide (ts.length + us.length ≤ sizeLine) with
    | true => .ok () (ls.set i (.ol (ts ++ us)))
    | false => .bad
  | _, _ => .bad
def mOwnM (g : Nat → D → M Unit) (i : Nat) (f : M D) : M Fl := bnd (isOl i) fun _ => bnd f fun t => bnd (g i t) fun _ => ret .nx
def mApp (i : Nat) (f : M D) : M Fl := mOwnM appT i f
def mExt (i : Nat) (f : M D) : M Fl := mOwnM extT i f
/-- loops: at each turn's start the slots ks are forgotten -/
def forL (ks : List Nat) (b : D → M Fl) : List D → M Fl
  | [] => fun ls => .ok .nx (killS ks ls)
  | t :: ts => fun ls => match b t (killS ks ls) with
    | .ok .nx ls' => forL ks b ts ls'
    | .ok .ct ls' => forL ks b ts ls'
    | .ok .bk ls' => .ok .nx (killS ks ls')
    | r => r
def mFor (ks : List Nat) (f : M (List D)) (tgt : D → M Unit) (body : M Fl) : M Fl := bnd f fun ts => forL ks (fun t => bnd (tgt t) fun _ => body) ts
def whileL (ks : List Nat) (c : M Bool) (b : M Fl) : Nat → M Fl
  | 0 => bad
  | n + 1 => bnd (mKill ks) fun _ => bnd c fun k => match k with
    | false => ret .nx
    | true => fun ls => match b ls with
      | .ok .nx ls' => whileL ks c b n ls'
      | .ok .ct ls' => whileL ks c b n ls'
      | .ok .bk ls' => .ok .nx ls'
      | r => r

theorem nJ {l : List Nat} {i : Nat} (h : l.contains i = false) : i ∉ l := fun q => by
  rw [List.contains_iff_mem.mpr q] at h
  cases h
/-- slots changed only at vs -/
def Off (vs : List Nat) (σ σ' : L2.St) : Prop := σ'.length = σ.length ∧ ∀ j, j ∉ vs → σ'[j]? = σ[j]?
theorem Off.refl {vs : List Nat} {σ : L2.St} : Off vs σ σ := ⟨rfl, fun _ _ => rfl⟩
theorem Off.trans {vs : List Nat} {σ σ1 σ2 : L2.St} (a : Off vs σ σ1) (b : Off vs σ1 σ2) : Off vs σ σ2 := ⟨b.1.trans a.1, fun j h => (b.2 j h).trans (a.2 j h)⟩
theorem Off.set {vs : List Nat} {σ : L2.St} {i : Nat} {v : Option V} (h : vs.contains i = true) : Off vs σ (σ.set i v) := ⟨List.length_set, fun j hj => List.getElem?_set_ne (show i ≠ j from fun e => hj (by rw [← e]; exact List.contains_iff_mem.mp h))⟩
section
variable {X : Cx} {C : CC} {st : Stmt} {rest : List Stmt} {g1 g2 : M Fl} {e : Expr} {fe : M D} {pos : Pos} {x : Str}
theorem pS_mono {K : PySem.W.Frag} {D0 : Ends} {F F' : Hp} {fl : Fl} {ls : LS} (h : pS K C D0 F fl ls) (e : Same F F') : pS K C D0 F' fl ls := fun σ H F1 e1 r => h σ H F1 (e.trans e1) r
theorem tl_pass : PS X (.Pass pos) (tS X.K C (ret .nx)) := psI ps_pass fun D σ H ⟨F, ls, r, h⟩ => h σ H F (Same.refl F) r
theorem tl_seq (h1 : PS X st (tS X.K C g1)) (h2 : PSs X rest (tS X.K C g2)) : PSs X (st :: rest) (tS X.K C (mSeq g1 g2)) := by
  refine pssI (pss_cons h1 h2) fun D σ H ⟨F, ls, r, h⟩ => ⟨F, ls, r, postS_imp (postS_bnd.mp h) (Same.refl F) fun fl ls' q => ?_⟩
  cases fl with
  | nx => exact fun σ' H' F' e' r' => ⟨F', ls', r', postS_imp q e' fun fl2 l2 z => pS_mono z e'⟩
  | rt t => exact q
  | ro s => exact q
  | bk => exact q
  | ct => exact q
theorem tl_one (h1 : PS X st (tS X.K C g1)) : PSs X [st] (tS X.K C g1) := pss_one h1
theorem tl_empty : PSs X [] (tS X.K C (ret .nx)) := pssI pss_nil fun D σ H ⟨F, ls, r, h⟩ => h σ H F (Same.refl F) r
theorem tl_do (he : PE X e (tE X.K C fe)) (hs : swapsWith e none pos.line X.env = pure false := by rfl) : PS X (.Expr e pos) (tS X.K C (mDo fe)) :=
  psI (ps_expr he hs) fun D σ H ⟨F, ls, r, h⟩ => thenES r h fun t l1 v1 H1 F1 e1 r1 p1 h1 => h1 σ H1 F1 e1 r1
theorem tl_ret (he : PE X e (tE X.K C fe)) : PS X (.Return (some e) pos) (tS X.K C (mRet fe)) :=
  psI (ps_ret he) fun D σ H ⟨F, ls, r, h⟩ => thenES r h fun t l1 v1 H1 F1 e1 r1 p1 h1 => h1 σ H1 F1 e1 r1 v1 p1
theorem tl_retN {fn : M SV} (he : PE X e (tN X.K C fn)) : PS X (.Return (some e) pos) (tS X.K C (mRetN fn)) :=
  psI (ps_ret he) fun D σ H ⟨F, ls, r, h⟩ => thenNS r h fun t l1 v1 H1 F1 e1 r1 p1 h1 => h1 σ H1 F1 e1 r1 v1 p1
/-- return of an own list that a slot holds -/
def mRetO (i : Nat) : M Fl := fun ls => match ls[i]? with
  | some (.ol ts) => .ok (.ro (.ol ts)) (ls.set i .un)
  | _ => .bad
theorem tl_retO (i : Nat) (hJ : C.J.contains i = false := by rfl) (hN : X.N[i]? = some x := by rfl) (hv : Vis X.env.scope x := by first | exact Or.inl rfl | exact Or.inr (Or.inl rfl) | exact Or.inr (Or.inr rfl)) (hd : (x == ("__debug__" : Str)) = false := by decide)
    (hcd : (x == ("__classdict__" : Str)) = false := by decide) {p : Pos} : PS X (.Return (some (.Name x p)) pos) (tS X.K C (mRetO i)) := by
  refine psI (ps_ret (pe_var hN hv hd hcd)) fun D σ H ⟨F, ls, r, h⟩ => ?_
  cases q : ls[i]? with
  | none => simp only [mRetO, q] at h; exact h.elim
  | some s =>
    cases s with
    | ol ts =>
      simp only [mRetO, q] at h
      obtain ⟨a, h1, h2, h3, h4⟩ := r.ow i _ q rfl
      have h5 : C.H0 a = none := by
        rcases h4 with z | z
        · exact z
        · exact absurd (r.jx _ z) (nJ hJ)
      have r' := r.kill [i]
      refine ⟨_, h1, h σ H F (Same.refl F) r' a ⟨rfl, h2, h3, h5, fun j s' e' o' => ?_, fun p hp z => ?_⟩⟩
      · rcases set_get e' with ⟨e1, e2, e3⟩ | ⟨e1, e2⟩
        · subst e2; cases o'
        · exact r.dj i j a _ s' e1 q e2 rfl o' h1
      · exact r.tn p hp i _ q rfl (by rw [z]; exact h1)
    | _ => simp only [mRetO, q] at h; exact h.elim
theorem tl_retNone : PS X (.Return none pos) (tS X.K C (ret (.rt .none))) := psI ps_retN fun D σ H ⟨F, ls, r, h⟩ => h σ H F (Same.refl F) r _ .non
theorem tl_if {c : Expr} {a b : List Stmt} {tc : M Bool} (hc : PT X c (tP X.K C tc)) (ha : PSs X a (tS X.K C g1)) (hb : PSs X b (tS X.K C g2)) : PS X (.If c a b pos) (tS X.K C (mIf tc g1 g2)) := by
  refine psI (ps_if hc ha hb) fun D σ H ⟨F, ls, r, h⟩ => thenPS r h fun k l1 H1 F1 e1 r1 h1 => ?_
  cases k with
  | true => exact iteT ⟨F1, l1, r1, postS_imp h1 (Same.refl _) fun fl l2 z => pS_mono z e1⟩
  | false => exact iteF ⟨F1, l1, r1, postS_imp h1 (Same.refl _) fun fl l2 z => pS_mono z e1⟩
theorem tl_never : PS X st (tS X.K C bad) := psI ps_never fun D σ H ⟨F, ls, r, h⟩ => h.elim
/-- name = e -/
theorem tl_set (i : Nat) {pos' : Pos} (hN : X.N.Nodup) (he : PE X e (tE X.K C fe)) (hi : X.N[i]? = some x := by rfl) (hx : Loc X.env.scope x := by first | exact .inl rfl | exact .inr rfl) (hJ : C.J.contains i = false := by rfl)
    (hs : swapsWith e (some (.Name x pos')) pos.line X.env = pure false := by rfl) (hf : X.fn x = true ∨ X.env.scope.names.lookup x = some .local := by first | exact .inl rfl | exact .inr rfl) : PS X (.Assign [.Name x pos'] e pos) (tS X.K C (mSet i fe)) :=
  psI (ps_set hN hi hx he hs hf) fun D σ H ⟨F, ls, r, h⟩ => thenES r h fun t l1 v1 H1 F1 e1 r1 p1 h1 => h1 _ H1 F1 e1 (r1.setFr (nJ hJ) p1)
theorem tl_own (i : Nat) {fn : M SV} {pos' : Pos} (hN : X.N.Nodup) (he : PE X e (tN X.K C fn)) (hi : X.N[i]? = some x := by rfl) (hx : Loc X.env.scope x := by first | exact .inl rfl | exact .inr rfl) (hJ : C.J.contains i = false := by rfl)
    (hs : swapsWith e (some (.Name x pos')) pos.line X.env = pure false := by rfl) (hf : X.fn x = true ∨ X.env.scope.names.lookup x = some .local := by first | exact .inl rfl | exact .inr rfl) : PS X (.Assign [.Name x pos'] e pos) (tS X.K C (mOwn i fn)) :=
  psI (ps_set hN hi hx he hs hf) fun D σ H ⟨F, ls, r, h⟩ => thenNS r h fun t l1 v1 H1 F1 e1 r1 p1 h1 => h1 _ H1 F1 e1 (r1.setOw (nJ hJ) p1)
/-- forgetting ahead of the rest -/
theorem tl_kill (ks : List Nat) (h2 : PSs X rest (tS X.K C g2)) : PSs X rest (tS X.K C (mSeq (mKill ks) g2)) :=
  pssI h2 fun D σ H ⟨F, ls, r, h⟩ => ⟨F, killS ks ls, r.kill ks, h⟩

/-! ### targets -/
def tG (K : PySem.W.Frag) (C : CC) (vs : List Nat) (g : D → M Unit) : TG := fun v σ H Q => ∃ F ls t, Rel K C F ls σ H ∧ Rp K F v t ∧ postS K C F (g t ls) fun _ ls' => ∀ σ' H' F', Same F F' → Off vs σ σ' → Rel K C F' ls' σ' H' → Q σ' H'
def tGs (K : PySem.W.Frag) (C : CC) (ws : List Nat) (gs : List (D → M Unit)) : TGs := fun vs σ H Q => ∃ F ls ts, Rel K C F ls σ H ∧ RpAll K F vs ts ∧ postS K C F (gTs gs ts ls) fun _ ls' => ∀ σ' H' F', Same F F' → Off ws σ σ' → Rel K C F' ls' σ' H' → Q σ' H'
theorem tg_name (i : Nat) (vs : List Nat) {pos' : Pos} (hN : X.N.Nodup) (hi : X.N[i]? = some x := by rfl) (hx : Loc X.env.scope x := by first | exact .inl rfl | exact .inr rfl) (hV : vs.contains i = true := by rfl) (hJ : C.J.contains i = false := by rfl) (hf : X.fn x = true ∨ X.env.scope.names.lookup x = some .local := by first | exact .inl rfl | exact .inr rfl) :
    PG X (.Name x pos') (tG X.K C vs (gT i)) := pgI (pg_name hN hi hx hf) fun v σ H Q ⟨F, ls, t, r, p, h⟩ => h _ H F (Same.refl F) (.set hV) (r.setFr (nJ hJ) p)
theorem tg_nil {ws : List Nat} : PGs X [] (tGs X.K C ws []) := ⟨fun pins s σ H vs us Q I rv ⟨F, ls, ts, r, p, h⟩ => by
  cases p with
  | nil => exact pgs_nil.run pins s σ H [] us Q I rv ⟨rfl, h σ H F (Same.refl F) .refl r⟩
  | cons p1 p2 => exact h.elim⟩
theorem tg_cons {ws : List Nat} {es : List Expr} {g : D → M Unit} {gs : List (D → M Unit)} (h1 : PG X e (tG X.K C ws g)) (h2 : PGs X es (tGs X.K C ws gs)) (hs : (assignEach (e :: es) X.env).map (·.2) = assign e X.env :: (assignEach es X.env).map (·.2) := by rfl) :
    PGs X (e :: es) (tGs X.K C ws (g :: gs)) := ⟨fun pins s σ H vs us Q I rv ⟨F, ls, ts, r, p, h⟩ => by
  cases p with
  | nil => exact h.elim
  | @cons v vs t ts p1 p2 =>
    refine (pgs_cons h1 h2 hs).run pins s σ H _ us Q I rv ⟨v, vs, rfl, F, ls, t, r, p1, ?_⟩
    refine postS_imp (postS_bnd.mp h) (Same.refl F) fun _ l1 q σ1 H1 F1 e1 o1 r1 => ⟨F1, l1, ts, r1, p2.mono e1, ?_⟩
    exact postS_imp q e1 fun _ l2 z σ2 H2 F2 e2 o2 => z σ2 H2 F2 (e1.trans e2) (o1.trans o2)⟩
theorem tg_tup {ws : List Nat} {es : List Expr} {gs : List (D → M Unit)} {k : Nat} (hc : X.calm = true) (h : PGs X es (tGs X.K C ws gs)) (hn : (assignEach es X.env).length = gs.length := by rfl) (hst : (assignEach es X.env).findIdx? (·.1) = none := by rfl) :
    PG X (.Tuple es k pos) (tG X.K C ws (gTup gs)) := pgI (pg_tup hc h hn hst) fun v σ H Q ⟨F, ls, t, r, p, h⟩ => by
  cases p with
  | @tup a xs ds h1 h2 =>
    cases hl : decide (ds.length = gs.length) with
    | false => simp only [gTup, hl] at h; exact h.elim
    | true =>
      simp only [gTup, hl] at h
      exact ⟨a, xs, rfl, same_sqt r.fh h1, by rw [h2.length]; exact of_decide_eq_true hl, F, ls, ds, r, h2, h⟩
  | _ => exact h.elim
theorem tl_asg {ws : List Nat} {tg : Expr} {g : D → M Unit} (he : PE X e (tE X.K C fe)) (hg : PG X tg (tG X.K C ws g)) (hs : swapsWithSole [tg] e pos.line X.env = pure false := by rfl) (hw : swappedStores [tg] e X.env = pure none := by rfl)
    (h1 : (assignEach [tg] X.env).map (·.2) = [assign tg X.env] := by rfl) : PS X (.Assign [tg] e pos) (tS X.K C (mAsg g fe)) := by
  refine psI (ps_asg he hg hs hw h1) fun D σ H ⟨F, ls, r, h⟩ => thenES r h fun t l1 v1 H1 F1 e1 r1 p1 h1 => ?_
  exact ⟨F1, l1, t, r1, p1, postS_imp (postS_bnd.mp h1) (Same.refl _) fun _ l2 q σ2 H2 F2 e2 _ r2 => q σ2 H2 F2 (e1.trans e2) r2⟩

/-! ### name += e -/
def ipD (K : PySem.W.Frag) (g : D → D → Option D) : TIp := fun x y H Q => ∃ F tx ty t, Same F H ∧ Rp K F x tx ∧ Rp K F y ty ∧ g tx ty = some t ∧ ∀ v F' H', Grow F H F' H' → Rp K F' v t → Q v H'
def dAddI : D → D → Option D
  | .int i, .int j => some (.int (i + j))
  | _, _ => none
theorem ipD_add : PIp X .Add (ipD X.K dAddI) := by
  intro pins s σ H x y v u Q I rx ry h
  obtain ⟨F, tx, ty, t, sm, px, py, hg, k⟩ := h
  cases px with
  | int i =>
    cases py with
    | int j =>
      cases hg
      exact ip_add pins s σ H _ _ v u Q I rx ry ⟨i, j, rfl, rfl, k _ F H (.refl sm) (.int _)⟩
    | _ => cases hg
  | _ => cases hg
theorem tl_aug (i : Nat) {op : Operator} {g : D → D → Option D} {pos' : Pos} (hN : X.N.Nodup) (he : PE X e (tE X.K C fe)) (ho : PIp X op (ipD X.K g)) (hi : X.N[i]? = some x := by rfl) (hx : Loc X.env.scope x := by first | exact .inl rfl | exact .inr rfl) (hJ : C.J.contains i = false := by rfl)
    (hf : X.fn x = true ∨ X.env.scope.names.lookup x = some .local := by first | exact .inl rfl | exact .inr rfl) : PS X (.AugAssign (.Name x pos') op e pos) (tS X.K C (mAug i g fe)) := by
  refine psI (ps_aug hN hi hx he ho hf) fun D σ H ⟨F, ls, r, h⟩ => ?_
  have h := postS_bnd.mp h
  cases q : ls[i]? with
  | none => simp only [mVar, q] at h; exact h.elim
  | some s =>
    cases s with
    | fr t =>
      simp only [mVar, q] at h
      obtain ⟨v, h1, h2⟩ := r.fr i t q
      refine ⟨v, h1, thenES r h fun t1 l1 v1 H1 F1 e1 r1 p1 h3 => ?_⟩
      cases hg : g t t1 with
      | none => simp only [hg, bnd, optM] at h3; exact h3.elim
      | some t2 =>
        simp only [hg, bnd, optM] at h3
        exact ⟨F1, t, t1, t2, r1.fh, h2.mono e1, p1, hg, fun v2 F2 H2 gr rp => h3 _ H2 F2 (e1.trans gr.ff) ((r1.grow gr).setFr (nJ hJ) rp)⟩
    | _ => simp only [mVar, q] at h; exact h.elim

/-! ### an own list's append, extend -/
theorem isOl_of {K : PySem.W.Frag} {F : Hp} {σ : L2.St} {i : Nat} {ls : LS} {P : Unit → LS → Prop} (h : postS K C F (isOl i ls) P) : ∃ ts, ls[i]? = some (.ol ts) ∧ P () ls := by
  unfold isOl at h
  cases q : ls[i]? with
  | none => rw [q] at h; exact h.elim
  | some s =>
    cases s with
    | ol ts => rw [q] at h; exact ⟨ts, rfl, h⟩
    | _ => rw [q] at h; exact h.elim
/-- a method of an own list, by one frozen argument -/
theorem ownM {id : String} {r : V → List V → Hp → VK → Prop} {name : Str} {g : Nat → D → M Unit} (slot : Slot "list" name id) (ty : typeOf (.builtin id) = pure (.type "method_descriptor")) (hm : MtR X id r)
    (hr : ∀ (i : Nat) (F H : Hp) (ls : LS) (σ : L2.St) (v : V) (t : D) (D0 : Ends) (a : Addr), Rel X.K C F ls σ H → σ[i]? = some (some (.ref a)) → Rp X.K F v t → postS X.K C F (bnd (g i t) (fun _ => ret Fl.nx) ls) (fun fl ls' => pS X.K C D0 F fl ls') → r (.ref a) [v] H fun _ H' => D0.nx σ H')
    (i : Nat) {p1 p2 p3 : Pos} (he : PE X e (tE X.K C fe)) (hN : X.N[i]? = some x) (hv : Vis X.env.scope x) (hd : (x == ("__debug__" : Str)) = false)
    (hcd : (x == ("__classdict__" : Str)) = false) (hna : starEach [e] X.env = (false, eval e X.env) :: starEach [] X.env)
    (hbase : attributeBase (.Name x p1) name X.env (eval (.Name x p1) X.env) = eval (.Name x p1) X.env)
    (hfew : ((backTo p3 (starEach [e] X.env)).all (fun x => !x.1) && (backToKw p3 (keywordEach [] X.env)).all (fun x => x.1.isSome)
      && decide ([e].length + ([] : List Keyword).length + (if ([] : List Keyword).isEmpty then 0 else 1) < 30)) = true)
    (hline : (p2.endLine == p3.line) = true) (hplain : (backTo p3 (starEach [] X.env)).any (·.1) = false)
    (hs : swapsWith (.Call (.Attribute (.Name x p1) name p2) [e] [] p3) none pos.line X.env = pure false) :
    PS X (.Expr (.Call (.Attribute (.Name x p1) name p2) [e] [] p3) pos) (tS X.K C (mOwnM g i fe)) := by
  have pe := pe_bm (o := .Name x p1) PySem.F.plainAttrs_list slot ty hm (pe_var hN hv hd hcd) (pa_cons he pa_nil hna) hbase hfew hline hna hplain
  refine psI (ps_expr pe hs) fun D0 σ H ⟨F, ls, r, h⟩ => ?_
  obtain ⟨ts, q, h⟩ := isOl_of (σ := σ) (postS_bnd.mp h)
  obtain ⟨a, h1, ⟨xs, h2, h3⟩, h4, h5⟩ := r.ow i _ q rfl
  refine ⟨.ref a, h1, .inl ⟨rfl, xs, .inl (.inl h2)⟩, thenES r h fun t l1 v1 H1 F1 e1 r1 p1 h6 => ?_⟩
  exact hr i F1 H1 l1 σ v1 t D0 a r1 h1 p1 (postS_imp h6 (Same.refl _) fun fl l2 z => pS_mono z e1)
theorem appR {i : Nat} {F H : Hp} {ls : LS} {σ : L2.St} {v : V} {t : D} {D0 : Ends} {a : Addr} (r : Rel X.K C F ls σ H) (ha : σ[i]? = some (some (.ref a))) (p : Rp X.K F v t) (h : postS X.K C F (bnd (appT i t) (fun _ => ret Fl.nx) ls) (fun fl ls' => pS X.K C D0 F fl ls')) :
    rAppend (.ref a) [v] H fun _ H' => D0.nx σ H' := by
  have h := postS_bnd.mp h
  unfold appT at h
  cases q : ls[i]? with
  | none => rw [q] at h; exact h.elim
  | some s =>
    cases s with
    | ol ts =>
      rw [q] at h
      obtain ⟨a', h1, ⟨xs, h2, h3⟩, h4, h5⟩ := r.ow i _ q rfl
      rw [ha] at h1; cases h1
      cases hz : decide (ts.length < sizeLine) with
      | false => simp only [hz] at h; exact h.elim
      | true =>
        simp only [hz] at h
        refine ⟨a, xs, v, rfl, rfl, h2, by rw [h3.length]; exact of_decide_eq_true hz, ?_⟩
        exact h σ _ F (Same.refl F) (r.write q rfl rfl ha ⟨_, upd_same, h3.append (.cons p .nil)⟩)
    | _ => rw [q] at h; exact h.elim
theorem tl_app (i : Nat) {p1 p2 p3 : Pos} (he : PE X e (tE X.K C fe)) (hN : X.N[i]? = some x := by rfl) (hv : Vis X.env.scope x := by first | exact Or.inl rfl | exact Or.inr (Or.inl rfl) | exact Or.inr (Or.inr rfl)) (hd : (x == ("__debug__" : Str)) = false := by decide)
    (hcd : (x == ("__classdict__" : Str)) = false := by decide) (hna : starEach [e] X.env = (false, eval e X.env) :: starEach [] X.env := by rfl)
    (hbase : attributeBase (.Name x p1) "append" X.env (eval (.Name x p1) X.env) = eval (.Name x p1) X.env := by rfl)
    (hfew : ((backTo p3 (starEach [e] X.env)).all (fun x => !x.1) && (backToKw p3 (keywordEach [] X.env)).all (fun x => x.1.isSome)
      && decide ([e].length + ([] : List Keyword).length + (if ([] : List Keyword).isEmpty then 0 else 1) < 30)) = true := by rfl)
    (hline : (p2.endLine == p3.line) = true := by rfl) (hplain : (backTo p3 (starEach [] X.env)).any (·.1) = false := by rfl)
    (hs : swapsWith (.Call (.Attribute (.Name x p1) "append" p2) [e] [] p3) none pos.line X.env = pure false := by rfl) :
    PS X (.Expr (.Call (.Attribute (.Name x p1) "append" p2) [e] [] p3) pos) (tS X.K C (mApp i fe)) :=
  ownM PySem.F.slot_list_append PySem.F.type_list_append mt_append (fun _ _ _ _ _ _ _ _ _ r ha p h => appR r ha p h) i he hN hv hd hcd hna hbase hfew hline hplain hs
/-- extend by a frozen list -/
def rExtR (K : PySem.W.Frag) : V → List V → Hp → VK → Prop := fun x vs H Q => ∃ l b xs zs, x = .ref l ∧ vs = [.ref b] ∧ H l = some (.lst xs) ∧ SqL K H b zs ∧ xs.length + zs.length ≤ sizeLine ∧ Q .non (upd H l (.lst (xs ++ zs)))
theorem mt_extR : MtR X "list.extend" (rExtR X.K) := by
  intro pins s σ H x vs v us Q I rx rv h
  obtain ⟨l, b, xs, zs, rfl, rfl, hH, hB, hz, q⟩ := h
  cases rx
  obtain ⟨u, rfl, ru⟩ := rv.one
  cases ru
  obtain ⟨z, its, n, r, hl, e⟩ := I.lstM hH
  obtain ⟨z2, its2, n2, sl2, r2, hl2, e2⟩ := lstR I hB
  have hsz : its.toArray.size + its2.toArray.size ≤ sizeLine := by rw [List.size_toArray, List.size_toArray]; omega
  have hlong : ¬ (!its.toArray.isEmpty && Builtin.List.listTooLong (its.toArray.size + its2.toArray.size)) = true := by
    rw [notLongL hsz, Bool.and_false]
    exact Bool.false_ne_true
  refine call_meets F.slot_list_extend ⟨_, e, rfl⟩ F.entry_list_extend (F.args_list_extend_2 _ _)
    (list_ext_gen l its.toArray n b its2.toArray n2 sl2 hlong (by rw [List.size_toArray]; omega) (by omega)) ⟨e, e2, ?_⟩
  refine ⟨.non, _, I.lset (its' := its ++ its2) hH e (by simp) (r.append r2) ?_, rfl, q⟩
  rw [List.length_append]
  omega
theorem extR {i : Nat} {F H : Hp} {ls : LS} {σ : L2.St} {v : V} {t : D} {D0 : Ends} {a : Addr} (r : Rel X.K C F ls σ H) (ha : σ[i]? = some (some (.ref a))) (p : Rp X.K F v t) (h : postS X.K C F (bnd (extT i t) (fun _ => ret Fl.nx) ls) (fun fl ls' => pS X.K C D0 F fl ls')) :
    rExtR X.K (.ref a) [v] H fun _ H' => D0.nx σ H' := by
  have h := postS_bnd.mp h
  unfold extT at h
  cases q : ls[i]? with
  | none => rw [q] at h; exact h.elim
  | some s =>
    cases s with
    | ol ts =>
      rw [q] at h
      obtain ⟨a', h1, ⟨xs, h2, h3⟩, h4, h5⟩ := r.ow i _ q rfl
      rw [ha] at h1; cases h1
      cases p with
      | @lst b zs us g1 g2 =>
        cases hz : decide (ts.length + us.length ≤ sizeLine) with
        | false => simp only [hz] at h; exact h.elim
        | true =>
          simp only [hz] at h
          refine ⟨a, b, xs, zs, rfl, rfl, h2, same_sql r.fh g1, by rw [h3.length, g2.length]; exact of_decide_eq_true hz, ?_⟩
          exact h σ _ F (Same.refl F) (r.write q rfl rfl ha ⟨_, upd_same, h3.append g2⟩)
      | _ => exact h.elim
    | _ => rw [q] at h; exact h.elim
theorem tl_ext (i : Nat) {p1 p2 p3 : Pos} (he : PE X e (tE X.K C fe)) (hN : X.N[i]? = some x := by rfl) (hv : Vis X.env.scope x := by first | exact Or.inl rfl | exact Or.inr (Or.inl rfl) | exact Or.inr (Or.inr rfl)) (hd : (x == ("__debug__" : Str)) = false := by decide)
    (hcd : (x == ("__classdict__" : Str)) = false := by decide) (hna : starEach [e] X.env = (false, eval e X.env) :: starEach [] X.env := by rfl)
    (hbase : attributeBase (.Name x p1) "extend" X.env (eval (.Name x p1) X.env) = eval (.Name x p1) X.env := by rfl)
    (hfew : ((backTo p3 (starEach [e] X.env)).all (fun x => !x.1) && (backToKw p3 (keywordEach [] X.env)).all (fun x => x.1.isSome)
      && decide ([e].length + ([] : List Keyword).length + (if ([] : List Keyword).isEmpty then 0 else 1) < 30)) = true := by rfl)
    (hline : (p2.endLine == p3.line) = true := by rfl) (hplain : (backTo p3 (starEach [] X.env)).any (·.1) = false := by rfl)
    (hs : swapsWith (.Call (.Attribute (.Name x p1) "extend" p2) [e] [] p3) none pos.line X.env = pure false := by rfl) :
    PS X (.Expr (.Call (.Attribute (.Name x p1) "extend" p2) [e] [] p3) pos) (tS X.K C (mExt i fe)) :=
  ownM PySem.F.slot_list_extend PySem.F.type_list_extend mt_extR (fun _ _ _ _ _ _ _ _ _ r ha p h => extR r ha p h) i he hN hv hd hcd hna hbase hfew hline hplain hs

/-! ### own[k] = e -/
def setT (i : Nat) (k : D) (t : D) : M Unit := fun ls => match ls[i]?, k with
  | some (.ol ts), .int j => match ixN ts.length j with
    | some n => .ok () (ls.set i (.ol (ts.set n t)))
    | none => .bad
  | _, _ => .bad
/-- the target own[k] -/
def gIx (i : Nat) (fk : M D) (t : D) : M Unit := bnd (isOl i) fun _ => bnd fk fun k => setT i k t
theorem tg_ix (i : Nat) {ws : List Nat} {b : Expr} {fk : M D} {p1 p2 : Pos} (hb : PE X b (tE X.K C fk)) (hN : X.N[i]? = some x := by rfl) (hv : Vis X.env.scope x := by first | exact Or.inl rfl | exact Or.inr (Or.inl rfl) | exact Or.inr (Or.inr rfl)) (hd : (x == ("__debug__" : Str)) = false := by decide)
    (hcd : (x == ("__classdict__" : Str)) = false := by decide)
    (ha : ∀ v, assign (.Subscript (.Name x p1) b p2) X.env v = (do
      let ov ← holding [v] (eval (.Name x p1) X.env)
      let iv ← holding [v, ov] (eval b X.env)
      standAt p2
      holding [v, ov, iv] (setItem ov iv v)
      release [v, ov, iv] []) := by intro _; rfl) : PG X (.Subscript (.Name x p1) b p2) (tG X.K C ws (gIx i fk)) := by
  refine pgI (pg_sub (pe_var hN hv hd hcd) hb set_list ha) fun v σ H Q ⟨F, ls, t, r, p, h⟩ => ?_
  obtain ⟨ts, q, h⟩ := isOl_of (σ := σ) (postS_bnd.mp h)
  obtain ⟨a, h1, h2, h3, h4⟩ := r.ow i _ q rfl
  refine ⟨.ref a, h1, thenES r h fun k l1 v1 H1 F1 e1 r1 p1 h6 => ?_⟩
  unfold setT at h6
  cases q1 : l1[i]? with
  | none => rw [q1] at h6; exact h6.elim
  | some s =>
    cases s with
    | ol us =>
      rw [q1] at h6
      cases p1 with
      | int j =>
        obtain ⟨a', g1, ⟨xs, g2, g3⟩, g4, g5⟩ := r1.ow i _ q1 rfl
        rw [h1] at g1; cases g1
        cases hn : ixN us.length j with
        | none => simp only [hn] at h6; exact h6.elim
        | some n =>
          simp only [hn] at h6
          refine ⟨a, xs, j, n, rfl, rfl, g2, by rw [g3.length]; exact hn, ?_⟩
          exact h6 σ _ F1 e1 .refl (r1.write q1 rfl rfl h1 ⟨_, upd_same, g3.set n (p.mono e1)⟩)
      | _ => exact h6.elim
    | _ => rw [q1] at h6; exact h6.elim

/-! ### own lists read -/
/-- own[k] -/
def mOIx (i : Nat) (fk : M D) : M D := bnd (isOl i) fun _ => bnd fk fun k => fun ls => match ls[i]?, k with
  | some (.ol ts), .int j => match atI ts j with
    | some t => .ok t ls
    | none => .bad
  | _, _ => .bad
theorem isOl_of' {K : PySem.W.Frag} {F : Hp} {σ : L2.St} {i : Nat} {ls : LS} {P : Unit → LS → Prop} (h : post K C F σ (isOl i ls) P) : ∃ ts, ls[i]? = some (.ol ts) ∧ P () ls := by
  unfold isOl at h
  cases q : ls[i]? with
  | none => rw [q] at h; exact h.elim
  | some s =>
    cases s with
    | ol ts => rw [q] at h; exact ⟨ts, rfl, h⟩
    | _ => rw [q] at h; exact h.elim
theorem tl_oix (i : Nat) {b : Expr} {fk : M D} {p1 : Pos} (hb : PE X b (tE X.K C fk)) (hs : PlainIx b := by exact fun _ _ => rfl) (hN : X.N[i]? = some x := by rfl) (hv : Vis X.env.scope x := by first | exact Or.inl rfl | exact Or.inr (Or.inl rfl) | exact Or.inr (Or.inr rfl)) (hd : (x == ("__debug__" : Str)) = false := by decide)
    (hcd : (x == ("__classdict__" : Str)) = false := by decide) : PE X (.Subscript (.Name x p1) b pos) (tE X.K C (mOIx i fk)) := by
  refine peI (pe_ix ix_list (pe_var hN hv hd hcd) hb hs) fun σ H Q ⟨F, ls, r, h⟩ => ?_
  obtain ⟨ts, q, h⟩ := isOl_of' (σ := σ) (post_bnd.mp h)
  obtain ⟨a, h1, h2, h3, h4⟩ := r.ow i _ q rfl
  refine ⟨.ref a, h1, thenE r h fun k l1 v1 H1 F1 e1 r1 p1 h6 => ?_⟩
  cases q1 : l1[i]? with
  | none => simp only [q1] at h6; exact h6.elim
  | some s =>
    cases s with
    | ol us =>
      simp only [q1] at h6
      cases p1 with
      | int j =>
        obtain ⟨a', g1, ⟨xs, g2, g3⟩, g4, g5⟩ := r1.ow i _ q1 rfl
        rw [h1] at g1; cases g1
        cases hn : atI us j with
        | none => simp only [hn] at h6; exact h6.elim
        | some t =>
          simp only [hn] at h6
          obtain ⟨w, e2, e3⟩ := ix_mem g3 hn
          exact ⟨a, xs, j, w, rfl, rfl, .inl (.inl g2), e2, h6 w H1 F1 e1 r1 e3⟩
      | _ => simp only [] at h6; exact h6.elim
    | _ => simp only [q1] at h6; exact h6.elim
/-- len(own) -/
def mOLen (i : Nat) : M D := fun ls => match ls[i]? with
  | some (.ol ts) => .ok (.int ts.length) ls
  | _ => .bad
theorem tl_olen (i : Nat) {p p1 : Pos} (hg : Gl X "len") (hm : X.mg "len" = none) (hN : X.N[i]? = some x := by rfl) (hv : Vis X.env.scope x := by first | exact Or.inl rfl | exact Or.inr (Or.inl rfl) | exact Or.inr (Or.inr rfl)) (hd : (x == ("__debug__" : Str)) = false := by decide)
    (hcd : (x == ("__classdict__" : Str)) = false := by decide) (he : starEach [.Name x p1] X.env = (false, eval (.Name x p1) X.env) :: starEach [] X.env := by rfl) (hpl : (backTo pos (starEach [] X.env)).any (·.1) = false := by rfl) : PE X (.Call (.Name "len" p) [.Name x p1] [] pos) (tE X.K C (mOLen i)) := by
  refine peI (pe_callB call_len_seq hg hm PySem.boot_len (pa_cons (pe_var hN hv hd hcd) pa_nil he) (by decide) (by decide) he hpl) fun σ H Q ⟨F, ls, r, h⟩ => ?_
  cases q : ls[i]? with
  | none => simp only [mOLen, q] at h; exact h.elim
  | some s =>
    cases s with
    | ol ts =>
      simp only [mOLen, q] at h
      obtain ⟨a, h1, ⟨xs, h2, h3⟩, h4, h5⟩ := r.ow i _ q rfl
      refine ⟨.ref a, h1, a, xs, rfl, .inl (.inl (.inl h2)), ?_⟩
      rw [h3.length]
      exact h _ H F (Same.refl F) r (.int _)
    | _ => simp only [mOLen, q] at h; exact h.elim
/-- an own list frozen for good -/
def mFreeze (i : Nat) : M D := fun ls => match ls[i]? with
  | some (.ol ts) => .ok (.list ts) (ls.set i (.fr (.list ts)))
  | _ => .bad
theorem tl_freeze (i : Nat) (hN : X.N[i]? = some x := by rfl) (hv : Vis X.env.scope x := by first | exact Or.inl rfl | exact Or.inr (Or.inl rfl) | exact Or.inr (Or.inr rfl)) (hJ : C.J.contains i = false := by rfl) (hd : (x == ("__debug__" : Str)) = false := by decide)
    (hcd : (x == ("__classdict__" : Str)) = false := by decide) : PE X (.Name x pos) (tE X.K C (mFreeze i)) := by
  refine peI (pe_var hN hv hd hcd) fun σ H Q ⟨F, ls, r, h⟩ => ?_
  cases q : ls[i]? with
  | none => simp only [mFreeze, q] at h; exact h.elim
  | some s =>
    cases s with
    | ol ts =>
      simp only [mFreeze, q] at h
      obtain ⟨a, xs, h1, h2, h3, h4, h5, h6⟩ := r.freeze q (nJ hJ)
      exact ⟨.ref a, h1, h _ H _ h4 h5 h6⟩
    | _ => simp only [mFreeze, q] at h; exact h.elim
end
end Tz
namespace Tz
open PySem PySem.Spec PyProof.Rows L2

/-! ### what is walked -/
def itemsOf : D → Option (List D)
  | .list ts => some ts
  | .tuple ts => some ts
  | .str z => some (z.cps.toList.map fun c => .str ⟨#[c]⟩)
  | _ => none
def mIter (f : M D) : M (List D) := bnd f fun d => optM (itemsOf d)
def rangeD (lo hi : Int) : List D := (List.range (hi - lo).toNat).map fun (k : Nat) => .int (lo + k)
def inR (i : Int) : Bool := decide (-(2 ^ 62) ≤ i) && decide (i < 2 ^ 62)
def mRange1 (f : M (List D)) : M (List D) := bnd f fun ds => match ds with
  | [.int j] => optM (gd (inR j) (rangeD 0 j))
  | _ => bad
def mRange2 (f : M (List D)) : M (List D) := bnd f fun ds => match ds with
  | [.int i, .int j] => optM (gd (inR i && inR j) (rangeD i j))
  | _ => bad
def enumD : Nat → List D → List D
  | _, [] => []
  | k, t :: ts => .tuple [.int (k : Int), t] :: enumD (k + 1) ts
def mEnum (f : M D) : M (List D) := bnd f fun d => match d with
  | .list ts => ret (enumD 0 ts)
  | _ => bad

structure Serves (K : PySem.W.Frag) (J : It) (ts : List D) (F : Hp) : Prop where
  step : ∀ (i : Nat) (F1 H1 : Hp) (t : D), Same F F1 → Same F1 H1 → ts[i]? = some t → J.go i H1 ∧ ∀ x H2, J.yld i H1 x H2 → ∃ F2, Grow F1 H1 F2 H2 ∧ Rp K F2 x t
  stop : ∀ (F1 H1 : Hp), Same F F1 → Same F1 H1 → J.stop ts.length H1
def tI (K : PySem.W.Frag) (C : CC) (f : M (List D)) : TI := fun σ H R => ∃ F ls, Rel K C F ls σ H ∧ post K C F σ (f ls) fun ts ls' => ∀ J H' F', Same F F' → Rel K C F' ls' σ H' → Serves K J ts F' → R J H'
section
variable {K : PySem.W.Frag} {F : Hp}
theorem serves_list {a : Addr} {xs : List V} {ts : List D} (h1 : SqL K F a xs) (h2 : RpAll K F xs ts) : Serves K (Itl K a) ts F where
  step := fun i F1 H1 t e1 e2 q => by
    obtain ⟨v, g1, g2⟩ := h2.get q
    have s : SqL K H1 a xs := same_sql (e1.trans e2) h1
    refine ⟨⟨xs, v, s, g1⟩, fun x H2 y => ?_⟩
    obtain ⟨e, y⟩ := y
    subst e
    have q2 := y xs s
    rw [g1] at q2; cases q2
    exact ⟨F1, .refl e2, g2.mono e1⟩
  stop := fun F1 H1 e1 e2 => ⟨xs, same_sql (e1.trans e2) h1, by rw [h2.length]; exact Nat.le_refl _⟩
theorem serves_tup {a : Addr} {xs : List V} {ts : List D} (h1 : SqT K F a xs) (h2 : RpAll K F xs ts) : Serves K (Itt K a) ts F where
  step := fun i F1 H1 t e1 e2 q => by
    obtain ⟨v, g1, g2⟩ := h2.get q
    have s : SqT K H1 a xs := same_sqt (e1.trans e2) h1
    refine ⟨⟨xs, v, s, g1⟩, fun x H2 y => ?_⟩
    obtain ⟨e, y⟩ := y
    subst e
    have q2 := y xs s
    rw [g1] at q2; cases q2
    exact ⟨F1, .refl e2, g2.mono e1⟩
  stop := fun F1 H1 e1 e2 => ⟨xs, same_sqt (e1.trans e2) h1, by rw [h2.length]; exact Nat.le_refl _⟩
theorem serves_str {z : Str} : Serves K (Its z) (z.cps.toList.map fun c => .str ⟨#[c]⟩) F where
  step := fun i F1 H1 t e1 e2 q => by
    rw [List.getElem?_map, Array.getElem?_toList] at q
    cases e : z.cps[i]? with
    | none => rw [e] at q; cases q
    | some c =>
      rw [e] at q
      have q' : PyData.str ⟨#[c]⟩ = t := Option.some.inj q
      subst q'
      refine ⟨(Array.getElem?_eq_some_iff.mp e).1, fun x H2 y => ?_⟩
      obtain ⟨e', c', g1, g2⟩ := y
      subst e' g2
      rw [e] at g1; cases g1
      exact ⟨F1, .refl e2, .str _⟩
  stop := fun F1 H1 e1 e2 => by
    show z.cps.size ≤ _
    simp
theorem serves_range {lo : Int} {n : Nat} : Serves K (Itr lo n) ((List.range n).map fun (k : Nat) => .int (lo + k)) F where
  step := fun i F1 H1 t e1 e2 q => by
    rw [List.getElem?_map] at q
    by_cases hi : i < n
    · rw [List.getElem?_range hi] at q
      have q' : PyData.int (lo + (i : Nat)) = t := Option.some.inj q
      subst q'
      refine ⟨hi, fun x H2 y => ?_⟩
      obtain ⟨e', g⟩ := y
      subst e' g
      exact ⟨F1, .refl e2, .int _⟩
    · rw [List.getElem?_eq_none (by simp; omega)] at q; cases q
  stop := fun F1 H1 e1 e2 => by
    show n ≤ _
    simp
theorem enumD_get : ∀ (ts : List D) (k i : Nat), (enumD k ts)[i]? = (ts[i]?).map fun t => .tuple [.int ((k + i : Nat) : Int), t]
  | [], _, _ => by simp [enumD]
  | t :: ts, k, 0 => by simp [enumD]
  | t :: ts, k, i + 1 => by
    simp only [enumD, List.getElem?_cons_succ]
    rw [enumD_get ts (k + 1) i]
    have : k + 1 + i = k + (i + 1) := by omega
    rw [this]
theorem enumD_len : ∀ (ts : List D) (k : Nat), (enumD k ts).length = ts.length
  | [], _ => rfl
  | _ :: ts, k => congrArg (· + 1) (enumD_len ts (k + 1))
theorem serves_enum {a : Addr} {xs : List V} {ts : List D} (h1 : SqL K F a xs) (h2 : RpAll K F xs ts) : Serves K (Ite K a) (enumD 0 ts) F where
  step := fun i F1 H1 t e1 e2 q => by
    rw [enumD_get] at q
    cases e : ts[i]? with
    | none => rw [e] at q; cases q
    | some u =>
      rw [e] at q
      have q' : PyData.tuple [.int ((0 + i : Nat) : Int), u] = t := Option.some.inj q
      subst q'
      obtain ⟨v, g1, g2⟩ := h2.get e
      have s : SqL K H1 a xs := same_sql (e1.trans e2) h1
      refine ⟨⟨xs, v, s, g1⟩, fun x H2 y => ?_⟩
      obtain ⟨T, x', rfl, nT, rfl, y⟩ := y
      have q2 := y xs s
      rw [g1] at q2; cases q2
      rw [Nat.zero_add]
      obtain ⟨gr, rp⟩ := newTup (K := K) e2 nT (xs := [.int (i : Nat), v]) (ts := [.int (i : Nat), u]) (.cons (.int _) (.cons (g2.mono e1) .nil))
      exact ⟨_, gr, rp⟩
  stop := fun F1 H1 e1 e2 => ⟨xs, same_sql (e1.trans e2) h1, by rw [h2.length, enumD_len]; exact Nat.le_refl _⟩
end
section
variable {X : Cx} {C : CC} {tg e : Expr} {es : List Expr} {fe : M D} {f : M (List D)} {pos p : Pos}
/-- a list, a tuple or a text -/
theorem ti_seq (he : PE X e (tE X.K C fe)) : PI X tg e (tI X.K C (mIter fe)) := by
  refine ⟨fun pins s σ H R I hw => ?_⟩
  obtain ⟨F, ls, r, h⟩ := hw
  have hh : tE X.K C fe σ H (fun x H1 => ∃ d F1 ls1, Rel X.K C F1 ls1 σ H1 ∧ Rp X.K F1 x d ∧ Same F F1 ∧ post X.K C F1 σ (optM (itemsOf d) ls1) fun ts ls' => ∀ J H' F', Same F F' → Rel X.K C F' ls' σ H' → Serves X.K J ts F' → R J H') :=
    thenE r h fun t l1 v1 H1 F1 e1 r1 p1 h1 => ⟨t, F1, l1, r1, p1, e1, h1⟩
  refine thn (he.run pins s σ H _ I hh) fun v s1 ⟨x, H1, I1, rv, d, F1, l1, r1, p1, e1, h1⟩ => ?_
  obtain ⟨ts, g1, k⟩ := endO h1
  cases p1 with
  | @lst a xs ds q1 q2 =>
    cases g1
    cases rv
    have hq : SqL X.K H1 a xs := same_sql r1.fh q1
    obtain ⟨its, rv, p, hz⟩ := I1.list hq
    refine wpAny_pyIter_list p.isList ?_
    refine ⟨s1.heap.objs.size, [s1.heap.objs.size], _, _, H1, rfl, I1.kept (t' := s1.toks) fun b o e => Heap.get?_push_of_some _ e, turn_list a _, ⟨_, Heap.get?_push_size _ rfl, rfl, rfl⟩, fun b hb => ?_, k _ H1 F1 e1 r1 (serves_list q1 q2)⟩
    have e : b = s1.heap.objs.size := by simpa using hb
    subst e
    exact I1.fpOk (Nat.le_refl _) (I1.hok.fresh (Nat.le_refl _))
  | @tup a xs ds q1 q2 =>
    cases g1
    cases rv
    have hq : SqT X.K H1 a xs := same_sqt r1.fh q1
    obtain ⟨its, rv, p, hz⟩ := I1.tuple hq
    refine wpAny_pyIter_tuple (show s1.heap.IsTuple a its.toArray from p) ?_
    refine ⟨s1.heap.objs.size, [s1.heap.objs.size], _, _, H1, rfl, I1.kept (t' := s1.toks) fun b o e => Heap.get?_push_of_some _ e, turn_tuple a _, ⟨_, Heap.get?_push_size _ rfl, rfl, rfl⟩, fun b hb => ?_, k _ H1 F1 e1 r1 (serves_tup q1 q2)⟩
    have e : b = s1.heap.objs.size := by simpa using hb
    subst e
    exact I1.fpOk (Nat.le_refl _) (I1.hok.fresh (Nat.le_refl _))
  | str z =>
    cases g1
    obtain ⟨t, rfl⟩ := rv
    have q := k (Its z) H1 F1 e1 r1 serves_str
    cases ha : z.cps.all (· < 128)
    · exact wpAny_pyIter_wide ha (pi_one (tk := s1.toks) I1 _ (turn_str _ z t "str_iterator" (.inr rfl)) ⟨_, Heap.get?_push_size _ rfl, rfl, rfl⟩ q)
    · exact wpAny_pyIter_ascii ha (pi_one (tk := s1.toks) I1 _ (turn_str _ z t "str_ascii_iterator" (.inl rfl)) ⟨_, Heap.get?_push_size _ rfl, rfl, rfl⟩ q)
  | _ => cases g1
theorem inR_of {i : Int} (h : inR i = true) : -(2 ^ 62) ≤ i ∧ i < 2 ^ 62 := by
  unfold inR at h
  simpa using h
theorem ti_range1 (hg : Gl X "range") (hm : X.mg "range" = none) (ha : PA X [e] (tA X.K C f)) (hs : starEach [e] X.env = [(false, eval e X.env)] := by rfl) : PI X tg (.Call (.Name "range" p) [e] [] pos) (tI X.K C (mRange1 f)) := by
  refine piI (pi_range1 hg hm ha hs) fun σ H R ⟨F, ls, r, h⟩ => thenA r h fun ts l1 vs H1 F1 e1 r1 p1 h1 => ?_
  cases p1 with
  | nil => exact h1.elim
  | cons p1 p2 =>
    cases p1 with
    | int j =>
      cases p2 with
      | nil =>
        obtain ⟨us, g, k⟩ := endO h1
        obtain ⟨hz, rfl⟩ := gd_some g
        obtain ⟨b1, b2⟩ := inR_of hz
        refine ⟨j, rfl, b1, b2, k _ H1 F1 e1 r1 ?_⟩
        have := serves_range (K := X.K) (F := F1) (lo := 0) (n := j.toNat)
        unfold rangeD
        rw [Int.sub_zero]
        exact this
      | cons p2 p3 => exact h1.elim
    | _ => exact h1.elim
theorem ti_range2 {e2 : Expr} (hg : Gl X "range") (hm : X.mg "range" = none) (ha : PA X [e, e2] (tA X.K C f)) (hs : starEach [e, e2] X.env = [(false, eval e X.env), (false, eval e2 X.env)] := by rfl) (hs2 : starEach [e2] X.env = [(false, eval e2 X.env)] := by rfl) :
    PI X tg (.Call (.Name "range" p) [e, e2] [] pos) (tI X.K C (mRange2 f)) := by
  refine piI (pi_range2 hg hm ha hs hs2) fun σ H R ⟨F, ls, r, h⟩ => thenA r h fun ts l1 vs H1 F1 e1 r1 p1 h1 => ?_
  cases p1 with
  | nil => exact h1.elim
  | cons p1 p2 =>
    cases p1 with
    | int i =>
      cases p2 with
      | nil => exact h1.elim
      | cons p2 p3 =>
        cases p2 with
        | int j =>
          cases p3 with
          | nil =>
            obtain ⟨us, g, k⟩ := endO h1
            obtain ⟨hz, rfl⟩ := gd_some g
            rw [Bool.and_eq_true] at hz
            obtain ⟨b1, b2⟩ := inR_of hz.1
            obtain ⟨b3, b4⟩ := inR_of hz.2
            exact ⟨i, j, rfl, ⟨b1, b2, b3, b4⟩, k _ H1 F1 e1 r1 serves_range⟩
          | cons p3 p4 => exact h1.elim
        | _ => exact h1.elim
    | _ => exact h1.elim
theorem ti_enum {elts : List Expr} {kk : Nat} {tpos : Pos} (hg : Gl X "enumerate") (hm : X.mg "enumerate" = none) (he : PE X e (tE X.K C fe)) (hs : starEach [e] X.env = [(false, eval e X.env)] := by rfl) (hs1 : starEach [e] X.env = (false, eval e X.env) :: starEach [] X.env := by rfl) :
    PI X (.Tuple elts kk tpos) (.Call (.Name "enumerate" p) [e] [] pos) (tI X.K C (mEnum fe)) := by
  refine piI (pi_enum hg hm (pa_cons he pa_nil hs1) hs) fun σ H R ⟨F, ls, r, h⟩ => thenE r h fun t l1 v1 H1 F1 e1 r1 p1 h1 => ?_
  cases p1 with
  | @lst a xs ds q1 q2 => exact ⟨a, xs, rfl, same_sql r1.fh q1, (endR h1) _ H1 F1 e1 r1 (serves_enum q1 q2)⟩
  | _ => exact h1.elim

/-! ### for -/
theorem tl_for {ws ks : List Nat} {g : D → M Unit} {gb : M Fl} {body : List Stmt} (hp : PassesOwn (model X.prog X.w) X.A X.env X.xe) (hc : X.calm = true) (hi : PI X tg e (tI X.K C f)) (hg : PG X tg (tG X.K C ws g)) (hb : PSs X body (tS X.K C gb))
    (hs : ∀ x, foldedSetIterable e X.env x = pure x := by intro _; rfl) : PS X (.For tg e body [] pos) (tS X.K C (mFor ks f g gb)) := by
  refine psI (ps_for hp hc hi hg hb hs) fun D0 σ H ⟨F, ls, r, h⟩ => ?_
  refine ⟨F, ls, r, post_imp (postS_post (postS_bnd.mp h)) (Same.refl F) fun ts l1 q J H1 F1 e1 r1 sv => ?_⟩
  have q1 := postS_imp q e1 fun fl l2 z => pS_mono z e1
  refine ⟨fun i m σ' H' => ∃ F2 l2, Same F1 F2 ∧ Rel X.K C F2 l2 σ' H' ∧ i + m = ts.length ∧ postS X.K C F2 (forL ks (fun t => bnd (g t) fun _ => gb) (ts.drop i) l2) fun fl ls' => pS X.K C D0 F2 fl ls',
    ⟨ts.length, F1, l1, Same.refl _, r1, by omega, by rw [List.drop_zero]; exact q1⟩, fun i m σ' H' hw => ?_⟩
  obtain ⟨F2, l2, e2, r2, em, h2⟩ := hw
  cases hd : ts.drop i with
  | nil =>
    have hl : ts.length = i := by
      have := congrArg List.length hd
      rw [List.length_drop] at this
      have h0 : ts.length - i = 0 := this
      omega
    rw [hd] at h2
    refine .inl ⟨?_, h2 σ' H' F2 (Same.refl _) (r2.kill ks)⟩
    rw [← hl]
    exact sv.stop F2 H' e2 r2.fh
  | cons t us =>
    have hi : ts[i]? = some t := by
      have := congrArg (·[0]?) hd
      simpa using this
    have hd2 : ts.drop (i + 1) = us := by
      rw [← List.drop_drop, hd]
      rfl
    have hlt : i < ts.length := (List.getElem?_eq_some_iff.mp hi).1
    rw [hd] at h2
    obtain ⟨go, yl⟩ := sv.step i F2 H' t e2 r2.fh hi
    refine .inr ⟨go, fun σ3 H3 => ∃ F3 l3, Same F2 F3 ∧ Rel X.K C F3 l3 σ3 H3 ∧ postS X.K C F3 (forL ks (fun t => bnd (g t) fun _ => gb) us l3) fun fl ls' => pS X.K C D0 F3 fl ls', fun σ3 H3 hn => ?_, fun x H3 hy => ?_⟩
    · obtain ⟨F3, l3, e3, r3, h3⟩ := hn
      exact ⟨m - 1, by omega, F3, l3, e2.trans e3, r3, by omega, by rw [hd2]; exact h3⟩
    · obtain ⟨F3, gr, rp⟩ := yl x H3 hy
      have r3 := (r2.kill ks).grow gr
      refine ⟨F3, killS ks l2, t, r3, rp, ?_⟩
      unfold forL at h2
      cases q5 : g t (killS ks l2) with
      | bad => simp only [bnd, q5] at h2; exact h2.elim
      | exc c l4 => simp only [bnd, q5] at h2; exact fun σ' H' F' e' => h2 σ' H' F' (gr.ff.trans e')
      | ok u l4 =>
        simp only [bnd, q5] at h2
        intro σ4 H4 F4 e4 _ r4
        refine ⟨F4, l4, r4, ?_⟩
        have e24 := gr.ff.trans e4
        cases q6 : gb l4 with
        | bad => rw [q6] at h2; exact h2.elim
        | exc c l5 => rw [q6] at h2; exact fun σ' H' F' e' => h2 σ' H' F' (e24.trans e')
        | ok fl l5 =>
          rw [q6] at h2
          cases fl with
          | nx => exact fun σ5 H5 F5 e5 r5 => ⟨F5, l5, e24.trans e5, r5, postS_imp h2 (e24.trans e5) fun fl l6 z => pS_mono z (e24.trans e5)⟩
          | ct => exact fun σ5 H5 F5 e5 r5 => ⟨F5, l5, e24.trans e5, r5, postS_imp h2 (e24.trans e5) fun fl l6 z => pS_mono z (e24.trans e5)⟩
          | bk => exact fun σ5 H5 F5 e5 r5 => h2 σ5 H5 F5 (e24.trans e5) (r5.kill ks)
          | rt t => exact fun σ5 H5 F5 e5 r5 => h2 σ5 H5 F5 (e24.trans e5) r5
          | ro s => exact fun σ5 H5 F5 e5 r5 => h2 σ5 H5 F5 (e24.trans e5) r5

/-! ### while -/
theorem tl_while {ks : List Nat} {c : Expr} {tc : M Bool} {gb : M Fl} {body : List Stmt} (n : Nat) (hp : PassesOwn (model X.prog X.w) X.A X.env X.xe) (hc : PT X c (tP X.K C tc)) (hb : PSs X body (tS X.K C gb)) : PS X (.While c body [] pos) (tS X.K C (whileL ks tc gb n)) := by
  refine psI (ps_while hp hc hb) fun D0 σ H ⟨F, ls, r, h⟩ => ?_
  refine ⟨fun m σ' H' => ∃ F2 l2, Same F F2 ∧ Rel X.K C F2 l2 σ' H' ∧ postS X.K C F2 (whileL ks tc gb m l2) fun fl ls' => pS X.K C D0 F2 fl ls', ⟨n, F, ls, Same.refl _, r, h⟩, fun m σ' H' hw => ?_⟩
  obtain ⟨F2, l2, e2, r2, h2⟩ := hw
  cases m with
  | zero => exact h2.elim
  | succ m =>
    have h3 : postS X.K C F2 (bnd tc (fun k => match k with
      | false => ret Fl.nx
      | true => fun ls => match gb ls with
        | .ok .nx ls' => whileL ks tc gb m ls'
        | .ok .ct ls' => whileL ks tc gb m ls'
        | .ok .bk ls' => .ok .nx ls'
        | r => r) (killS ks l2)) fun fl ls' => pS X.K C D0 F2 fl ls' := h2
    refine thenPS (r2.kill ks) h3 fun k l3 H3 F3 e3 r3 h4 => ?_
    cases k with
    | false => exact iteF (h4 σ' H3 F3 e3 r3)
    | true =>
      refine iteT ⟨fun σ5 H5 => ∃ F5 l5, Same F2 F5 ∧ Rel X.K C F5 l5 σ5 H5 ∧ postS X.K C F5 (whileL ks tc gb m l5) fun fl ls' => pS X.K C D0 F5 fl ls', fun σ5 H5 hn => ?_, F3, l3, r3, ?_⟩
      · obtain ⟨F5, l5, e5, r5, h5⟩ := hn
        exact ⟨m, Nat.lt_succ_self m, F5, l5, e2.trans e5, r5, h5⟩
      · cases q6 : gb l3 with
        | bad => simp only [q6] at h4; exact h4.elim
        | exc c l5 => simp only [q6] at h4; exact h4
        | ok fl l5 =>
          simp only [q6] at h4
          cases fl with
          | nx => exact fun σ5 H5 F5 e5 r5 => ⟨F5, l5, e3.trans e5, r5, postS_imp h4 e5 fun fl l6 z => pS_mono z (e3.trans e5)⟩
          | ct => exact fun σ5 H5 F5 e5 r5 => ⟨F5, l5, e3.trans e5, r5, postS_imp h4 e5 fun fl l6 z => pS_mono z (e3.trans e5)⟩
          | bk => exact fun σ5 H5 F5 e5 r5 => h4 σ5 H5 F5 (e3.trans e5) r5
          | rt t => exact fun σ5 H5 F5 e5 r5 => h4 σ5 H5 F5 (e3.trans e5) r5
          | ro s => exact fun σ5 H5 F5 e5 r5 => h4 σ5 H5 F5 (e3.trans e5) r5
end
end Tz
namespace Tz
open PySem PySem.Spec PyProof.Rows L2

/-! ### comprehensions -/
def compT (g : D → M Unit) (c : M Bool) (fe : M D) (t : D) (acc : List D) : M (List D) := bnd (g t) fun _ => bnd c fun k => match k with
  | false => ret acc
  | true => bnd fe fun x => match decide (acc.length < sizeLine) with
    | true => ret (acc ++ [x])
    | false => bad
def compL (ks : List Nat) (g : D → M Unit) (c : M Bool) (fe : M D) : List D → List D → M (List D)
  | [], acc => fun ls => .ok acc (killS ks ls)
  | t :: ts, acc => fun ls => match compT g c fe t acc (killS ks ls) with
    | .ok acc' ls' => compL ks g c fe ts acc' (killS ks ls')
    | _ => .bad
def mComp (ks : List Nat) (fi : M (List D)) (g : D → M Unit) (c : M Bool) (fe : M D) : M SV := bnd fi fun ts => bnd (compL ks g c fe ts []) fun acc => ret (.ol acc)
/-- within a comprehension nothing is raised -/
def CC.sub (C : CC) (tp : List (Addr × List V)) : CC := ⟨C.H0, C.F0, C.io, C.J, tp, fun _ _ _ => False⟩
theorem wipe_get : ∀ (vs : List Nat) (σ : L2.St) (j : Nat), (j ∉ vs → (wipe σ vs)[j]? = σ[j]?) ∧ (j ∈ vs → j < σ.length → (wipe σ vs)[j]? = some none)
  | [], σ, j => ⟨fun _ => rfl, fun h => by cases h⟩
  | v :: vs, σ, j => by
    obtain ⟨h1, h2⟩ := wipe_get vs σ j
    unfold wipe
    refine ⟨fun h => ?_, fun h hl => ?_⟩
    · rw [List.mem_cons, not_or] at h
      rw [List.getElem?_set_ne (Ne.symm h.1)]
      exact h1 h.2
    · by_cases e : v = j
      · subst e
        exact List.getElem?_set_self (by rw [wipe_length]; exact hl)
      · rw [List.getElem?_set_ne e]
        exact h2 ((List.mem_cons.mp h).resolve_left (Ne.symm e)) hl
theorem wipe_off {vs : List Nat} {σ σ' : L2.St} (h : Off vs σ σ') : wipe σ' vs = wipe σ vs := by
  apply List.ext_getElem?
  intro j
  by_cases hj : j ∈ vs
  · by_cases hl : j < σ.length
    · rw [(wipe_get vs σ' j).2 hj (by rw [h.1]; exact hl), (wipe_get vs σ j).2 hj hl]
    · rw [List.getElem?_eq_none (by rw [wipe_length, h.1]; omega), List.getElem?_eq_none (by rw [wipe_length]; omega)]
  · rw [(wipe_get vs σ' j).1 hj, (wipe_get vs σ j).1 hj]
    exact h.2 j hj
section
variable {K : PySem.W.Frag} {C : CC} {F H : Hp} {ls : LS} {σ : L2.St}
/-- the slots at which own things stand or that are known are the same -/
theorem Rel.at (r : Rel K C F ls σ H) {σ' : L2.St} (hl : σ'.length = σ.length) (h : ∀ (i : Nat) s, ls[i]? = some s → s = .un ∨ σ'[i]? = σ[i]?) (hio : ∀ p ∈ C.io, σ'[p.1]? = σ[p.1]?) : Rel K C F ls σ' H where
  f0 := r.f0
  fh := r.fh
  fm := r.fm
  al := r.al
  nw := r.nw
  len := by rw [hl]; exact r.len
  fr := fun i t e => by
    rcases h i _ e with q | q
    · cases q
    · rw [q]; exact r.fr i t e
  ow := fun i s e o => by
    rcases h i _ e with q | q
    · subst q; cases o
    · rw [q]; exact r.ow i s e o
  dj := fun i j a s s' n e e' o o' x => by
    rcases h i _ e with q | q
    · subst q; cases o
    · rcases h j _ e' with q' | q'
      · subst q'; cases o'
      · rw [q] at x; rw [q']; exact r.dj i j a s s' n e e' o o' x
  io := fun p hp => by rw [hio p hp]; exact r.io p hp
  jx := r.jx
  tm := r.tm
  tn := fun p hp i s e o => by
    rcases h i _ e with q | q
    · subst q; cases o
    · rw [q]; exact r.tn p hp i s e o
theorem killS_at : ∀ (ks : List Nat) (ls : LS) (i : Nat) (s : SV), (killS ks ls)[i]? = some s → i ∈ ks → s = .un
  | [], _, _, _, _, h => by cases h
  | k :: ks, ls, i, s, h, hi => by
    unfold killS at h
    by_cases hk : i ∈ ks
    · exact killS_at ks _ i s h hk
    · have e : i = k := (List.mem_cons.mp hi).resolve_right hk
      subst e
      rcases kill_get ks h with q | q
      · exact q
      · by_cases hl : i < ls.length
        · rw [List.getElem?_set_self hl] at q; exact (Option.some.inj q).symm
        · rw [List.getElem?_eq_none (by rw [List.length_set]; omega)] at q; cases q
theorem Rel.wipe (r : Rel K C F ls σ H) {vs : List Nat} (hv : ∀ v ∈ vs, v ∉ C.J) : Rel K C F (killS vs ls) (L2.wipe σ vs) H :=
  (r.kill vs).at (wipe_length _ _) (fun i s e => by
    by_cases hi : i ∈ vs
    · exact .inl (killS_at vs ls i s e hi)
    · exact .inr ((wipe_get vs σ i).1 hi)) fun p hp => (wipe_get vs σ p.1).1 fun z => hv _ z (r.jx p hp)
theorem Rel.unwipe {σw : L2.St} {vs : List Nat} (r : Rel K C F ls σw H) (hσ : L2.wipe σw vs = L2.wipe σ vs) (hv : ∀ v ∈ vs, v ∉ C.J) : Rel K C F (killS vs ls) σ H := by
  have hl : σ.length = σw.length := by rw [← wipe_length σw vs, hσ, wipe_length]
  refine (r.kill vs).at hl (fun i s e => ?_) fun p hp => ?_
  · by_cases hi : i ∈ vs
    · exact .inl (killS_at vs ls i s e hi)
    · exact .inr (by rw [← (wipe_get vs σ i).1 hi, ← hσ, (wipe_get vs σw i).1 hi])
  · have hi : p.1 ∉ vs := fun z => hv _ z (r.jx p hp)
    rw [← (wipe_get vs σ p.1).1 hi, ← hσ, (wipe_get vs σw p.1).1 hi]
/-- a list in the making is watched -/
theorem Rel.watch {tp : List (Addr × List V)} (r : Rel K C F ls σ H) (ht : C.tp = tp) {a : Addr} {xs : List V} (h : H a = some (.lst xs)) (hF : F a = none) (hn : ∀ (i : Nat) s, ls[i]? = some s → s.own = true → σ[i]? ≠ some (some (.ref a))) :
    Rel K (C.sub ((a, xs) :: tp)) F ls σ H where
  f0 := r.f0
  fh := r.fh
  fm := r.fm
  al := r.al
  nw := r.nw
  len := r.len
  fr := r.fr
  ow := r.ow
  dj := r.dj
  io := r.io
  jx := r.jx
  tm := fun p hp => by
    rcases List.mem_cons.mp hp with e | hp
    · subst e; exact ⟨h, hF⟩
    · exact r.tm p (by rw [ht]; exact hp)
  tn := fun p hp => by
    rcases List.mem_cons.mp hp with e | hp
    · subst e; exact hn
    · exact r.tn p (by rw [ht]; exact hp)
theorem Rel.unwatch {tp : List (Addr × List V)} {a : Addr} {xs : List V} (r : Rel K (C.sub ((a, xs) :: tp)) F ls σ H) (ht : C.tp = tp) :
    Rel K C F ls σ H ∧ H a = some (.lst xs) ∧ F a = none ∧ ∀ (i : Nat) s, ls[i]? = some s → s.own = true → σ[i]? ≠ some (some (.ref a)) :=
  have h := r.tm (a, xs) List.mem_cons_self
  ⟨⟨r.f0, r.fh, r.fm, r.al, r.nw, r.len, r.fr, r.ow, r.dj, r.io, r.jx, fun p hp => r.tm p (List.mem_cons_of_mem _ (by rw [← ht]; exact hp)), fun p hp => r.tn p (List.mem_cons_of_mem _ (by rw [← ht]; exact hp))⟩, h.1, h.2, r.tn (a, xs) List.mem_cons_self⟩
/-- the watched list is written -/
theorem Rel.writeTp (r : Rel K C F ls σ H) {a : Addr} {xs : List V} (o : HO) (h : H a = some (.lst xs)) (hF : F a = none) (h0 : C.H0 a = none) (hn : ∀ (i : Nat) s, ls[i]? = some s → s.own = true → σ[i]? ≠ some (some (.ref a))) (ht : ∀ p ∈ C.tp, p.1 ≠ a) : Rel K C F ls σ (upd H a o) where
  f0 := r.f0
  fh := fun b x q => by rw [upd_ne (ne_of_none q hF)]; exact r.fh b x q
  fm := fun b x q hp => by rw [upd_ne (ne_of_none q h0)]; exact r.fm b x q hp
  al := fun b x q => by rw [upd_ne (ne_of_none q h0)]; exact r.al b x q
  nw := r.nw
  len := r.len
  fr := r.fr
  ow := fun i s e ho => by
    obtain ⟨b, g1, g2, g3, g4⟩ := r.ow i s e ho
    have nb : b ≠ a := by rintro rfl; exact hn i s e ho g1
    exact ⟨b, g1, g2.mono (Same.refl F) fun x z => by rw [upd_ne nb]; exact z, g3, g4⟩
  dj := r.dj
  io := r.io
  jx := r.jx
  tm := fun p hp => by rw [upd_ne (ht p hp)]; exact r.tm p hp
  tn := r.tn
end
section
variable {X : Cx} {C : CC}
/-- the readings inside, whatever the watched lists are -/
def tgU (K : PySem.W.Frag) (C : CC) (vs : List Nat) (g : D → M Unit) : TG := fun v σ H Q => ∃ tp, tG K (C.sub tp) vs g v σ H Q
def ttU (K : PySem.W.Frag) (C : CC) (tc : M Bool) : TT := fun σ H Q => ∃ tp, tP K (C.sub tp) tc σ H Q
def teU (K : PySem.W.Frag) (C : CC) (fe : M D) : TE := fun σ H Q => ∃ tp, tE K (C.sub tp) fe σ H Q
theorem comp_read {K : PySem.W.Frag} {C : CC} {fi : M (List D)} {g : D → M Unit} {tc : M Bool} {fe : M D} {vs : List Nat} (hv : ∀ v ∈ vs, v ∉ C.J) {σ : L2.St} {H : Hp} {Q : VK} (h : tN K C (mComp vs fi g tc fe) σ H Q) :
    tLc (tI K C fi) (tgU K C vs g) (ttU K C tc) (teU K C fe) vs σ H Q := by
  obtain ⟨F, ls, r, h⟩ := h
  refine ⟨F, ls, r, post_imp (post_bnd.mp h) (Same.refl F) fun ts l1 q J H1 F1 e1 r1 sv => fun a na => ?_⟩
  have q1 := post_imp (post_bnd.mp q) e1 fun _ _ z => z
  obtain ⟨r2, fr2⟩ := r1.newOwn na (.nil (K := K) (H := F1))
  refine ⟨fun i m H' => ∃ F2 l2 acc xs, Same F1 F2 ∧ Rel K C F2 l2 σ H' ∧ i + m = ts.length ∧ H' a = some (.lst xs) ∧ RpAll K F2 xs acc ∧ Fresh K C F2 l2 σ H' (.ol acc) a ∧
      post K C F2 σ (compL vs g tc fe (ts.drop i) acc l2) (fun acc' ls' => ∀ a H' F', Same F2 F' → Rel K C F' ls' σ H' → Fresh K C F' ls' σ H' (.ol acc') a → Q (.ref a) H'),
    ⟨ts.length, F1, l1, [], [], Same.refl _, r2, by omega, upd_same, .nil, fr2, ?_⟩, fun i m H' hw => ?_⟩
  · rw [List.drop_zero]
    exact post_imp q1 (Same.refl _) fun acc' ls' z a H' F' e' => z a H' F' (e1.trans e')
  obtain ⟨F2, l2, acc, xs, e2, r3, em, ha, hx, fr3, h2⟩ := hw
  cases hd : ts.drop i with
  | nil =>
    have hl : ts.length = i := by
      have := congrArg List.length hd
      rw [List.length_drop] at this
      have h0 : ts.length - i = 0 := this
      omega
    rw [hd] at h2
    refine .inl ⟨?_, h2 a H' F2 (Same.refl _) (r3.kill _) ⟨fr3.own, fr3.rel, fr3.ff, fr3.h0, fun j s e o => ?_, fr3.nt⟩⟩
    · rw [← hl]
      exact sv.stop F2 H' e2 r3.fh
    · rcases kill_get _ e with z | z
      · subst z; cases o
      · exact fr3.nx j s z o
  | cons t us =>
    have hi : ts[i]? = some t := by
      have := congrArg (·[0]?) hd
      simpa using this
    have hd2 : ts.drop (i + 1) = us := by
      rw [← List.drop_drop, hd]
      rfl
    have hlt : i < ts.length := (List.getElem?_eq_some_iff.mp hi).1
    rw [hd] at h2
    obtain ⟨go, yl⟩ := sv.step i F2 H' t e2 r3.fh hi
    refine .inr ⟨go, fun H3 => ∃ F3 l3 acc xs, Same F2 F3 ∧ Rel K C F3 l3 σ H3 ∧ H3 a = some (.lst xs) ∧ RpAll K F3 xs acc ∧ Fresh K C F3 l3 σ H3 (.ol acc) a ∧
      post K C F3 σ (compL vs g tc fe us acc l3) (fun acc' ls' => ∀ a H' F', Same F3 F' → Rel K C F' ls' σ H' → Fresh K C F' ls' σ H' (.ol acc') a → Q (.ref a) H'), fun H3 hn => ?_, fun x H3 hy => ?_⟩
    · obtain ⟨F3, l3, acc3, xs3, e3, r4, g1, g2, g3, g4⟩ := hn
      exact ⟨m - 1, by omega, F3, l3, acc3, xs3, e2.trans e3, r4, by omega, g1, g2, g3, by rw [hd2]; exact g4⟩
    · obtain ⟨F3, gr, rp⟩ := yl x H3 hy
      have r4 := r3.grow gr
      have fr4 := fr3.grow gr
      have a3 : H3 a = some (.lst xs) := gr.hh _ _ ha
      have wr := (r4.wipe hv).watch rfl a3 fr4.ff fun j s e o z => by
        have z' := (wipe_some (σ := σ) (vs := vs) z).1
        rcases kill_get _ e with w | w
        · subst w; cases o
        · exact fr4.nx j s w o z'
      refine ⟨(a, xs) :: C.tp, F3, killS vs l2, t, wr, rp, ?_⟩
      unfold compL compT at h2
      have ww : ∀ {σ4 : L2.St}, Off vs (wipe σ vs) σ4 → wipe σ4 vs = wipe σ vs := fun {σ4} o => by
        rw [wipe_off o]
        exact wipe_off ⟨wipe_length _ _, fun j hj => (wipe_get _ σ j).1 hj⟩
      cases q5 : g t (killS vs l2) with
      | bad => simp only [bnd, q5] at h2; exact h2.elim
      | exc c l4 => simp only [bnd, q5] at h2; exact h2.elim
      | ok u l4 =>
        simp only [bnd, q5] at h2
        intro σ4 H4 F4 e4 off r5
        have we := ww off
        refine ⟨we, (a, xs) :: C.tp, F4, l4, r5, ?_⟩
        cases q6 : tc l4 with
        | bad => simp only [q6] at h2; exact h2.elim
        | exc c l5 => simp only [q6] at h2; exact h2.elim
        | ok k l5 =>
          simp only [q6] at h2
          cases k with
          | false =>
            intro H5 F5 e5 r6
            refine iteF ?_
            obtain ⟨r7, w1, w2, w3⟩ := (r6.unwipe we hv).unwatch rfl
            have e25 := (gr.ff.trans e4).trans e5
            exact ⟨F5, _, acc, xs, e25, r7, w1, hx.mono e25, ⟨rfl, ⟨xs, w1, hx.mono e25⟩, w2, fr4.h0, w3, fr4.nt⟩, post_imp h2 e25 fun acc' ls' z a H' F' e' => z a H' F' (e25.trans e')⟩
          | true =>
            intro H5 F5 e5 r6
            refine iteT ⟨(a, xs) :: C.tp, F5, l5, r6, ?_⟩
            cases q7 : fe l5 with
            | bad => simp only [bnd, q7] at h2; exact h2.elim
            | exc c l6 => simp only [bnd, q7] at h2; exact h2.elim
            | ok x6 l6 =>
              simp only [bnd, q7] at h2
              intro v6 H6 F6 e6 r7 p6
              obtain ⟨r8, w1, w2, w3⟩ := (r7.unwipe we hv).unwatch rfl
              have e26 := ((gr.ff.trans e4).trans e5).trans e6
              cases hz : decide (acc.length < sizeLine) with
              | false => simp only [hz] at h2; exact h2.elim
              | true =>
                simp only [hz] at h2
                have hx6 : RpAll K F6 (xs ++ [v6]) (acc ++ [x6]) := (hx.mono e26).append (.cons p6 .nil)
                refine ⟨xs, w1, by rw [hx.length]; exact of_decide_eq_true hz, F6, _, acc ++ [x6], xs ++ [v6], e26, r8.writeTp _ w1 w2 fr4.h0 w3 fr4.nt, upd_same, hx6, ⟨rfl, ⟨_, upd_same, hx6⟩, w2, fr4.h0, w3, fr4.nt⟩, post_imp h2 e26 fun acc' ls' z a H' F' e' => z a H' F' (e26.trans e')⟩
theorem setFz_read {K : PySem.W.Frag} {C : CC} {D0 : Ends} {F H : Hp} {ls : LS} {σ : L2.St} {fn : M SV} {i : Nat} (r : Rel K C F ls σ H) (hi : i ∉ C.J) (h : postS K C F (mSet i (mFz fn) ls) fun fl ls' => pS K C D0 F fl ls') :
    tN K C fn σ H (fun x H1 => gName i x σ H1 D0.nx) := by
  have h' : tS K C (mSet i (mFz fn)) D0 σ H := ⟨F, ls, r, h⟩
  refine fz_read (σ := σ) (H := H) (Q := fun x H1 => gName i x σ H1 D0.nx) ⟨F, ls, r, ?_⟩
  exact postS_post (postS_imp (postS_bnd.mp h) (Same.refl F) fun t l1 q v H1 F1 e1 r1 p1 => (postS_imp q e1 fun _ _ z => pS_mono z e1) _ H1 F1 (Same.refl _) (r1.setFr hi p1))
theorem allJ {l : List Nat} {J : List Nat} (h : l.all (fun v => !J.contains v) = true) : ∀ v ∈ l, v ∉ J := fun v hm => by
  have := List.all_eq_true.mp h v hm
  exact nJ (by simpa using this)
theorem tl_comp {elt tg iter : Expr} {ifs : List Expr} {scope : Scope} {own : List (Str × Nat)} {pos : Pos} {fi : M (List D)} {g : D → M Unit} {tc : M Bool} {fe : M D} (hc : X.calm = true) (hN : X.N.Nodup) (hi : PI X tg iter (tI X.K C fi)) (ok : BlkOk X.N X.env.scope scope own)
    (hg : ∀ (tp : List (Addr × List V)) (s : Shared) (H : Hp) (Cc : Addr) (cl : List (Str × Addr)) (fp : List Addr), PG (X.blk s H scope (compEnvC scope cl Cc X.env) fp) tg (tG X.K (C.sub tp) (own.map (·.2)) g))
    (ht : ∀ (tp : List (Addr × List V)) (s : Shared) (H : Hp) (Cc : Addr) (cl : List (Str × Addr)) (fp : List Addr), PTs (X.blk s H scope (compEnvC scope cl Cc X.env) fp) ifs (tP X.K (C.sub tp) tc))
    (he : ∀ (tp : List (Addr × List V)) (s : Shared) (H : Hp) (Cc : Addr) (cl : List (Str × Addr)) (fp : List Addr), PE (X.blk s H scope (compEnvC scope cl Cc X.env) fp) elt (tE X.K (C.sub tp) fe))
    (hJ : (own.map (·.2)).all (fun v => !C.J.contains v) = true := by rfl)
    (hs : ∀ x, foldedSetIterable iter X.env x = pure x := by intro _; rfl) : PE X (.ListComp elt [⟨tg, iter, ifs, 0⟩] scope pos) (tN X.K C (mComp (own.map (·.2)) fi g tc fe)) :=
  peI (pe_lc (own := own) (g := tgU X.K C (own.map (·.2)) g) (tt := ttU X.K C tc) (te := teU X.K C fe) hc hN hi ok (fun s H Cc cl fp => ⟨fun pins s' σ H' v u Q I r ⟨tp, h⟩ => (hg tp s H Cc cl fp).run pins s' σ H' v u Q I r h⟩) (fun s H Cc cl fp => ⟨fun pins s' σ H' Q I ⟨tp, h⟩ => (ht tp s H Cc cl fp).run pins s' σ H' Q I h⟩) (fun s H Cc cl fp => ⟨fun pins s' σ H' Q I ⟨tp, h⟩ => (he tp s H Cc cl fp).run pins s' σ H' Q I h⟩) hs) fun σ H Q h => comp_read (allJ hJ) h
/-- name = [..], the name a plain local -/
theorem tl_setC (i : Nat) {x : Str} {pos' spos : Pos} {elt tg iter : Expr} {ifs : List Expr} {scope : Scope} {own : List (Str × Nat)} {pos : Pos} {fi : M (List D)} {g : D → M Unit} {tc : M Bool} {fe : M D} (hc : X.calm = true) (hN : X.N.Nodup) (hi : PI X tg iter (tI X.K C fi)) (ok : BlkOk X.N X.env.scope scope own)
    (hg : ∀ (tp : List (Addr × List V)) (s : Shared) (H : Hp) (Cc : Addr) (cl : List (Str × Addr)) (fp : List Addr), PG (X.blk s H scope (compEnvC scope cl Cc X.env) fp) tg (tG X.K (C.sub tp) (own.map (·.2)) g))
    (ht : ∀ (tp : List (Addr × List V)) (s : Shared) (H : Hp) (Cc : Addr) (cl : List (Str × Addr)) (fp : List Addr), PTs (X.blk s H scope (compEnvC scope cl Cc X.env) fp) ifs (tP X.K (C.sub tp) tc))
    (he : ∀ (tp : List (Addr × List V)) (s : Shared) (H : Hp) (Cc : Addr) (cl : List (Str × Addr)) (fp : List Addr), PE (X.blk s H scope (compEnvC scope cl Cc X.env) fp) elt (tE X.K (C.sub tp) fe))
    (hJ : (own.map (·.2)).all (fun v => !C.J.contains v) = true := by rfl)
    (hs : ∀ x, foldedSetIterable iter X.env x = pure x := by intro _; rfl)
    (hx : X.N[i]? = some x := by rfl) (hl : X.env.scope.names.lookup x = some .local := by rfl) (hJi : C.J.contains i = false := by rfl)
    (hsw : swapsWith (.ListComp elt [⟨tg, iter, ifs, 0⟩] scope pos) (some (.Name x pos')) spos.line X.env = pure true := by exact sw_true rfl rfl rfl rfl) : PS X (.Assign [.Name x pos'] (.ListComp elt [⟨tg, iter, ifs, 0⟩] scope pos) spos) (tS X.K C (mSet i (mFz (mComp (own.map (·.2)) fi g tc fe)))) :=
  psI (ps_setLc (own := own) (g := tgU X.K C (own.map (·.2)) g) (tt := ttU X.K C tc) (te := teU X.K C fe) hc hN hx hl hsw hi ok (fun s H Cc cl fp => ⟨fun pins s' σ H' v u Q I r ⟨tp, h⟩ => (hg tp s H Cc cl fp).run pins s' σ H' v u Q I r h⟩) (fun s H Cc cl fp => ⟨fun pins s' σ H' Q I ⟨tp, h⟩ => (ht tp s H Cc cl fp).run pins s' σ H' Q I h⟩) (fun s H Cc cl fp => ⟨fun pins s' σ H' Q I ⟨tp, h⟩ => (he tp s H Cc cl fp).run pins s' σ H' Q I h⟩) hs) fun D σ H ⟨F, ls, r, h⟩ => comp_read (allJ hJ) (setFz_read r (nJ hJi) h)
theorem tl_ownC (i : Nat) {x : Str} {pos' spos : Pos} {elt tg iter : Expr} {ifs : List Expr} {scope : Scope} {own : List (Str × Nat)} {pos : Pos} {fi : M (List D)} {g : D → M Unit} {tc : M Bool} {fe : M D} (hc : X.calm = true) (hN : X.N.Nodup) (hi : PI X tg iter (tI X.K C fi)) (ok : BlkOk X.N X.env.scope scope own)
    (hg : ∀ (tp : List (Addr × List V)) (s : Shared) (H : Hp) (Cc : Addr) (cl : List (Str × Addr)) (fp : List Addr), PG (X.blk s H scope (compEnvC scope cl Cc X.env) fp) tg (tG X.K (C.sub tp) (own.map (·.2)) g))
    (ht : ∀ (tp : List (Addr × List V)) (s : Shared) (H : Hp) (Cc : Addr) (cl : List (Str × Addr)) (fp : List Addr), PTs (X.blk s H scope (compEnvC scope cl Cc X.env) fp) ifs (tP X.K (C.sub tp) tc))
    (he : ∀ (tp : List (Addr × List V)) (s : Shared) (H : Hp) (Cc : Addr) (cl : List (Str × Addr)) (fp : List Addr), PE (X.blk s H scope (compEnvC scope cl Cc X.env) fp) elt (tE X.K (C.sub tp) fe))
    (hJ : (own.map (·.2)).all (fun v => !C.J.contains v) = true := by rfl)
    (hs : ∀ x, foldedSetIterable iter X.env x = pure x := by intro _; rfl)
    (hx : X.N[i]? = some x := by rfl) (hl : X.env.scope.names.lookup x = some .local := by rfl) (hJi : C.J.contains i = false := by rfl)
    (hsw : swapsWith (.ListComp elt [⟨tg, iter, ifs, 0⟩] scope pos) (some (.Name x pos')) spos.line X.env = pure true := by exact sw_true rfl rfl rfl rfl) : PS X (.Assign [.Name x pos'] (.ListComp elt [⟨tg, iter, ifs, 0⟩] scope pos) spos) (tS X.K C (mOwn i (mComp (own.map (·.2)) fi g tc fe))) :=
  psI (ps_setLc (own := own) (g := tgU X.K C (own.map (·.2)) g) (tt := ttU X.K C tc) (te := teU X.K C fe) hc hN hx hl hsw hi ok (fun s H Cc cl fp => ⟨fun pins s' σ H' v u Q I r ⟨tp, h⟩ => (hg tp s H Cc cl fp).run pins s' σ H' v u Q I r h⟩) (fun s H Cc cl fp => ⟨fun pins s' σ H' Q I ⟨tp, h⟩ => (ht tp s H Cc cl fp).run pins s' σ H' Q I h⟩) (fun s H Cc cl fp => ⟨fun pins s' σ H' Q I ⟨tp, h⟩ => (he tp s H Cc cl fp).run pins s' σ H' Q I h⟩) hs) fun D σ H ⟨F, ls, r, h⟩ => comp_read (allJ hJ) (thenNS r h fun t l1 v1 H1 F1 e1 r1 p1 h1 => h1 _ H1 F1 e1 (r1.setOw (nJ hJi) p1))
end
end Tz
namespace Tz
open PySem PySem.Spec PyProof.Rows L2

/-! ### arguments of defs -/
inductive AV where
  | fr (t : D) | sl (i : Nat)
def aNil : M (List AV) := ret []
def aFr (f : M D) (g : M (List AV)) : M (List AV) := bnd f fun x => bnd g fun xs => ret (.fr x :: xs)
def aSlO (i : Nat) (g : M (List AV)) : M (List AV) := fun ls => match ls[i]? with
  | some s => match s.own with
    | true => bnd g (fun xs => ret (.sl i :: xs)) ls
    | false => .bad
  | none => .bad
def argSV (ls : LS) : AV → Option SV
  | .fr t => some (.fr t)
  | .sl i => match ls[i]? with
    | some s => match s.own with
      | true => some s
      | false => none
    | none => none
def argSVs (ls : LS) : List AV → Option (List SV)
  | [] => some []
  | a :: as => match argSV ls a, argSVs ls as with
    | some s, some ss => some (s :: ss)
    | _, _ => none
/-- the one own list handed in: its place among the arguments, its slot -/
def slAt : Nat → List AV → List (Nat × Nat)
  | _, [] => []
  | k, .fr _ :: as => slAt (k + 1) as
  | k, .sl i :: as => (k, i) :: slAt (k + 1) as
def backD (avs : List AV) (ls2 ls : LS) : Option LS := match slAt 0 avs with
  | [] => some ls
  | [(k, i)] => match ls2[k]? with
    | some s => match s.own with
      | true => some (ls.set i s)
      | false => none
    | none => none
  | _ => none
def runCall (ex : Bool) (J : List Nat) (sem : List SV → R Fl) (avs : List AV) : M Fl := fun ls => match gd ((slAt 0 avs).all fun p => J.contains p.1) () with
  | none => .bad
  | some _ => match argSVs ls avs with
  | none => .bad
  | some as => match sem as with
    | .bad => .bad
    | .exc c ls2 => match ex with
      | false => .bad
      | true => match backD avs ls2 ls with
        | some ls3 => .exc c ls3
        | none => .bad
    | .ok fl ls2 => match backD avs ls2 ls with
      | some ls3 => .ok fl ls3
      | none => .bad
def flD : Fl → M D
  | .rt t => ret t
  | .nx => ret .none
  | _ => bad
def flN : Fl → M SV
  | .ro s => ret s
  | _ => bad
def mCallD (ex : Bool) (J : List Nat) (sem : List SV → R Fl) (f : M (List AV)) : M D := bnd f fun avs => bnd (runCall ex J sem avs) flD
def mCallN (ex : Bool) (J : List Nat) (sem : List SV → R Fl) (f : M (List AV)) : M SV := bnd f fun avs => bnd (runCall ex J sem avs) flN
/-- a def by its body -/
def runD (pad : Nat) (g : M Fl) (as : List SV) : R Fl := g (as ++ List.replicate pad .un)

structure AVs (K : PySem.W.Frag) (F : Hp) (σ : L2.St) (avs : List AV) (vs : List V) : Prop where
  len : avs.length = vs.length
  fr : ∀ (k : Nat) t, avs[k]? = some (.fr t) → ∃ v, vs[k]? = some v ∧ Rp K F v t
  sl : ∀ (k i : Nat), avs[k]? = some (.sl i) → ∃ v, vs[k]? = some v ∧ σ[i]? = some (some v)
theorem AVs.nil {K : PySem.W.Frag} {F : Hp} {σ : L2.St} : AVs K F σ [] [] := ⟨rfl, fun _ _ e => by simp at e, fun _ _ e => by simp at e⟩
theorem AVs.consF {K : PySem.W.Frag} {F : Hp} {σ : L2.St} {avs : List AV} {vs : List V} {t : D} {v : V} (h : AVs K F σ avs vs) (p : Rp K F v t) : AVs K F σ (.fr t :: avs) (v :: vs) :=
  ⟨congrArg (· + 1) h.len, fun k t' e => by
    cases k with
    | zero => cases e; exact ⟨v, rfl, p⟩
    | succ k => exact h.fr k t' (by simpa using e), fun k i e => by
    cases k with
    | zero => cases e
    | succ k => exact h.sl k i (by simpa using e)⟩
theorem AVs.consS {K : PySem.W.Frag} {F : Hp} {σ : L2.St} {avs : List AV} {vs : List V} {i : Nat} {v : V} (h : AVs K F σ avs vs) (p : σ[i]? = some (some v)) : AVs K F σ (.sl i :: avs) (v :: vs) :=
  ⟨congrArg (· + 1) h.len, fun k t' e => by
    cases k with
    | zero => cases e
    | succ k => exact h.fr k t' (by simpa using e), fun k j e => by
    cases k with
    | zero => cases e; exact ⟨v, rfl, p⟩
    | succ k => exact h.sl k j (by simpa using e)⟩
def tAA (K : PySem.W.Frag) (C : CC) (f : M (List AV)) : TA := fun σ H Q => ∃ F ls, Rel K C F ls σ H ∧ post K C F σ (f ls) fun avs ls' => ∀ vs H' F', Same F F' → Rel K C F' ls' σ H' → AVs K F' σ avs vs → Q vs H'
section
variable {K : PySem.W.Frag} {C : CC} {α : Type} {F : Hp} {σ : L2.St} {H : Hp} {ls : LS}
theorem thenAA {f : M (List AV)} {g : List AV → M α} {P : α → LS → Prop} {Q : List V → Hp → Prop} (r : Rel K C F ls σ H) (h : post K C F σ (bnd f g ls) P)
    (k : ∀ ts ls' vs H' F', Same F F' → Rel K C F' ls' σ H' → AVs K F' σ ts vs → post K C F' σ (g ts ls') P → Q vs H') : tAA K C f σ H Q := by
  refine ⟨F, ls, r, post_imp (post_bnd.mp h) (Same.refl F) fun t ls' q v H' F' e r' p => k t ls' v H' F' e r' p ?_⟩
  exact post_imp q e fun _ _ z => z
end
section
variable {X : Cx} {C : CC} {e : Expr} {es : List Expr} {fe : M D} {f : M (List AV)} {x : Str} {pos : Pos}
theorem ta_nil : PA X [] (tAA X.K C aNil) := paI pa_nil fun σ H Q ⟨F, ls, r, h⟩ => h [] H F (Same.refl F) r .nil
theorem ta_fr (ha : PE X e (tE X.K C fe)) (hr : PA X es (tAA X.K C f)) (hs : starEach (e :: es) X.env = (false, eval e X.env) :: starEach es X.env := by rfl) : PA X (e :: es) (tAA X.K C (aFr fe f)) := by
  refine paI (pa_cons ha hr hs) fun σ H Q ⟨F, ls, r, h⟩ => thenE r h fun t l1 v1 H1 F1 e1 r1 p1 h1 => thenAA r1 h1 fun ts l2 vs H2 F2 e2 r2 p2 h2 => ?_
  exact (endR h2) _ H2 F2 (e1.trans e2) r2 (.consF p2 (p1.mono e2))
theorem ta_sl (i : Nat) (hr : PA X es (tAA X.K C f)) (hN : X.N[i]? = some x := by rfl) (hv : Vis X.env.scope x := by first | exact Or.inl rfl | exact Or.inr (Or.inl rfl) | exact Or.inr (Or.inr rfl)) (hd : (x == ("__debug__" : Str)) = false := by decide)
    (hcd : (x == ("__classdict__" : Str)) = false := by decide) (hs : starEach (.Name x pos :: es) X.env = (false, eval (.Name x pos) X.env) :: starEach es X.env := by rfl) : PA X (.Name x pos :: es) (tAA X.K C (aSlO i f)) := by
  refine paI (pa_cons (pe_var hN hv hd hcd) hr hs) fun σ H Q ⟨F, ls, r, h⟩ => ?_
  cases q : ls[i]? with
  | none => simp only [aSlO, q] at h; exact h.elim
  | some s =>
    cases q2 : s.own with
    | false => simp only [aSlO, q, q2] at h; exact h.elim
    | true =>
      simp only [aSlO, q, q2] at h
      obtain ⟨a, h1, h2, h3, h4⟩ := r.ow i s q q2
      refine ⟨_, h1, thenAA r h fun ts l2 vs H2 F2 e2 r2 p2 h2 => ?_⟩
      exact (endR h2) _ H2 F2 e2 r2 (.consS p2 h1)
end

/-! ### what a def promises -/
structure ArgsRel (K : PySem.W.Frag) (F H : Hp) (as : List SV) (vs : List V) : Prop where
  len : as.length = vs.length
  fr : ∀ (i : Nat) t, as[i]? = some (.fr t) → ∃ v, vs[i]? = some v ∧ Rp K F v t
  ow : ∀ (i : Nat) s, as[i]? = some s → s.own = true → ∃ a, vs[i]? = some (.ref a) ∧ ownRel K F H s a ∧ F a = none
  dj : ∀ (i j : Nat) a s s', i ≠ j → as[i]? = some s → as[j]? = some s' → s.own = true → s'.own = true → vs[i]? = some (.ref a) → vs[j]? ≠ some (.ref a)
structure CallPost (K : PySem.W.Frag) (F H : Hp) (as : List SV) (vs : List V) (ls' : LS) (F' H' : Hp) : Prop where
  ff : Same F F'
  fh : Same F' H'
  fm : ∀ b o, H b = some o → (∀ (i : Nat) s, as[i]? = some s → s.own = true → vs[i]? ≠ some (.ref b)) → H' b = some o
  al : ∀ b o, H b = some o → ∃ o', H' b = some o'
  nw : ∀ b o, F' b = some o → (∃ u, F b = some u) ∨ H b = none
  io : ∀ (i : Nat) s a, as[i]? = some s → s.own = true → vs[i]? = some (.ref a) → ∀ s', ls'[i]? = some s' → s'.own = true → ownRel K F' H' s' a ∧ F' a = none
def ownEnd (as : List SV) (ls' : LS) : Prop := ∀ (i : Nat) s, as[i]? = some s → s.own = true → ∃ s', ls'[i]? = some s' ∧ s'.own = true
def spD (ex : Bool) (K : PySem.W.Frag) (mg : Str → Option Value) (n : Nat) (J : List Nat) (sem : List SV → R Fl) : Sp := fun vs H Q E => ∃ F as, vs.length = n ∧ Same F H ∧ ArgsRel K F H as vs ∧ (∀ (i : Nat) s, as[i]? = some s → s.own = true → i ∈ J) ∧ match sem as with
  | .bad => False
  | .exc c ls' => ex = true ∧ ownEnd as ls' ∧ ∀ H' F', CallPost K F H as vs ls' F' H' → ∀ a, mg c = some (.ref a) → E (.ref a) none H'
  | .ok fl ls' => ownEnd as ls' ∧ ∀ H' F', CallPost K F H as vs ls' F' H' → match fl with
    | .nx => Q .non H'
    | .rt t => ∀ v, Rp K F' v t → Q v H'
    | .ro s => ∀ a, s.own = true → ownRel K F' H' s a → F' a = none → H a = none → Q (.ref a) H'
    | _ => False
def mkC (ex : Bool) (mg : Str → Option Value) (H F : Hp) (io : List (Nat × Addr)) (J : List Nat) (E : XK) : CC := ⟨H, F, io, J, [], fun c _ H' => ex = true ∧ ∀ a, mg c = some (.ref a) → E (.ref a) none H'⟩

def ioAt (as : List SV) (vs : List V) (i : Nat) : Option (Nat × Addr) := match as[i]?, vs[i]? with
  | some s, some (V.ref a) => match s.own with
    | true => some (i, a)
    | false => none
  | _, _ => none
def ioOf (as : List SV) (vs : List V) : List (Nat × Addr) := (List.range as.length).filterMap (ioAt as vs)
theorem mem_io {as : List SV} {vs : List V} {p : Nat × Addr} : p ∈ ioOf as vs ↔ ∃ s, as[p.1]? = some s ∧ s.own = true ∧ vs[p.1]? = some (.ref p.2) := by
  unfold ioOf
  rw [List.mem_filterMap]
  constructor
  · rintro ⟨i, _, h⟩
    unfold ioAt at h
    cases q : as[i]? with
    | none => rw [q] at h; cases h
    | some s =>
      cases q2 : vs[i]? with
      | none => rw [q, q2] at h; cases h
      | some v =>
        rw [q, q2] at h
        cases v with
        | ref a =>
          cases q3 : s.own with
          | true => simp only [q3] at h; cases h; exact ⟨s, q, q3, q2⟩
          | false => simp only [q3] at h; cases h
        | _ => cases h
  · rintro ⟨s, q, q3, q2⟩
    refine ⟨p.1, List.mem_range.mpr (List.getElem?_eq_some_iff.mp q).1, ?_⟩
    unfold ioAt
    rw [q, q2]
    simp only [q3]
/-- what the body's end means for the caller -/
theorem callPost_of {ex : Bool} {K : PySem.W.Frag} {mg : Str → Option Value} {H F : Hp} {as : List SV} {vs : List V} {J : List Nat} {E : XK} {io : List (Nat × Addr)} {F' H' : Hp} {ls' : LS} {σ' : L2.St}
    (hio : ∀ p, p ∈ io ↔ ∃ s, as[p.1]? = some s ∧ s.own = true ∧ vs[p.1]? = some (.ref p.2)) (r : Rel K (mkC ex mg H F io J E) F' ls' σ' H') : CallPost K F H as vs ls' F' H' where
  ff := r.f0
  fh := r.fh
  fm := fun b o q n => r.fm b o q fun p hp e => by
    obtain ⟨s, h1, h2, h3⟩ := (hio p).mp hp
    exact n p.1 s h1 h2 (by rw [h3, e])
  al := r.al
  nw := r.nw
  io := fun i s a q o x s' e o' => by
    have hp : (i, a) ∈ io := (hio (i, a)).mpr ⟨s, q, o, x⟩
    have h1 := r.io (i, a) hp
    obtain ⟨a', g1, g2, g3, g4⟩ := r.ow i s' e o'
    have h1 : σ'[i]? = some (some (.ref a)) := h1
    rw [g1] at h1; cases h1
    exact ⟨g2, g3⟩
theorem start_get {N : List Str} {vs : List V} {i : Nat} {v : V} (h : vs[i]? = some v) : (L2.start N vs)[i]? = some (some v) := by
  unfold L2.start
  have hl : i < vs.length := (List.getElem?_eq_some_iff.mp h).1
  rw [List.getElem?_append_left (by rw [List.length_map]; exact hl), List.getElem?_map, h]
  rfl
theorem pad_get {as : List SV} {n i : Nat} {s : SV} (h : (as ++ List.replicate n SV.un)[i]? = some s) : s = .un ∨ as[i]? = some s := by
  by_cases hl : i < as.length
  · rw [List.getElem?_append_left hl] at h; exact .inr h
  · rw [List.getElem?_append_right (by omega)] at h
    rw [List.getElem?_replicate] at h
    split at h
    · cases h; exact .inl rfl
    · cases h
theorem pre_get {as : List SV} {n i : Nat} {s : SV} (h : as[i]? = some s) : (as ++ List.replicate n SV.un)[i]? = some s := by
  rw [List.getElem?_append_left (List.getElem?_eq_some_iff.mp h).1]
  exact h
/-- at a def's entry -/
theorem rel_start {ex : Bool} {K : PySem.W.Frag} {mg : Str → Option Value} {H F : Hp} {as : List SV} {vs : List V} {J : List Nat} {E : XK} {io : List (Nat × Addr)} {N : List Str} {n : Nat} (hn : vs.length = n) (hN : n ≤ N.length) (sm : Same F H) (ar : ArgsRel K F H as vs) (hJ : ∀ (i : Nat) s, as[i]? = some s → s.own = true → i ∈ J)
    (hio : ∀ p, p ∈ io ↔ ∃ s, as[p.1]? = some s ∧ s.own = true ∧ vs[p.1]? = some (.ref p.2)) : Rel K (mkC ex mg H F io J E) F (as ++ List.replicate (N.length - n) .un) (L2.start N vs) H where
  f0 := Same.refl F
  fh := sm
  fm := fun a o e _ => e
  al := fun a o e => ⟨o, e⟩
  nw := fun a o e => .inl ⟨o, e⟩
  len := by
    have := ar.len
    unfold L2.start
    rw [List.length_append, List.length_append, List.length_replicate, List.length_replicate, List.length_map, ar.len, hn]
  fr := fun i t e => by
    rcases pad_get e with q | q
    · cases q
    · obtain ⟨v, h1, h2⟩ := ar.fr i t q
      exact ⟨v, start_get h1, h2⟩
  ow := fun i s e o => by
    rcases pad_get e with q | q
    · subst q; cases o
    · obtain ⟨a, h1, h2, h3⟩ := ar.ow i s q o
      exact ⟨a, start_get h1, h2, h3, .inr ((hio (i, a)).mpr ⟨s, q, o, h1⟩)⟩
  dj := fun i j a s s' n e e' o o' x y => by
    rcases pad_get e with q | q
    · subst q; cases o
    · rcases pad_get e' with q' | q'
      · subst q'; cases o'
      · obtain ⟨a1, h1, _⟩ := ar.ow i s q o
        obtain ⟨a2, h2, _⟩ := ar.ow j s' q' o'
        have x1 := start_get (N := N) h1
        have y1 := start_get (N := N) h2
        rw [x] at x1; rw [y] at y1
        cases x1; cases y1
        exact ar.dj i j a s s' n q q' o o' h1 h2
  io := fun p hp => by
    obtain ⟨s, h1, h2, h3⟩ := (hio p).mp hp
    exact start_get h3
  jx := fun p hp => by
    obtain ⟨s, h1, h2, h3⟩ := (hio p).mp hp
    exact hJ p.1 s h1 h2
  tm := fun p hp => by cases hp
  tn := fun p hp => by cases hp
section
variable {P : Program} {w : World} {K : PySem.W.Frag} {mg : Str → Option Value} {base : Heap}
theorem sem_body {ex : Bool} {N : List Str} {vs : List V} {n : Nat} {J : List Nat} {g : M Fl} {H : Hp} {Q : VK} {E : XK} (hN : n ≤ N.length) (h : spD ex K mg n J (runD (N.length - n) g) vs H Q E) :
    ∃ F io, tS K (mkC ex mg H F io J E) g { nx := fun _ H' => Q .non H', rt := Q } (L2.start N vs) H := by
  obtain ⟨F, as, hn, sm, ar, hJ, h⟩ := h
  have hio := @mem_io as vs
  have r := rel_start (ex := ex) (mg := mg) (E := E) hn hN sm ar hJ (fun p => hio (p := p))
  refine ⟨F, ioOf as vs, F, _, r, ?_⟩
  unfold runD at h
  cases q : g (as ++ List.replicate (N.length - n) .un) with
  | bad => rw [q] at h; exact h
  | exc c ls' =>
    rw [q] at h
    exact fun σ' H' F' e r' => ⟨h.1, fun a ha => h.2.2 H' F' (callPost_of (fun p => hio (p := p)) r') a ha⟩
  | ok fl ls' =>
    rw [q] at h
    intro σ' H' F' e r'
    have cp := callPost_of (fun p => hio (p := p)) r'
    have k := h.2 H' F' cp
    cases fl with
    | nx => exact k
    | rt t => exact k
    | ro s => exact fun a f => k a f.own f.rel f.ff f.h0
    | bk => exact k.elim
    | ct => exact k.elim
/-- a def that raises nothing -/
theorem def_ok {x qual : Str} {params : Arguments} {body : List Stmt} {scope : Scope} {f : Addr} {fd : FuncData} {N ps : List Str} {k : Nat} (F : FunD K x qual params body scope [] [] f fd) (S : FnScope N ps scope) (J : List Nat) (g : M Fl) (hN : ps.length ≤ N.length)
    (hbody : ∀ (cdv : Value) (A : Around) (outer : List Env) (s : Shared) (H : Hp) (E : XK) (F0 : Hp) (io : List (Nat × Addr)), Room k (A.deeper (envOfC qual scope s.heap.objs.size f cdv)) →
      PSs (cxOf CX0 P w K mg base N qual scope f cdv A outer s H E).nox body (tS K (mkC false mg H F0 io J E) g)) :
    FnOk P w K mg base CX0 (k + 1) f fd ps (spD false K mg ps.length J (runD (N.length - ps.length) g)) :=
  F.ok S (fun vs H Q E h => by obtain ⟨F, as, hn, _⟩ := h; exact hn) fun cdv A outer s H vs Q E hr h => by
    obtain ⟨F0, io, q⟩ := sem_body hN h
    exact ⟨_, PSs.nox (hbody cdv A outer s H E F0 io hr), q⟩
end

/-! ### calls of defs -/
theorem slAt_mem : ∀ (avs : List AV) (k0 k i : Nat), (k, i) ∈ slAt k0 avs ↔ k0 ≤ k ∧ avs[k - k0]? = some (.sl i)
  | [], k0, k, i => by simp [slAt]
  | .fr t :: as, k0, k, i => by
    unfold slAt
    rw [slAt_mem as (k0 + 1) k i]
    constructor
    · rintro ⟨h1, h2⟩
      refine ⟨by omega, ?_⟩
      have : k - k0 = (k - (k0 + 1)) + 1 := by omega
      rw [this, List.getElem?_cons_succ]
      exact h2
    · rintro ⟨h1, h2⟩
      cases e : k - k0 with
      | zero => rw [e] at h2; cases h2
      | succ m =>
        rw [e, List.getElem?_cons_succ] at h2
        have : k - (k0 + 1) = m := by omega
        exact ⟨by omega, by rw [this]; exact h2⟩
  | .sl j :: as, k0, k, i => by
    unfold slAt
    rw [List.mem_cons, slAt_mem as (k0 + 1) k i]
    constructor
    · rintro (h | ⟨h1, h2⟩)
      · cases h; exact ⟨Nat.le_refl _, by rw [Nat.sub_self]; rfl⟩
      · refine ⟨by omega, ?_⟩
        have : k - k0 = (k - (k0 + 1)) + 1 := by omega
        rw [this, List.getElem?_cons_succ]
        exact h2
    · rintro ⟨h1, h2⟩
      cases e : k - k0 with
      | zero =>
        rw [e] at h2
        have h3 : AV.sl j = .sl i := Option.some.inj h2
        cases h3
        exact .inl (by rw [show k = k0 by omega])
      | succ m =>
        rw [e, List.getElem?_cons_succ] at h2
        have : k - (k0 + 1) = m := by omega
        exact .inr ⟨by omega, by rw [this]; exact h2⟩
theorem argSVs_get : ∀ {ls : LS} {avs : List AV} {as : List SV}, argSVs ls avs = some as → as.length = avs.length ∧ ∀ (k : Nat) a, avs[k]? = some a → ∃ s, as[k]? = some s ∧ argSV ls a = some s
  | ls, [], as, h => by cases h; exact ⟨rfl, fun k a e => by simp at e⟩
  | ls, a :: avs, as, h => by
    unfold argSVs at h
    cases q1 : argSV ls a with
    | none => rw [q1] at h; cases h
    | some s =>
      cases q2 : argSVs ls avs with
      | none => rw [q1, q2] at h; cases h
      | some ss =>
        rw [q1, q2] at h
        cases h
        obtain ⟨h1, h2⟩ := argSVs_get q2
        refine ⟨congrArg (· + 1) h1, fun k b e => ?_⟩
        cases k with
        | zero => cases e; exact ⟨s, rfl, q1⟩
        | succ k => exact h2 k b (by simpa using e)
theorem arg_fr {ls : LS} {a : AV} {t : D} (h : argSV ls a = some (.fr t)) : a = .fr t := by
  cases a with
  | fr u => cases h; rfl
  | sl i =>
    unfold argSV at h
    cases q : ls[i]? with
    | none => simp only [q] at h; cases h
    | some s =>
      simp only [q] at h
      cases q2 : s.own with
      | true => simp only [q2] at h; cases h; cases q2
      | false => simp only [q2] at h; cases h
theorem arg_own {ls : LS} {a : AV} {s : SV} (h : argSV ls a = some s) (o : s.own = true) : ∃ i, a = .sl i ∧ ls[i]? = some s := by
  cases a with
  | fr u => cases h; cases o
  | sl i =>
    unfold argSV at h
    cases q : ls[i]? with
    | none => simp only [q] at h; cases h
    | some s2 =>
      simp only [q] at h
      cases q2 : s2.own with
      | true => simp only [q2] at h; cases h; exact ⟨i, rfl, q⟩
      | false => simp only [q2] at h; cases h
theorem as_get {ls : LS} {avs : List AV} {as : List SV} (h : argSVs ls avs = some as) {k : Nat} {s : SV} (e : as[k]? = some s) : ∃ a, avs[k]? = some a ∧ argSV ls a = some s := by
  obtain ⟨h1, h2⟩ := argSVs_get h
  have hk : k < avs.length := by rw [← h1]; exact (List.getElem?_eq_some_iff.mp e).1
  obtain ⟨s', e1, e2⟩ := h2 k _ (List.getElem?_eq_getElem hk)
  rw [e] at e1; cases e1
  exact ⟨_, List.getElem?_eq_getElem hk, e2⟩
section
variable {K : PySem.W.Frag} {C : CC} {F H : Hp} {ls : LS} {σ : L2.St} {avs : List AV} {vs : List V} {as : List SV}
theorem own_at (ha : argSVs ls avs = some as) {k : Nat} {s : SV} (e : as[k]? = some s) (o : s.own = true) : ∃ i, (k, i) ∈ slAt 0 avs ∧ avs[k]? = some (.sl i) ∧ ls[i]? = some s := by
  obtain ⟨a, e1, e2⟩ := as_get ha e
  obtain ⟨i, rfl, e3⟩ := arg_own e2 o
  exact ⟨i, (slAt_mem avs 0 k i).mpr ⟨Nat.zero_le _, by rw [Nat.sub_zero]; exact e1⟩, e1, e3⟩
theorem call_args (r : Rel K C F ls σ H) (av : AVs K F σ avs vs) (ha : argSVs ls avs = some as) (one : (slAt 0 avs).length ≤ 1) : ArgsRel K F H as vs where
  len := (argSVs_get ha).1.trans av.len
  fr := fun k t e => by
    obtain ⟨a, e1, e2⟩ := as_get ha e
    have := arg_fr e2
    subst this
    exact av.fr k t e1
  ow := fun k s e o => by
    obtain ⟨i, _, e1, e2⟩ := own_at ha e o
    obtain ⟨a, h1, h2, h3, h4⟩ := r.ow i s e2 o
    obtain ⟨v, g1, g2⟩ := av.sl k i e1
    rw [h1] at g2; cases g2
    exact ⟨a, g1, h2, h3⟩
  dj := fun k j a s s' n e e' o o' _ => by
    obtain ⟨i1, m1, _⟩ := own_at ha e o
    obtain ⟨i2, m2, _⟩ := own_at ha e' o'
    exfalso
    cases q : slAt 0 avs with
    | nil => rw [q] at m1; cases m1
    | cons p ps =>
      rw [q] at m1 m2 one
      have : ps = [] := List.eq_nil_of_length_eq_zero (by simpa using one)
      subst this
      have z1 := List.mem_singleton.mp m1
      have z2 := List.mem_singleton.mp m2
      rw [← z1] at z2
      exact n (congrArg Prod.fst z2).symm
theorem call_back {ls2 ls3 : LS} {F' H' : Hp} (r : Rel K C F ls σ H) (av : AVs K F σ avs vs) (ha : argSVs ls avs = some as) (cp : CallPost K F H as vs ls2 F' H') (hb : backD avs ls2 ls = some ls3) : Rel K C F' ls3 σ H' := by
  unfold backD at hb
  cases q : slAt 0 avs with
  | nil =>
    rw [q] at hb
    cases hb
    refine r.grow ⟨cp.ff, fun b o e => cp.fm b o e fun i s e1 o1 => ?_, cp.fh, cp.nw⟩
    obtain ⟨j, m, _⟩ := own_at ha e1 o1
    rw [q] at m; cases m
  | cons p ps =>
    cases ps with
    | cons p2 ps => rw [q] at hb; cases hb
    | nil =>
      obtain ⟨k, i⟩ := p
      rw [q] at hb
      cases q2 : ls2[k]? with
      | none => simp only [q2] at hb; cases hb
      | some s' =>
        cases q3 : s'.own with
        | false => simp only [q2, q3] at hb; cases hb
        | true =>
          simp only [q2, q3] at hb
          cases hb
          have hk : avs[k]? = some (.sl i) := by
            have := (slAt_mem avs 0 k i).mp (by rw [q]; exact List.mem_singleton.mpr rfl)
            simpa using this.2
          obtain ⟨s, e1, e2⟩ := (argSVs_get ha).2 k _ hk
          have ⟨e3, e4⟩ : ls[i]? = some s ∧ s.own = true := by
            unfold argSV at e2
            cases z : ls[i]? with
            | none => simp only [z] at e2; cases e2
            | some s2 =>
              simp only [z] at e2
              cases z2 : s2.own with
              | true => simp only [z2] at e2; cases e2; exact ⟨rfl, z2⟩
              | false => simp only [z2] at e2; cases e2
          obtain ⟨a, h1, h2, h3, h4⟩ := r.ow i s e3 e4
          obtain ⟨v, g1, g2⟩ := av.sl k i hk
          rw [h1] at g2; cases g2
          obtain ⟨c1, c2⟩ := cp.io k s a e1 e4 g1 s' q2 q3
          obtain ⟨o', ho'⟩ := c1.some
          -- first the growth, then the change at a
          have gr : Grow F H F' (fun b => if b = a then H a else H' b) := by
            refine ⟨cp.ff, fun b o e => ?_, fun b o e => ?_, cp.nw⟩
            · by_cases hb : b = a
              · subst hb; simp only [if_true]; exact e
              · simp only [if_neg hb]
                refine cp.fm b o e fun j u f1 f2 f3 => ?_
                obtain ⟨i2, m, f4, _⟩ := own_at ha f1 f2
                rw [q] at m
                have z := List.mem_singleton.mp m
                cases z
                rw [g1] at f3; cases f3
                exact hb rfl
            · have hb : b ≠ a := ne_of_none e c2
              simp only [if_neg hb]
              exact cp.fh b o e
          have r2 := r.grow gr
          have eH : upd (fun b => if b = a then H a else H' b) a o' = H' := by
            funext b
            by_cases hb : b = a
            · subst hb; rw [upd_same, ho']
            · rw [upd_ne hb]; simp only [if_neg hb]
          have r3 := r2.write (o := o') e3 e4 q3 h1 (by rw [eH]; exact c1)
          rw [eH] at r3
          exact r3
end
section
variable {X : Cx} {C : CC} {e : Expr} {es : List Expr} {f : M (List AV)} {x : Str} {pos p : Pos} {CXt : CXT} {k : Nat} {fa : Addr} {fd : FuncData} {ps : List Str} {J : List Nat} {sem : List SV → R Fl} {E : XK}
theorem back_own {avs : List AV} {as : List SV} {ls ls2 ls3 : LS} (ha : argSVs ls avs = some as) (hb : backD avs ls2 ls = some ls3) : ownEnd as ls2 ∧ (slAt 0 avs).length ≤ 1 := by
  unfold backD at hb
  cases q : slAt 0 avs with
  | nil =>
    refine ⟨fun i s e o => ?_, Nat.zero_le _⟩
    obtain ⟨j, m, _⟩ := own_at ha e o
    rw [q] at m; cases m
  | cons p ps =>
    cases ps with
    | cons p2 ps => rw [q] at hb; cases hb
    | nil =>
      refine ⟨fun i s e o => ?_, Nat.le_refl _⟩
      obtain ⟨j, m, _⟩ := own_at ha e o
      rw [q] at m hb
      have z := List.mem_singleton.mp m
      subst z
      cases q2 : ls2[i]? with
      | none => simp only [q2] at hb; cases hb
      | some s' =>
        cases q3 : s'.own with
        | false => simp only [q2, q3] at hb; cases hb
        | true => exact ⟨s', rfl, q3⟩
/-- the callee's promise from the caller's reading -/
theorem call_sp {ex : Bool} {Q : VK} {σ : L2.St} {H F0 F1 : Hp} {l1 : LS} {vs : List V} {avs : List AV} {α : Type} {P : α → LS → Prop} {h : Fl → M α} (e1 : Same F0 F1) (r1 : Rel X.K C F1 l1 σ H) (p1 : AVs X.K F1 σ avs vs) (hn : ps.length = ps.length)
    (hE : ex = true → ∀ c σ H' a, C.E c σ H' → X.mg c = some (.ref a) → E (.ref a) none H') (hl : vs.length = ps.length)
    (h1 : post X.K C F1 σ (bnd (runCall ex J sem avs) h l1) P)
    (kn : ∀ ls' H' F', Same F1 F' → Rel X.K C F' ls' σ H' → post X.K C F1 σ (h .nx ls') P → Q .non H')
    (kr : ∀ t ls' v H' F', Same F1 F' → Rel X.K C F' ls' σ H' → Rp X.K F' v t → post X.K C F1 σ (h (.rt t) ls') P → Q v H')
    (ko : ∀ s ls' a H' F', Same F1 F' → Rel X.K C F' ls' σ H' → Fresh X.K C F' ls' σ H' s a → post X.K C F1 σ (h (.ro s) ls') P → Q (.ref a) H')
    (kb : ∀ ls', ¬ post X.K C F1 σ (h .bk ls') P) (kc : ∀ ls', ¬ post X.K C F1 σ (h .ct ls') P) : spD ex X.K X.mg ps.length J sem vs H Q E := by
  have h2 := post_bnd.mp h1
  unfold runCall at h2
  cases q0 : (slAt 0 avs).all fun p => J.contains p.1 with
  | false => simp only [q0, gd] at h2; exact h2.elim
  | true =>
    simp only [q0, gd] at h2
    cases q1 : argSVs l1 avs with
    | none => simp only [q1] at h2; exact h2.elim
    | some as =>
      simp only [q1] at h2
      have hJ : ∀ (i : Nat) s, as[i]? = some s → s.own = true → i ∈ J := fun i s e o => by
        obtain ⟨j, m, _⟩ := own_at q1 e o
        have := List.all_eq_true.mp q0 _ m
        exact List.contains_iff_mem.mp this
      cases q2 : sem as with
      | bad => simp only [q2] at h2; exact h2.elim
      | exc c ls2 =>
        cases ex with
        | false => simp only [q2] at h2; exact h2.elim
        | true =>
          simp only [q2] at h2
          cases q3 : backD avs ls2 l1 with
          | none => simp only [q3] at h2; exact h2.elim
          | some ls3 =>
            simp only [q3] at h2
            obtain ⟨b1, b2⟩ := back_own q1 q3
            refine ⟨F1, as, hl, r1.fh, call_args r1 p1 q1 b2, hJ, ?_⟩
            simp only [q2]
            exact ⟨trivial, b1, fun H' F' cp a ha => hE rfl c σ H' a (h2 H' F' cp.ff (call_back r1 p1 q1 cp q3)) ha⟩
      | ok fl ls2 =>
        simp only [q2] at h2
        cases q3 : backD avs ls2 l1 with
        | none => simp only [q3] at h2; exact h2.elim
        | some ls3 =>
          simp only [q3] at h2
          obtain ⟨b1, b2⟩ := back_own q1 q3
          refine ⟨F1, as, hl, r1.fh, call_args r1 p1 q1 b2, hJ, ?_⟩
          simp only [q2]
          refine ⟨b1, fun H' F' cp => ?_⟩
          have r2 := call_back r1 p1 q1 cp q3
          cases fl with
          | nx => exact kn ls3 H' F' cp.ff r2 h2
          | rt t => exact fun v pv => kr t ls3 v H' F' cp.ff r2 pv h2
          | ro s =>
            intro a o c1 c2 c3
            have n0 : C.H0 a = none := by
              cases z : C.H0 a with
              | none => rfl
              | some u =>
                obtain ⟨u', z'⟩ := r1.al a u z
                rw [c3] at z'; cases z'
            have nt : ∀ p ∈ C.tp, p.1 ≠ a := fun p hp z => by
              have := (r1.tm p hp).1
              rw [z, c3] at this; cases this
            refine ko s ls3 a H' F' cp.ff r2 ⟨o, c1, c2, n0, fun i s' e o' z => ?_, nt⟩ h2
            -- a slot's own thing stood ahead of the call
            have : ∃ s0, l1[i]? = some s0 ∧ s0.own = true := by
              unfold backD at q3
              cases y : slAt 0 avs with
              | nil => rw [y] at q3; cases q3; exact ⟨s', e, o'⟩
              | cons p0 ps0 =>
                cases ps0 with
                | cons p2 ps2 => rw [y] at q3; cases q3
                | nil =>
                  obtain ⟨k0, i0⟩ := p0
                  rw [y] at q3
                  cases y2 : ls2[k0]? with
                  | none => simp only [y2] at q3; cases q3
                  | some s2 =>
                    cases y3 : s2.own with
                    | false => simp only [y2, y3] at q3; cases q3
                    | true =>
                      simp only [y2, y3] at q3
                      cases q3
                      rcases set_get e with ⟨f1, f2, f3⟩ | ⟨f1, f2⟩
                      · subst f1
                        have hk : avs[k0]? = some (.sl i0) := by
                          have := (slAt_mem avs 0 k0 i0).mp (by rw [y]; exact List.mem_singleton.mpr rfl)
                          simpa using this.2
                        obtain ⟨s3, w1, w2⟩ := (argSVs_get q1).2 k0 _ hk
                        unfold argSV at w2
                        cases w3 : l1[i0]? with
                        | none => simp only [w3] at w2; cases w2
                        | some s4 =>
                          simp only [w3] at w2
                          cases w4 : s4.own with
                          | true => exact ⟨s4, rfl, w4⟩
                          | false => simp only [w4] at w2; cases w2
                      · exact ⟨s', f2, o'⟩
            obtain ⟨s0, y1, y2⟩ := this
            obtain ⟨b0, x1, x2, _⟩ := r1.ow i s0 y1 y2
            rw [z] at x1; cases x1
            obtain ⟨u, x3⟩ := x2.some
            rw [c3] at x3; cases x3
          | bk => exact (kb ls3 h2).elim
          | ct => exact (kc ls3 h2).elim
theorem tl_call {ex : Bool} (G : FnOk X.prog X.w X.K X.mg X.base CXt k fa fd ps (spD ex X.K X.mg ps.length J sem)) (hr : Room k X.A) (hg : Gl X x) (hm : X.mg x = some (.ref fa)) (hk : PySem.W.keepIn X.K (.ref fa) = true) (hb : Binds X.K fd ps []) (hx : Passes CXt X E)
    (hE : ex = true → ∀ c σ H' a, C.E c σ H' → X.mg c = some (.ref a) → E (.ref a) none H') (hl : (e :: es).length = ps.length) (ha : PA X (e :: es) (tAA X.K C f)) (hfl : ∀ ls avs ls', f ls = .ok avs ls' → avs.length = (e :: es).length)
    (hdb : (x == ("__debug__" : Str)) = false := by decide) (he : starEach (e :: es) X.env = (false, eval e X.env) :: starEach es X.env := by rfl) (hpl : (backTo pos (starEach es X.env)).any (·.1) = false := by rfl) :
    PE X (.Call (.Name x p) (e :: es) [] pos) (tE X.K C (mCallD ex J sem f)) := by
  refine peI (pe_call G hr hg hm hk hb .nil hx ha hdb he hpl) fun σ H Q ⟨F, ls, r, h⟩ => ?_
  have h0 := post_bnd.mp h
  refine ⟨F, ls, r, ?_⟩
  cases q : f ls with
  | bad => rw [q] at h0; exact h0
  | exc c l1 => rw [q] at h0; exact h0
  | ok avs l1 =>
    rw [q] at h0
    intro vs H1 F1 e1 r1 p1
    have h1 := post_imp (F' := F1) (show post X.K C F σ (bnd (runCall ex J sem avs) flD l1) _ from h0) e1 fun _ _ z => z
    rw [List.append_nil]
    refine call_sp (X := X) (Same.refl F1) r1 p1 rfl hE (by rw [← p1.len, hfl ls avs l1 q, hl]) h1 (fun ls' H' F' e' r' z => ?_) (fun t ls' v H' F' e' r' pv z => ?_) (fun s ls' a H' F' e' r' fr z => ?_) (fun ls' z => z) (fun ls' z => z)
    · exact z _ H' F' (e1.trans e') r' .non
    · exact z v H' F' (e1.trans e') r' pv
    · exact z.elim
theorem tl_callN {ex : Bool} (G : FnOk X.prog X.w X.K X.mg X.base CXt k fa fd ps (spD ex X.K X.mg ps.length J sem)) (hr : Room k X.A) (hg : Gl X x) (hm : X.mg x = some (.ref fa)) (hk : PySem.W.keepIn X.K (.ref fa) = true) (hb : Binds X.K fd ps []) (hx : Passes CXt X E)
    (hE : ex = true → ∀ c σ H' a, C.E c σ H' → X.mg c = some (.ref a) → E (.ref a) none H') (hl : (e :: es).length = ps.length) (ha : PA X (e :: es) (tAA X.K C f)) (hfl : ∀ ls avs ls', f ls = .ok avs ls' → avs.length = (e :: es).length)
    (hdb : (x == ("__debug__" : Str)) = false := by decide) (he : starEach (e :: es) X.env = (false, eval e X.env) :: starEach es X.env := by rfl) (hpl : (backTo pos (starEach es X.env)).any (·.1) = false := by rfl) :
    PE X (.Call (.Name x p) (e :: es) [] pos) (tN X.K C (mCallN ex J sem f)) := by
  refine peI (pe_call G hr hg hm hk hb .nil hx ha hdb he hpl) fun σ H Q ⟨F, ls, r, h⟩ => ?_
  have h0 := post_bnd.mp h
  refine ⟨F, ls, r, ?_⟩
  cases q : f ls with
  | bad => rw [q] at h0; exact h0
  | exc c l1 => rw [q] at h0; exact h0
  | ok avs l1 =>
    rw [q] at h0
    intro vs H1 F1 e1 r1 p1
    have h1 := post_imp (F' := F1) (show post X.K C F σ (bnd (runCall ex J sem avs) flN l1) _ from h0) e1 fun _ _ z => z
    rw [List.append_nil]
    refine call_sp (X := X) (Same.refl F1) r1 p1 rfl hE (by rw [← p1.len, hfl ls avs l1 q, hl]) h1 (fun ls' H' F' e' r' z => ?_) (fun t ls' v H' F' e' r' pv z => ?_) (fun s ls' a H' F' e' r' fr z => ?_) (fun ls' z => z) (fun ls' z => z)
    · exact z.elim
    · exact z.elim
    · exact z a H' F' (e1.trans e') r' fr
end
end Tz
namespace Tz
open PySem PySem.Spec PyProof.Rows L2

/-! ### builtins by values -/
def dLen : List D → Option D
  | [.list ds] => some (.int ds.length)
  | [.tuple ds] => some (.int ds.length)
  | [.str z] => gd (decide (z.length ≤ sizeLine)) (.int z.length)
  | _ => none
def dInt : List D → Option D
  | [.int i] => some (.int i)
  | [.bool b] => some (.int (if b then 1 else 0))
  | [.str z] => match PySem.intText? z with
    | some n => gd (decide (z.length ≤ 640)) (.int n)
    | none => none
  | _ => none
def dStr : List D → Option D
  | [.int i] => gd (decide (i.natAbs.log2 < 1920)) (.str (toString i))
  | _ => none
def dMax2 : List D → Option D
  | [.int i, .int j] => some (.int (if j > i then j else i))
  | _ => none
def dMin2 : List D → Option D
  | [.int i, .int j] => some (.int (if j < i then j else i))
  | _ => none
def boolsOf : List D → Option (List Bool)
  | [] => some []
  | .bool b :: ds => (boolsOf ds).map (b :: ·)
  | _ => none
def dAll : List D → Option D
  | [.list ds] => (boolsOf ds).map fun bs => .bool (bs.all id)
  | _ => none
def dAny : List D → Option D
  | [.list ds] => (boolsOf ds).map fun bs => .bool (bs.any id)
  | _ => none
def dTupOf : List D → Option D
  | [.list ds] => some (.tuple ds)
  | [.tuple ds] => some (.tuple ds)
  | _ => none
def strsOf : List D → Option (List Str)
  | [] => some []
  | .str x :: ds => (strsOf ds).map (x :: ·)
  | _ => none
section
variable {K : PySem.W.Frag} {F : Hp}
theorem bools_of : ∀ {ds : List D} {bs : List Bool} {xs : List V}, boolsOf ds = some bs → RpAll K F xs ds → xs = bs.map V.bl
  | [], _, _, h, r => by cases h; cases r; rfl
  | d :: ds, bs, _, h, r => by
    cases r with
    | cons r1 r2 =>
      cases d with
      | bool b =>
        simp only [boolsOf] at h
        cases q : boolsOf ds with
        | none => rw [q] at h; cases h
        | some cs =>
          rw [q] at h
          cases h
          cases r1
          rw [bools_of q r2]
          rfl
      | _ => cases h
theorem strs_of : ∀ {ds : List D} {bs : List Str} {xs : List V}, strsOf ds = some bs → RpAll K F xs ds → xs = bs.map V.str
  | [], _, _, h, r => by cases h; cases r; rfl
  | d :: ds, bs, _, h, r => by
    cases r with
    | cons r1 r2 =>
      cases d with
      | str b =>
        simp only [strsOf] at h
        cases q : strsOf ds with
        | none => rw [q] at h; cases h
        | some cs =>
          rw [q] at h
          cases h
          cases r1
          rw [strs_of q r2]
          rfl
      | _ => cases h
theorem rp_strs : ∀ (ys : List Str), RpAll K F (ys.map V.str) (ys.map PyData.str)
  | [] => .nil
  | y :: ys => .cons (.str y) (rp_strs ys)
theorem rp_one {vs : List V} {d : D} (h : RpAll K F vs [d]) : ∃ v, vs = [v] ∧ Rp K F v d := by
  cases h with
  | cons h1 h2 => cases h2; exact ⟨_, rfl, h1⟩
theorem rp_two {vs : List V} {d e : D} (h : RpAll K F vs [d, e]) : ∃ v w, vs = [v, w] ∧ Rp K F v d ∧ Rp K F w e := by
  cases h with
  | cons h1 h2 => cases h2 with | cons h3 h4 => cases h4; exact ⟨_, _, rfl, h1, h3⟩
end
section
variable {X : Cx}
theorem cD_len : CallR X (.builtin "len") (rC X.K dLen) := by
  intro pins s σ H vs us Q I r ⟨F, ts, t, sm, p, hg, k⟩
  match ts, p, hg with
  | [.list ds], p, hg =>
    cases hg
    obtain ⟨v, rfl, p1⟩ := rp_one p
    cases p1 with
    | @lst a xs _ h1 h2 => exact call_len_seq pins s σ H _ us Q I r ⟨a, xs, rfl, .inl (same_sql sm h1), by rw [h2.length]; exact k _ F H (.refl sm) (.int _)⟩
  | [.tuple ds], p, hg =>
    cases hg
    obtain ⟨v, rfl, p1⟩ := rp_one p
    cases p1 with
    | @tup a xs _ h1 h2 => exact call_len_seq pins s σ H _ us Q I r ⟨a, xs, rfl, .inr (same_sqt sm h1), by rw [h2.length]; exact k _ F H (.refl sm) (.int _)⟩
  | [.str z], p, hg =>
    obtain ⟨hz, rfl⟩ := gd_some hg
    obtain ⟨v, rfl, p1⟩ := rp_one p
    cases p1
    exact call_len_str pins s σ H _ us Q I r ⟨z, rfl, of_decide_eq_true hz, k _ F H (.refl sm) (.int _)⟩
theorem cD_int : CallR X (.type "int") (rC X.K dInt) := by
  intro pins s σ H vs us Q I r ⟨F, ts, t, sm, p, hg, k⟩
  match ts, p, hg with
  | [.int i], p, hg =>
    cases hg
    obtain ⟨v, rfl, p1⟩ := rp_one p
    cases p1
    exact call_int1 pins s σ H _ us Q I r (.inl ⟨i, rfl, k _ F H (.refl sm) (.int _)⟩)
  | [.bool b], p, hg =>
    cases hg
    obtain ⟨v, rfl, p1⟩ := rp_one p
    cases p1
    exact call_int1 pins s σ H _ us Q I r (.inr ⟨b, rfl, k _ F H (.refl sm) (.int _)⟩)
  | [.str z], p, hg =>
    obtain ⟨v, rfl, p1⟩ := rp_one p
    cases p1
    cases q : PySem.intText? z with
    | none => simp only [dInt, q] at hg; cases hg
    | some n =>
      simp only [dInt, q] at hg
      obtain ⟨hz, rfl⟩ := gd_some hg
      exact call_int_str pins s σ H _ us Q I r ⟨z, n, rfl, q, of_decide_eq_true hz, k _ F H (.refl sm) (.int _)⟩
theorem cD_str : CallR X (.type "str") (rC X.K dStr) := by
  intro pins s σ H vs us Q I r ⟨F, ts, t, sm, p, hg, k⟩
  match ts, p, hg with
  | [.int i], p, hg =>
    obtain ⟨hz, rfl⟩ := gd_some hg
    obtain ⟨v, rfl, p1⟩ := rp_one p
    cases p1
    exact call_str_int pins s σ H _ us Q I r ⟨i, rfl, of_decide_eq_true hz, k _ F H (.refl sm) (.str _)⟩
theorem cD_max2 (hc : X.calm = true) : CallR X (.builtin "max") (rC X.K dMax2) := by
  intro pins s σ H vs us Q I r ⟨F, ts, t, sm, p, hg, k⟩
  match ts, p, hg with
  | [.int i, .int j], p, hg =>
    cases hg
    obtain ⟨v, w, rfl, p1, p2⟩ := rp_two p
    cases p1; cases p2
    exact call_max2 hc pins s σ H _ us Q I r ⟨i, j, rfl, k _ F H (.refl sm) (.int _)⟩
theorem cD_min2 (hc : X.calm = true) : CallR X (.builtin "min") (rC X.K dMin2) := by
  intro pins s σ H vs us Q I r ⟨F, ts, t, sm, p, hg, k⟩
  match ts, p, hg with
  | [.int i, .int j], p, hg =>
    cases hg
    obtain ⟨v, w, rfl, p1, p2⟩ := rp_two p
    cases p1; cases p2
    exact call_min2 hc pins s σ H _ us Q I r ⟨i, j, rfl, k _ F H (.refl sm) (.int _)⟩
theorem cD_all (hc : X.calm = true) : CallR X (.builtin "all") (rC X.K dAll) := by
  intro pins s σ H vs us Q I r ⟨F, ts, t, sm, p, hg, k⟩
  match ts, p, hg with
  | [.list ds], p, hg =>
    cases q : boolsOf ds with
    | none => simp only [dAll, q] at hg; cases hg
    | some bs =>
      simp only [dAll, q] at hg
      cases hg
      obtain ⟨v, rfl, p1⟩ := rp_one p
      cases p1 with
      | @lst a xs _ h1 h2 =>
        have e := bools_of q h2
        subst e
        exact cr_all hc pins s σ H _ us Q I r ⟨a, bs, rfl, same_sql sm h1, k _ F H (.refl sm) (.bl _)⟩
theorem cD_any (hc : X.calm = true) : CallR X (.builtin "any") (rC X.K dAny) := by
  intro pins s σ H vs us Q I r ⟨F, ts, t, sm, p, hg, k⟩
  match ts, p, hg with
  | [.list ds], p, hg =>
    cases q : boolsOf ds with
    | none => simp only [dAny, q] at hg; cases hg
    | some bs =>
      simp only [dAny, q] at hg
      cases hg
      obtain ⟨v, rfl, p1⟩ := rp_one p
      cases p1 with
      | @lst a xs _ h1 h2 =>
        have e := bools_of q h2
        subst e
        exact cr_any hc pins s σ H _ us Q I r ⟨a, bs, rfl, same_sql sm h1, k _ F H (.refl sm) (.bl _)⟩
theorem cD_tuple : CallR X (.type "tuple") (rC X.K dTupOf) := by
  intro pins s σ H vs us Q I r ⟨F, ts, t, sm, p, hg, k⟩
  match ts, p, hg with
  | [.list ds], p, hg =>
    cases hg
    obtain ⟨v, rfl, p1⟩ := rp_one p
    cases p1 with
    | @lst a xs _ h1 h2 =>
      refine call_tuple_of pins s σ H _ us Q I r ⟨a, xs, rfl, .inl ⟨same_sql sm h1, fun l nl => ?_⟩⟩
      obtain ⟨gr, rp⟩ := newTup sm nl h2
      exact k _ _ _ gr rp
  | [.tuple ds], p, hg =>
    cases hg
    obtain ⟨v, rfl, p1⟩ := rp_one p
    cases p1 with
    | @tup a xs _ h1 h2 => exact call_tuple_of pins s σ H _ us Q I r ⟨a, xs, rfl, .inr ⟨same_sqt sm h1, k _ F H (.refl sm) (.tup h1 h2)⟩⟩

/-! ### list(x) -/
def mListOf (f : M D) : M SV := bnd f fun d => match d with
  | .list ds => ret (.ol ds)
  | .tuple ds => ret (.ol ds)
  | _ => bad
variable {C : CC} {e a b : Expr} {es : List Expr} {fe : M D} {pos p : Pos} {x : Str}
theorem tl_listOf (hg : Gl X "list") (hm : X.mg "list" = none) (he : PE X e (tE X.K C fe)) (hs : starEach [e] X.env = (false, eval e X.env) :: starEach [] X.env := by rfl) (hpl : (backTo pos (starEach [] X.env)).any (·.1) = false := by rfl) :
    PE X (.Call (.Name "list" p) [e] [] pos) (tN X.K C (mListOf fe)) := by
  refine peI (pe_callTy call_list_of hg hm PyProof.Rows.boot_list (pa_cons he pa_nil hs) (by decide) (by decide) hs hpl) fun σ H Q ⟨F, ls, r, h⟩ => thenE r h fun t l1 v1 H1 F1 e1 r1 p1 h1 => ?_
  cases p1 with
  | @lst a xs ds h1' h2 =>
    refine ⟨a, xs, rfl, .inl (same_sql r1.fh h1'), fun l nl => ?_⟩
    obtain ⟨r2, fr⟩ := r1.newOwn nl h2
    exact (endR h1) l _ F1 e1 r2 fr
  | @tup a xs ds h1' h2 =>
    refine ⟨a, xs, rfl, .inr (same_sqt r1.fh h1'), fun l nl => ?_⟩
    obtain ⟨r2, fr⟩ := r1.newOwn nl h2
    exact (endR h1) l _ F1 e1 r2 fr
  | _ => exact h1.elim

/-! ### isinstance by a built-in class -/
def isT : String → D → Bool
  | "int", .int _ => true
  | "int", .bool _ => true
  | "bool", .bool _ => true
  | "str", .str _ => true
  | "list", .list _ => true
  | "tuple", .tuple _ => true
  | _, _ => false
def tyN : D → String
  | .none => "NoneType"
  | .bool _ => "bool"
  | .int _ => "int"
  | .str _ => "str"
  | .list _ => "list"
  | .tuple _ => "tuple"
  | .dict _ => "dict"
theorem rp_ty {K : PySem.W.Frag} {F H : Hp} {v : V} {d : D} (sm : Same F H) (h : Rp K F v d) : TyX K H v (.type (tyN d)) := by
  cases h with
  | non => exact .base .non
  | bl b => exact .base (.bl b)
  | int i => exact .base (.int i)
  | str z => exact .base (.str z)
  | lst h1 h2 =>
    rcases h1 with (h1 | ⟨o, h1⟩) | ⟨o, its, n, hk, hc, hd, _⟩
    · exact .base (.lst (sm _ _ h1))
    · exact .base (.frz (sm _ _ h1))
    · exact .kList hk hc
  | tup h1 h2 =>
    rcases h1 with (h1 | ⟨o, h1⟩) | ⟨o, its, n, hk, hc, hd, _⟩
    · exact .base (.tup (sm _ _ h1))
    · exact .fTuple (sm _ _ h1)
    · exact .kTuple hk hc
theorem kits : (["int", "bool", "str", "list", "tuple"] : List String).all (fun T => (["NoneType", "bool", "int", "str", "list", "tuple"] : List String).all fun S => kitB S T == some (decide (S = T) || (decide (S = "bool") && decide (T = "int")))) = true := by decide +kernel
theorem kit_is {T : String} (hT : T ∈ (["int", "bool", "str", "list", "tuple"] : List String)) (d : D) (hd : ∀ kvs, d ≠ .dict kvs) : kitB (tyN d) T = some (isT T d) := by
  have h := List.all_eq_true.mp kits T hT
  have h2 : ∀ S ∈ (["NoneType", "bool", "int", "str", "list", "tuple"] : List String), kitB S T = some (decide (S = T) || (decide (S = "bool") && decide (T = "int"))) := fun S hS => by
    have := List.all_eq_true.mp h S hS
    simpa using this
  simp only [List.mem_cons, List.not_mem_nil, or_false] at hT
  cases d with
  | dict kvs => exact absurd rfl (hd kvs)
  | none => rcases hT with rfl | rfl | rfl | rfl | rfl <;> exact (h2 "NoneType" (by decide)).trans rfl
  | bool b => rcases hT with rfl | rfl | rfl | rfl | rfl <;> exact (h2 "bool" (by decide)).trans rfl
  | int b => rcases hT with rfl | rfl | rfl | rfl | rfl <;> exact (h2 "int" (by decide)).trans rfl
  | str b => rcases hT with rfl | rfl | rfl | rfl | rfl <;> exact (h2 "str" (by decide)).trans rfl
  | list b => rcases hT with rfl | rfl | rfl | rfl | rfl <;> exact (h2 "list" (by decide)).trans rfl
  | tuple b => rcases hT with rfl | rfl | rfl | rfl | rfl <;> exact (h2 "tuple" (by decide)).trans rfl
def mIsi (ts : String) (fe : M D) : M D := bnd fe fun d => ret (.bool (isT ts d))
theorem tl_isi {T : Str} {ts : String} {p2 : Pos} (hg : Gl X "isinstance") (hm : X.mg "isinstance" = none) (he : PE X e (tE X.K C fe)) (hgT : Gl X T) (hmT : X.mg T = none) (hvT : bootBuiltins T = some (.type ts)) (hT : ts ∈ (["int", "bool", "str", "list", "tuple"] : List String))
    (hnT : T ≠ "__name__" := by decide) (hdT : (T == ("__debug__" : Str)) = false := by decide)
    (hs : starEach [e, .Name T p2] X.env = (false, eval e X.env) :: starEach [.Name T p2] X.env := by rfl) (hs2 : starEach [.Name T p2] X.env = (false, eval (.Name T p2) X.env) :: starEach [] X.env := by rfl) (hpl : (backTo pos (starEach [.Name T p2] X.env)).any (·.1) = false := by rfl) :
    PE X (.Call (.Name "isinstance" p) [e, .Name T p2] [] pos) (tE X.K C (mIsi ts fe)) := by
  refine peI (pe_callB call_isi hg hm (by decide +kernel) (pa_cons he (pa_cons (pe_bltn (v := .ty ts) hgT hmT hvT rfl hnT hdT) pa_nil hs2) hs) (by decide) (by decide) hs hpl) fun σ H Q ⟨F, ls, r, h⟩ => thenE r h fun t l1 v1 H1 F1 e1 r1 p1 h1 => ?_
  refine ⟨v1, .ty ts, .type (tyN t), .type ts, isT ts t, rfl, .ty ts, rp_ty r1.fh p1, kit_ty (kit_is hT t fun kvs e => by subst e; cases p1), (endR h1) _ H1 F1 e1 r1 (.bl _)⟩

/-! ### methods of texts -/
def sSplit : D → List D → Option D
  | .str a, [.str b] => gd (!(b.length == 0) && decide (a.length + 2 ≤ sizeLine)) (.list ((Txt.split a b).map .str))
  | _, _ => none
def sPart : D → List D → Option D
  | .str a, [.str b] => gd (!(b.length == 0) && decide (a.length ≤ sizeLine)) (.tuple [.str (Txt.partition a b).1, .str (Txt.partition a b).2.1, .str (Txt.partition a b).2.2])
  | _, _ => none
def sJoin : D → List D → Option D
  | .str a, [.list ds] => match strsOf ds with
    | some ys => gd (decide ((ys.map (·.length)).sum + ys.length * a.length ≤ 16777216)) (.str (Txt.join a ys))
    | none => none
  | _, _ => none
def sFind : D → List D → Option D
  | .str a, [.str b] => some (.int (Txt.find a b))
  | _, _ => none
def sCount : D → List D → Option D
  | .str a, [.str b] => some (.int (Txt.count a b))
  | _, _ => none
theorem mD_split : MtR X "str.split" (rM X.K sSplit) := by
  intro pins s σ H x vs v us Q I rx rs ⟨F, tx, ts, t, sm, px, p, hg, k⟩
  match tx, ts, px, p, hg with
  | .str a, [.str b], px, p, hg =>
    obtain ⟨hz, rfl⟩ := gd_some hg
    rw [Bool.and_eq_true] at hz
    obtain ⟨w, rfl, p1⟩ := rp_one p
    cases px; cases p1
    refine mt_split pins s σ H _ _ v us Q I rx rs ⟨a, b, rfl, rfl, by simpa using hz.1, of_decide_eq_true hz.2, fun l nl => ?_⟩
    obtain ⟨gr, rp⟩ := newLst sm nl (rp_strs (K := X.K) (F := F) (Txt.split a b))
    exact k _ _ _ gr rp
theorem mD_part : MtR X "str.partition" (rM X.K sPart) := by
  intro pins s σ H x vs v us Q I rx rs ⟨F, tx, ts, t, sm, px, p, hg, k⟩
  match tx, ts, px, p, hg with
  | .str a, [.str b], px, p, hg =>
    obtain ⟨hz, rfl⟩ := gd_some hg
    rw [Bool.and_eq_true] at hz
    obtain ⟨w, rfl, p1⟩ := rp_one p
    cases px; cases p1
    refine mt_partition pins s σ H _ _ v us Q I rx rs ⟨a, b, rfl, rfl, by simpa using hz.1, of_decide_eq_true hz.2, fun l nl => ?_⟩
    obtain ⟨gr, rp⟩ := newTup (K := X.K) sm nl (.cons (.str (Txt.partition a b).1) (.cons (.str (Txt.partition a b).2.1) (.cons (.str (Txt.partition a b).2.2) .nil)))
    exact k _ _ _ gr rp
theorem mD_join : MtR X "str.join" (rM X.K sJoin) := by
  intro pins s σ H x vs v us Q I rx rs ⟨F, tx, ts, t, sm, px, p, hg, k⟩
  match tx, ts, px, p, hg with
  | .str a, [.list ds], px, p, hg =>
    cases q : strsOf ds with
    | none => simp only [sJoin, q] at hg; cases hg
    | some ys =>
      simp only [sJoin, q] at hg
      obtain ⟨hz, rfl⟩ := gd_some hg
      obtain ⟨w, rfl, p1⟩ := rp_one p
      cases px
      cases p1 with
      | @lst l xs _ h1 h2 =>
        have e := strs_of q h2
        subst e
        exact mt_join pins s σ H _ _ v us Q I rx rs ⟨a, l, ys, rfl, rfl, .inl (same_sql sm h1), of_decide_eq_true hz, k _ F H (.refl sm) (.str _)⟩
theorem mD_find : MtR X "str.find" (rM X.K sFind) := by
  intro pins s σ H x vs v us Q I rx rs ⟨F, tx, ts, t, sm, px, p, hg, k⟩
  match tx, ts, px, p, hg with
  | .str a, [.str b], px, p, hg =>
    cases hg
    obtain ⟨w, rfl, p1⟩ := rp_one p
    cases px; cases p1
    exact mt_find pins s σ H _ _ v us Q I rx rs ⟨a, b, rfl, rfl, k _ F H (.refl sm) (.int _)⟩
theorem mD_count : MtR X "str.count" (rM X.K sCount) := by
  intro pins s σ H x vs v us Q I rx rs ⟨F, tx, ts, t, sm, px, p, hg, k⟩
  match tx, ts, px, p, hg with
  | .str a, [.str b], px, p, hg =>
    cases hg
    obtain ⟨w, rfl, p1⟩ := rp_one p
    cases px; cases p1
    exact mt_count pins s σ H _ _ v us Q I rx rs ⟨a, b, rfl, rfl, k _ F H (.refl sm) (.int _)⟩
end
end Tz
namespace Tz
open PySem PySem.Spec PyProof.Rows L2
/-- a def of the text, as its callers take it (it raises nothing) -/
structure Cal (P : Program) (w : World) (K : PySem.W.Frag) (mg : Str → Option Value) (base : Heap) (lev : Nat) (x : Str) (ps : List Str) (J : List Nat) (sem : List SV → R Fl) : Prop where
  ex : ∃ f fd, FnOk P w K mg base CX0 lev f fd ps (spD false K mg ps.length J sem) ∧ mg x = some (.ref f) ∧ PySem.W.keepIn K (.ref f) = true ∧ Binds K fd ps []
theorem hu65 {k : Nat} {A : Around} (h : Room k A) : A.units + 65 < cLine := by have := h.un; omega
theorem fr_len {fe : M D} {f : M (List AV)} {n : Nat} (h : ∀ ls avs ls', f ls = .ok avs ls' → avs.length = n) : ∀ ls avs ls', aFr fe f ls = .ok avs ls' → avs.length = n + 1 := by
  intro ls avs ls' e
  unfold aFr bnd at e
  cases q : fe ls with
  | ok x l1 =>
    rw [q] at e
    simp only [] at e
    cases q2 : f l1 with
    | ok xs l2 => rw [q2] at e; cases e; exact congrArg (· + 1) (h _ _ _ q2)
    | exc c l2 => rw [q2] at e; cases e
    | bad => rw [q2] at e; cases e
  | exc c l1 => rw [q] at e; cases e
  | bad => rw [q] at e; cases e
theorem sl_len {i : Nat} {f : M (List AV)} {n : Nat} (h : ∀ ls avs ls', f ls = .ok avs ls' → avs.length = n) : ∀ ls avs ls', aSlO i f ls = .ok avs ls' → avs.length = n + 1 := by
  intro ls avs ls' e
  unfold aSlO bnd at e
  cases q : ls[i]? with
  | none => rw [q] at e; cases e
  | some s =>
    rw [q] at e
    cases q3 : s.own with
    | false => simp only [q3] at e; cases e
    | true =>
      simp only [q3] at e
      cases q2 : f ls with
      | ok xs l2 => rw [q2] at e; cases e; exact congrArg (· + 1) (h _ _ _ q2)
      | exc c l2 => rw [q2] at e; cases e
      | bad => rw [q2] at e; cases e
theorem nil_len : ∀ ls avs ls', aNil ls = .ok avs ls' → avs.length = 0 := by
  intro ls avs ls' e
  cases e
  rfl
section
variable {X : Cx} {C : CC} {e : Expr} {es : List Expr} {f : M (List AV)} {x : Str} {pos p : Pos} {lev : Nat} {ps : List Str} {J : List Nat} {sem : List SV → R Fl}
theorem tl_c (c : Cal X.prog X.w X.K X.mg X.base lev x ps J sem) (hr : Room lev X.A) (hg : Gl X x) (ha : PA X (e :: es) (tAA X.K C f)) (hfl : ∀ ls avs ls', f ls = .ok avs ls' → avs.length = (e :: es).length) (hl : (e :: es).length = ps.length := by rfl)
    (hdb : (x == ("__debug__" : Str)) = false := by decide) (he : starEach (e :: es) X.env = (false, eval e X.env) :: starEach es X.env := by rfl) (hpl : (backTo pos (starEach es X.env)).any (·.1) = false := by rfl) :
    PE X (.Call (.Name x p) (e :: es) [] pos) (tE X.K C (mCallD false J sem f)) := by
  obtain ⟨fa, fd, G, hm, hk, hb⟩ := c.ex
  exact tl_call (E := E0) G hr hg hm hk hb pass0 (fun z => by cases z) hl ha hfl hdb he hpl
theorem tl_cN (c : Cal X.prog X.w X.K X.mg X.base lev x ps J sem) (hr : Room lev X.A) (hg : Gl X x) (ha : PA X (e :: es) (tAA X.K C f)) (hfl : ∀ ls avs ls', f ls = .ok avs ls' → avs.length = (e :: es).length) (hl : (e :: es).length = ps.length := by rfl)
    (hdb : (x == ("__debug__" : Str)) = false := by decide) (he : starEach (e :: es) X.env = (false, eval e X.env) :: starEach es X.env := by rfl) (hpl : (backTo pos (starEach es X.env)).any (·.1) = false := by rfl) :
    PE X (.Call (.Name x p) (e :: es) [] pos) (tN X.K C (mCallN false J sem f)) := by
  obtain ⟨fa, fd, G, hm, hk, hb⟩ := c.ex
  exact tl_callN (E := E0) G hr hg hm hk hb pass0 (fun z => by cases z) hl ha hfl hdb he hpl
theorem tl_pts0 : PTs X [] (tP X.K C (ret true)) := ⟨fun pins s σ H Q I ⟨F, ls, r, h⟩ => pts_nil.run pins s σ H Q I (h H F (Same.refl F) r)⟩
theorem tl_pts1 {tc : M Bool} {c : Expr} (h : PT X c (tP X.K C tc)) : PTs X [c] (tP X.K C tc) := pts_one h
end
/-- from a def to its callers -/
theorem cal_mk {P : Program} {w : World} {K : PySem.W.Frag} {mg : Str → Option Value} {base : Heap} {k : Nat} {x : Str} {N ps : List Str} {params : Arguments} {body : List Stmt} {scope : Scope} {f : Addr} {fd : FuncData} (F : FunD K x x params body scope [] [] f fd) (hm : mg x = some (.ref f)) (S : FnScope N ps scope) (J : List Nat) (g : M Fl)
    (hb : ∀ (kV doc pm : Value) (an : Option Addr) (cdv ct : Value) (us : List Value), us.length = ps.length → bindArgs (PySem.W.fnOf x x params body scope .none kV doc pm an cdv ct) ⟨us, []⟩ = pure (ps.zip us))
    (hbody : ∀ (cdv : Value) (A : Around) (outer : List Env) (s : Shared) (H : Hp) (E : XK) (F0 : Hp) (io : List (Nat × Addr)), Room k (A.deeper (envOfC x scope s.heap.objs.size f cdv)) →
      PSs (cxOf CX0 P w K mg base N x scope f cdv A outer s H E).nox body (tS K (mkC false mg H F0 io J E) g)) (hN : ps.length ≤ N.length := by decide) : Cal P w K mg base (k + 1) x ps J (runD (N.length - ps.length) g) :=
  ⟨f, fd, def_ok F S J g hN hbody, hm, F.kp, F.bindsN hb⟩
end Tz
namespace Tz
open PySem PySem.Spec PyProof.Rows L2
/-! ### own lists lent for the time of an expression that changes nothing and hands back no list -/
def lend : LS → LS
  | [] => []
  | .ol ts :: r => .fr (.list ts) :: lend r
  | .fr t :: r => .fr t :: lend r
  | _ :: r => .un :: lend r
mutual
def noLst : D → Bool
  | .list _ => false
  | .dict _ => false
  | .tuple ts => noLsts ts
  | _ => true
def noLsts : List D → Bool
  | [] => true
  | t :: ts => noLst t && noLsts ts
end
def bor (f : M D) : M D := fun ls => match f (lend ls) with
  | .ok t _ => match noLst t with
    | true => .ok t ls
    | false => .bad
  | _ => .bad
def borT (f : M Bool) : M Bool := fun ls => match f (lend ls) with
  | .ok t _ => .ok t ls
  | _ => .bad
def mkB (H F : Hp) : CC := ⟨H, F, [], [], [], fun _ _ _ => False⟩
theorem lend_get : ∀ {ls : LS} {i : Nat} {s : SV}, (lend ls)[i]? = some s → s = .un ∨ (∃ t, s = .fr t ∧ ls[i]? = some (.fr t)) ∨ ∃ ts, s = .fr (.list ts) ∧ ls[i]? = some (.ol ts)
  | [], _, _, h => by simp [lend] at h
  | s0 :: r, 0, s, h => by
    cases s0 with
    | ol ts => simp [lend] at h; exact .inr (.inr ⟨ts, h.symm, rfl⟩)
    | fr t => simp [lend] at h; exact .inr (.inl ⟨t, h.symm, rfl⟩)
    | un => simp [lend] at h; exact .inl h.symm
    | od _ => simp [lend] at h; exact .inl h.symm
  | s0 :: r, i + 1, s, h => by
    have h' : (lend r)[i]? = some s := by cases s0 <;> simpa [lend] using h
    simpa using lend_get h'
theorem lend_len : ∀ ls : LS, (lend ls).length = ls.length
  | [] => rfl
  | s :: r => by cases s <;> exact congrArg (· + 1) (lend_len r)
section
open Classical
variable {K : PySem.W.Frag} {C : CC} {F H : Hp} {ls : LS} {σ : L2.St}
def OwnA (ls : LS) (σ : L2.St) (b : Addr) : Prop := ∃ (i : Nat) (ts : List D), ls[i]? = some (.ol ts) ∧ σ[i]? = some (some (.ref b))
noncomputable def lentF (ls : LS) (σ : L2.St) (F H : Hp) : Hp := fun b => if OwnA ls σ b then H b else F b
noncomputable def backF (ls : LS) (σ : L2.St) (F : Hp) : Hp := fun b => if OwnA ls σ b then none else F b
theorem own_no (r : Rel K C F ls σ H) {b : Addr} (h : OwnA ls σ b) : F b = none ∧ ∃ xs, H b = some (.lst xs) := by
  obtain ⟨i, ts, e1, e2⟩ := h
  obtain ⟨a, h1, ⟨xs, h2, _⟩, h3, _⟩ := r.ow i _ e1 rfl
  rw [e2] at h1; cases h1
  exact ⟨h3, xs, h2⟩
theorem lent_same (r : Rel K C F ls σ H) : Same F (lentF ls σ F H) := fun b o e => by
  unfold lentF
  rw [if_neg fun h => by rw [(own_no r h).1] at e; cases e]
  exact e
theorem lent_rel (r : Rel K C F ls σ H) : Rel K (mkB H (lentF ls σ F H)) (lentF ls σ F H) (lend ls) σ H where
  f0 := Same.refl _
  fh := fun b o e => by
    unfold lentF at e
    by_cases h : OwnA ls σ b
    · rw [if_pos h] at e; exact e
    · rw [if_neg h] at e; exact r.fh b o e
  fm := fun a o e _ => e
  al := fun a o e => ⟨o, e⟩
  nw := fun a o e => .inl ⟨o, e⟩
  len := by rw [lend_len]; exact r.len
  fr := fun i t e => by
    rcases lend_get e with q | ⟨u, q, q2⟩ | ⟨ts, q, q2⟩
    · cases q
    · cases q
      obtain ⟨v, h1, h2⟩ := r.fr i t q2
      exact ⟨v, h1, h2.mono (lent_same r)⟩
    · cases q
      obtain ⟨a, h1, ⟨xs, h2, h3⟩, h4, _⟩ := r.ow i _ q2 rfl
      refine ⟨_, h1, .lst (.inl (.inl ?_)) (h3.mono (lent_same r))⟩
      unfold lentF
      rw [if_pos ⟨i, ts, q2, h1⟩]
      exact h2
  ow := fun i s e o => by
    rcases lend_get e with q | ⟨u, q, q2⟩ | ⟨ts, q, q2⟩ <;> (subst q; cases o)
  dj := fun i j a s s' n e e' o o' => by
    rcases lend_get e with q | ⟨u, q, q2⟩ | ⟨ts, q, q2⟩ <;> (subst q; cases o)
  io := fun p hp => by cases hp
  jx := fun p hp => by cases hp
  tm := fun p hp => by cases hp
  tn := fun p hp => by cases hp
theorem back_grow {F' H' : Hp} {l' : LS} (r : Rel K C F ls σ H) (r' : Rel K (mkB H (lentF ls σ F H)) F' l' σ H') : Grow F H (backF ls σ F') H' where
  ff := fun b o e => by
    unfold backF
    rw [if_neg fun h => by rw [(own_no r h).1] at e; cases e]
    exact r'.f0 b o (lent_same r b o e)
  hh := fun b o e => r'.fm b o e fun p hp => by cases hp
  fh := fun b o e => by
    unfold backF at e
    by_cases h : OwnA ls σ b
    · rw [if_pos h] at e; cases e
    · rw [if_neg h] at e; exact r'.fh b o e
  nw := fun b o e => by
    unfold backF at e
    by_cases h : OwnA ls σ b
    · rw [if_pos h] at e; cases e
    · rw [if_neg h] at e
      rcases r'.nw b o e with ⟨u, q⟩ | q
      · have q' : lentF ls σ F H b = some u := q
        unfold lentF at q'
        rw [if_neg h] at q'
        exact .inl ⟨u, q'⟩
      · exact .inr q
mutual
theorem back_rp {F' H' : Hp} {l' : LS} (r : Rel K C F ls σ H) (r' : Rel K (mkB H (lentF ls σ F H)) F' l' σ H') : ∀ {t : D} {v : V}, noLst t = true → Rp K F' v t → Rp K (backF ls σ F') v t
  | .none, _, _, h => by cases h; exact .non
  | .bool b, _, _, h => by cases h; exact .bl b
  | .int i, _, _, h => by cases h; exact .int i
  | .str x, _, _, h => by cases h; exact .str x
  | .list ds, _, n, h => by simp [noLst] at n
  | .tuple ds, _, n, h => by
    cases h with
    | @tup a xs _ h1 h2 =>
      refine .tup ?_ (back_rps r r' (by simpa [noLst] using n) h2)
      have go : ∀ o, F' a = some o → (∀ xs, o ≠ .lst xs) → backF ls σ F' a = some o := fun o e no => by
        unfold backF
        rw [if_neg fun h => ?_]
        · exact e
        · obtain ⟨_, ys, q⟩ := own_no r h
          have q1 := r'.fm a _ q fun p hp => by cases hp
          have q2 := r'.fh a o e
          rw [q1] at q2
          exact no ys (Option.some.inj q2).symm
      rcases h1 with (h1 | ⟨o, h1⟩) | h1
      · exact .inl (.inl (go _ h1 fun xs z => by cases z))
      · exact .inl (.inr ⟨o, go _ h1 fun xs z => by cases z⟩)
      · exact .inr h1
  | .dict _, _, n, h => by cases h
theorem back_rps {F' H' : Hp} {l' : LS} (r : Rel K C F ls σ H) (r' : Rel K (mkB H (lentF ls σ F H)) F' l' σ H') : ∀ {ts : List D} {vs : List V}, noLsts ts = true → RpAll K F' vs ts → RpAll K (backF ls σ F') vs ts
  | [], _, _, h => by cases h; exact .nil
  | t :: ts, _, n, h => by
    simp only [noLsts, Bool.and_eq_true] at n
    cases h with
    | cons h1 h2 => exact .cons (back_rp r r' n.1 h1) (back_rps r r' n.2 h2)
end
end
section
variable {X : Cx} {C : CC} {e : Expr}
theorem tl_bor {f : M D} (h : ∀ H0 F0, PE X e (tE X.K (mkB H0 F0) f)) : PE X e (tE X.K C (bor f)) := by
  refine ⟨fun pins s σ H Q I ⟨F, ls, r, k⟩ => ?_⟩
  refine (h H (lentF ls σ F H)).run pins s σ H Q I ⟨lentF ls σ F H, lend ls, lent_rel r, ?_⟩
  unfold bor at k
  cases q : f (lend ls) with
  | bad => rw [q] at k; exact k.elim
  | exc c l' => rw [q] at k; exact k.elim
  | ok t l' =>
    rw [q] at k
    cases q2 : noLst t with
    | false => simp only [q2] at k; exact k.elim
    | true =>
      simp only [q2] at k
      intro v H' F' e' r' p
      have g := back_grow r r'
      exact k v H' _ g.ff (r.grow g) (back_rp r r' q2 p)
theorem tl_borT {f : M Bool} (h : ∀ H0 F0, PT X e (tP X.K (mkB H0 F0) f)) : PT X e (tP X.K C (borT f)) := by
  refine ⟨fun pins s σ H Q I ⟨F, ls, r, k⟩ => ?_⟩
  refine (h H (lentF ls σ F H)).run pins s σ H Q I ⟨lentF ls σ F H, lend ls, lent_rel r, ?_⟩
  unfold borT at k
  cases q : f (lend ls) with
  | bad => rw [q] at k; exact k.elim
  | exc c l' => rw [q] at k; exact k.elim
  | ok t l' =>
    rw [q] at k
    intro H' F' e' r'
    have g := back_grow r r'
    exact k H' _ g.ff (r.grow g)
end
end Tz
namespace Tz
open PySem PySem.Spec PyProof.Rows L2
theorem Cal.mono {P : Program} {w : World} {K : PySem.W.Frag} {mg : Str → Option Value} {base : Heap} {j k : Nat} {x : Str} {ps : List Str} {J : List Nat} {sem : List SV → R Fl} (c : Cal P w K mg base j x ps J sem) (h : j ≤ k) : Cal P w K mg base k x ps J sem := by
  obtain ⟨f, fd, F, r⟩ := c.ex
  exact ⟨⟨f, fd, F.mono h, r⟩⟩

/-! ### [f, g, ..][i](x) -/
def tFs (fs : List Addr) : TA := fun σ H Q => Q (fs.map V.ref) H
/-- the defs that a written list names -/
structure Fns (X : Cx) (lev n : Nat) (J : List Nat) (es : List Expr) (sems : List (List SV → R Fl)) : Prop where
  ex : ∃ fs : List Addr, PA X es (tFs fs) ∧ fs.length = sems.length ∧ sems.length ≤ 64 ∧ ∀ (i : Nat) f sem, fs[i]? = some f → sems[i]? = some sem →
    ∃ fd ps, FnOk X.prog X.w X.K X.mg X.base CX0 lev f fd ps (spD false X.K X.mg ps.length J sem) ∧ PySem.W.keepIn X.K (.ref f) = true ∧ Binds X.K fd ps [] ∧ ps.length = n
def pickSem (sems : List (List SV → R Fl)) : D → M (List SV → R Fl)
  | .int i => optM (atI sems i)
  | _ => bad
def noEx {α : Type} (f : M α) : M α := fun ls => match f ls with
  | .exc _ _ => .bad
  | r => r
def mIxCallD (J : List Nat) (sems : List (List SV → R Fl)) (fk : M D) (f : M (List AV)) : M D := bnd (bnd (noEx fk) (pickSem sems)) fun sem => bnd f fun avs => bnd (runCall false J sem avs) flD
def mIxCallN (J : List Nat) (sems : List (List SV → R Fl)) (fk : M D) (f : M (List AV)) : M SV := bnd (bnd (noEx fk) (pickSem sems)) fun sem => bnd f fun avs => bnd (runCall false J sem avs) flN
section
variable {X : Cx} {C : CC} {e k : Expr} {es fes : List Expr} {fk : M D} {f : M (List AV)} {x : Str} {pos p lp sp : Pos} {lev n : Nat} {ps : List Str} {J : List Nat} {sem : List SV → R Fl} {sems : List (List SV → R Fl)}
theorem fn_nil : Fns X lev n J [] [] := ⟨[], paI pa_nil fun σ H Q h => h, rfl, by decide, fun i f sem e => by simp at e⟩
theorem fn_cons (c : Cal X.prog X.w X.K X.mg X.base lev x ps J sem) (hl : ps.length = n) (hg : Gl X x) (r : Fns X lev n J es sems) (h64 : sems.length < 64 := by exact Nat.le_of_ble_eq_true rfl) (hdb : (x == ("__debug__" : Str)) = false := by decide)
    (hs : starEach (.Name x p :: es) X.env = (false, eval (.Name x p) X.env) :: starEach es X.env := by rfl) : Fns X lev n J (.Name x p :: es) (sem :: sems) := by
  obtain ⟨fa, fd, F, hm, hk, hb⟩ := c.ex
  obtain ⟨fs, h1, h2, _, h3⟩ := r.ex
  refine ⟨fa :: fs, paI (pa_cons (pe_glob (v := .ref fa) hg hm rfl hdb) h1 hs) fun σ H Q h => h, congrArg (· + 1) h2, h64, fun i f sm e1 e2 => ?_⟩
  cases i with
  | zero => cases e1; cases e2; exact ⟨fd, ps, F, hk, hb, hl⟩
  | succ i => exact h3 i f sm (by simpa using e1) (by simpa using e2)
theorem atI_map {α β : Type} (g : α → β) (xs : List α) (i : Int) : atI (xs.map g) i = (atI xs i).map g := by
  unfold atI
  rw [List.length_map]
  cases ixN xs.length i with
  | none => rfl
  | some j => exact List.getElem?_map
theorem atI_two {α β : Type} {xs : List α} {ys : List β} {i : Int} {y : β} (h : xs.length = ys.length) (e : atI ys i = some y) : ∃ (j : Nat) (x : α), xs[j]? = some x ∧ ys[j]? = some y ∧ atI xs i = some x := by
  unfold atI at e ⊢
  rw [h]
  cases q : ixN ys.length i with
  | none => rw [q] at e; cases e
  | some j =>
    rw [q] at e
    have e : ys[j]? = some y := e
    have hj : j < xs.length := by rw [h]; exact (List.getElem?_eq_some_iff.mp e).1
    exact ⟨j, xs[j], List.getElem?_eq_getElem hj, e, List.getElem?_eq_getElem hj⟩
/-- the reading: the place, the arguments, then the def's promise -/
def tIxC (K : PySem.W.Frag) (mg : Str → Option Value) (C : CC) (n : Nat) (J : List Nat) (sems : List (List SV → R Fl)) (fk : M D) (t : TA) : TE := fun σ H Q => ∃ F ls, Rel K C F ls σ H ∧ post K C F σ (bnd (noEx fk) (pickSem sems) ls) fun sem ls' => ∀ H' F', Same F F' → Rel K C F' ls' σ H' → t σ H' fun vs H1 => spD false K mg n J sem vs H1 Q E0
theorem pe_ixc (fns : Fns X lev n J fes sems) (hr : Room lev X.A) (hk : ∀ tp, PE X k (tE X.K (C.sub tp) fk)) {t : TA} (ha : PA X (e :: es) t)
    (hix : PlainIx k := by exact fun _ _ => rfl)
    (ht : eval (.Call (.Subscript (.List fes lp) k sp) (e :: es) [] pos) X.env = (do callWith pos (← eval (.Subscript (.List fes lp) k sp) X.env) [] (backTo pos (starEach (e :: es) X.env)) (backToKw pos (keywordEach [] X.env))) := by rfl)
    (he : starEach (e :: es) X.env = (false, eval e X.env) :: starEach es X.env := by rfl) (hpl : (backTo pos (starEach es X.env)).any (·.1) = false := by rfl) :
    PE X (.Call (.Subscript (.List fes lp) k sp) (e :: es) [] pos) (tIxC X.K X.mg C n J sems fk t) := by
  refine ⟨fun pins s σ H Q I ⟨F, ls, r, h⟩ => ?_⟩
  obtain ⟨fs, h1, h2, h64, h3⟩ := fns.ex
  refine Call_ (thn ((pe_ix (r := rIxL X.K) (ta := tLst (tFs fs)) (tb := fun σ H Q => ∃ tp, tE X.K (C.sub tp) fk σ H Q) ix_list (pe_lst h1) ⟨fun pins s σ H Q I ⟨tp, z⟩ => (hk tp).run pins s σ H Q I z⟩ hix).run pins s σ H (fun v H1 => ∃ f sem, v = .ref f ∧ t σ H1 (fun vs H1 => spD false X.K X.mg n J sem vs H1 Q E0) ∧ ∃ fd ps, FnOk X.prog X.w X.K X.mg X.base CX0 lev f fd ps (spD false X.K X.mg ps.length J sem) ∧ PySem.W.keepIn X.K (.ref f) = true ∧ Binds X.K fd ps [] ∧ ps.length = n) I ?_) fun u s1 ⟨v, H1, I1, r1, q1⟩ => ?_) ht
  · refine ⟨by rw [List.length_map, h2]; exact Nat.le_trans h64 (by decide), fun a na => ⟨(a, fs.map V.ref) :: C.tp, ?_⟩⟩
    have na' : F a = none := r.fh.free na
    have g : Grow F H F (upd H a (.lst (fs.map V.ref))) := ⟨Same.refl _, fun b o e => by rw [upd_ne (ne_of_none e na)]; exact e, fun b o e => by rw [upd_ne (ne_of_none e na')]; exact r.fh b o e, fun b o e => .inl ⟨o, e⟩⟩
    have r2 := r.grow g
    have nx : ∀ (i : Nat) s, ls[i]? = some s → s.own = true → σ[i]? ≠ some (some (.ref a)) := fun i s e o z => by
      obtain ⟨b, x1, x2, _⟩ := r.ow i s e o
      rw [z] at x1; cases x1
      obtain ⟨u, x3⟩ := x2.some
      rw [na] at x3; cases x3
    have r3 := r2.watch rfl (upd_same) na' nx
    refine ⟨F, ls, r3, ?_⟩
    have h' := post_bnd.mp h
    unfold noEx at h'
    cases q : fk ls with
    | bad => simp only [q] at h'; exact h'.elim
    | exc c l1 => simp only [q] at h'; exact h'.elim
    | ok d l1 =>
      simp only [q] at h'
      intro v H2 F2 e2 r4 p2
      obtain ⟨r5, w1, _⟩ := r4.unwatch rfl
      cases p2 with
      | int i =>
        have h' : post X.K C F σ (optM (atI sems i) l1) _ := h'
        cases q2 : atI sems i with
        | none =>
          rw [q2] at h'
          exact h'.elim
        | some sm =>
          rw [q2] at h'
          obtain ⟨j, f, g1, g2, g3⟩ := atI_two h2 q2
          exact ⟨a, fs.map V.ref, i, .ref f, rfl, rfl, .inl (.inl w1), by rw [atI_map, g3]; rfl, f, sm, rfl, h' H2 F2 e2 r5, h3 j f sm g1 g2⟩
      | _ => exact h'.elim
  · obtain ⟨f, sm, rfl, q, fd, ps, G, hkp, hb, hn⟩ := q1
    cases r1
    subst hn
    refine PySem.W.callWith_K (h₀ := X.base) I1.ok.mod.kin hkp (thn (ha.run pos pins s1 σ H1 _ I1 q) fun us s2 ⟨vs, H2, I2, rv, q2⟩ => ⟨I2.kIn, ?_⟩) he hpl
    exact run_fn G hr hb .nil pass0 I2 rv (by rw [List.append_nil]; exact q2)
theorem tl_ixD (fns : Fns X lev n J fes sems) (hr : Room lev X.A) (hk : ∀ tp, PE X k (tE X.K (C.sub tp) fk)) (ha : PA X (e :: es) (tAA X.K C f)) (hfl : ∀ ls avs ls', f ls = .ok avs ls' → avs.length = (e :: es).length) (hl : (e :: es).length = n := by rfl)
    (hix : PlainIx k := by exact fun _ _ => rfl)
    (ht : eval (.Call (.Subscript (.List fes lp) k sp) (e :: es) [] pos) X.env = (do callWith pos (← eval (.Subscript (.List fes lp) k sp) X.env) [] (backTo pos (starEach (e :: es) X.env)) (backToKw pos (keywordEach [] X.env))) := by rfl)
    (he : starEach (e :: es) X.env = (false, eval e X.env) :: starEach es X.env := by rfl) (hpl : (backTo pos (starEach es X.env)).any (·.1) = false := by rfl) :
    PE X (.Call (.Subscript (.List fes lp) k sp) (e :: es) [] pos) (tE X.K C (mIxCallD J sems fk f)) := by
  refine peI (pe_ixc (C := C) fns hr hk ha hix ht he hpl) fun σ H Q ⟨F, ls, r, h⟩ => ?_
  refine ⟨F, ls, r, post_imp (post_bnd.mp h) (Same.refl F) fun sem l1 z H1 F1 e1 r1 => ?_⟩
  have z := post_imp z e1 fun _ _ y => y
  have h0 := post_bnd.mp z
  refine ⟨F1, l1, r1, ?_⟩
  cases q : f l1 with
  | bad => rw [q] at h0; exact h0
  | exc c l2 => rw [q] at h0; exact h0
  | ok avs l2 =>
    rw [q] at h0
    intro vs H2 F2 e2 r2 p2
    have h1 := post_imp (F' := F2) (show post X.K C F1 σ (bnd (runCall false J sem avs) flD l2) _ from h0) e2 fun _ _ y => y
    have hps : (List.replicate n ("" : Str)).length = n := List.length_replicate
    rw [← hps]
    refine call_sp (X := X) (Same.refl F2) r2 p2 rfl (fun y => by cases y) (by rw [← p2.len, hfl l1 avs l2 q, hl, hps]) h1 (fun ls' H' F' e' r' z => ?_) (fun t ls' v H' F' e' r' pv z => ?_) (fun s ls' a H' F' e' r' fr z => ?_) (fun ls' z => z) (fun ls' z => z)
    · exact z _ H' F' ((e1.trans e2).trans e') r' .non
    · exact z v H' F' ((e1.trans e2).trans e') r' pv
    · exact z.elim
theorem tl_ixN (fns : Fns X lev n J fes sems) (hr : Room lev X.A) (hk : ∀ tp, PE X k (tE X.K (C.sub tp) fk)) (ha : PA X (e :: es) (tAA X.K C f)) (hfl : ∀ ls avs ls', f ls = .ok avs ls' → avs.length = (e :: es).length) (hl : (e :: es).length = n := by rfl)
    (hix : PlainIx k := by exact fun _ _ => rfl)
    (ht : eval (.Call (.Subscript (.List fes lp) k sp) (e :: es) [] pos) X.env = (do callWith pos (← eval (.Subscript (.List fes lp) k sp) X.env) [] (backTo pos (starEach (e :: es) X.env)) (backToKw pos (keywordEach [] X.env))) := by rfl)
    (he : starEach (e :: es) X.env = (false, eval e X.env) :: starEach es X.env := by rfl) (hpl : (backTo pos (starEach es X.env)).any (·.1) = false := by rfl) :
    PE X (.Call (.Subscript (.List fes lp) k sp) (e :: es) [] pos) (tN X.K C (mIxCallN J sems fk f)) := by
  refine peI (pe_ixc (C := C) fns hr hk ha hix ht he hpl) fun σ H Q ⟨F, ls, r, h⟩ => ?_
  refine ⟨F, ls, r, post_imp (post_bnd.mp h) (Same.refl F) fun sem l1 z H1 F1 e1 r1 => ?_⟩
  have z := post_imp z e1 fun _ _ y => y
  have h0 := post_bnd.mp z
  refine ⟨F1, l1, r1, ?_⟩
  cases q : f l1 with
  | bad => rw [q] at h0; exact h0
  | exc c l2 => rw [q] at h0; exact h0
  | ok avs l2 =>
    rw [q] at h0
    intro vs H2 F2 e2 r2 p2
    have h1 := post_imp (F' := F2) (show post X.K C F1 σ (bnd (runCall false J sem avs) flN l2) _ from h0) e2 fun _ _ y => y
    have hps : (List.replicate n ("" : Str)).length = n := List.length_replicate
    rw [← hps]
    refine call_sp (X := X) (Same.refl F2) r2 p2 rfl (fun y => by cases y) (by rw [← p2.len, hfl l1 avs l2 q, hl, hps]) h1 (fun ls' H' F' e' r' z => ?_) (fun t ls' v H' F' e' r' pv z => ?_) (fun s ls' a H' F' e' r' fr z => ?_) (fun ls' z => z) (fun ls' z => z)
    · exact z.elim
    · exact z.elim
    · exact z a H' F' ((e1.trans e2).trans e') r' fr

/-! ### a def that replaces in a text: its parameters' names are tokens -/
def mRepl (y z : Str) (f : M D) : M D := bnd f fun x => match x with
  | .str x => optM (gd (decide (x.length + (x.length + 1) * z.length ≤ 16777216)) (.str (Txt.replace x y z)))
  | _ => bad
theorem tlT_repl {o : Expr} {y z : Str} {j0 j1 : Nat} {c0 c1 apos : Pos} {fo : M D} (ho : PE X o (tE X.K C fo)) (hyz : (y == z) = false := by decide)
    (hst : starEach [.Constant (.str y) j0 c0, .Constant (.str z) j1 c1] X.env = [(false, eval (.Constant (.str y) j0 c0) X.env), (false, eval (.Constant (.str z) j1 c1) X.env)] := by rfl)
    (hbase : attributeBase o "replace" X.env (eval o X.env) = eval o X.env := by rfl) (hline : (apos.endLine == pos.line) = true := by rfl) :
    PET X (.Call (.Attribute o "replace" apos) [.Constant (.str y) j0 c0, .Constant (.str z) j1 c1] [] pos) (tE X.K C (mRepl y z fo)) := by
  intro pins s σ H Q h0 I ⟨F, ls, r, h⟩
  refine CwR.pet_replC ho hyz hst hbase hline pins s σ H Q h0 I (thenE r h fun t l1 v1 H1 F1 e1 r1 p1 h1 => ?_)
  cases p1 with
  | str x =>
    have h1' : post X.K C F1 σ (optM (gd (decide (x.length + (x.length + 1) * z.length ≤ 16777216)) (PyData.str (Txt.replace x y z) : D)) l1) _ := h1
    obtain ⟨t, hg, q⟩ := endO h1'
    obtain ⟨hz, rfl⟩ := gd_some hg
    exact ⟨x, rfl, of_decide_eq_true hz, q _ H1 F1 e1 r1 (.str _)⟩
  | _ => exact h1.elim
theorem tlT_ms {a : Expr} {fa : M D} {ff : M (List D)} {id : String} {name : Str} {apos : Pos} {g : D → List D → Option D} (slot : Slot "str" name id) (ty : typeOf (.builtin id) = pure (.type "method_descriptor")) (hm : MtR X id (rM X.K g))
    (ho : PET X a (tE X.K C fa)) (ha : PA X (e :: es) (tA X.K C ff))
    (hbase : attributeBase a name X.env (eval a X.env) = eval a X.env := by rfl)
    (hfew : ((backTo pos (starEach (e :: es) X.env)).all (fun x => !x.1) && (backToKw pos (keywordEach [] X.env)).all (fun x => x.1.isSome)
      && decide ((e :: es).length + ([] : List Keyword).length + (if ([] : List Keyword).isEmpty then 0 else 1) < 30)) = true := by rfl)
    (hline : (apos.endLine == pos.line) = true := by rfl) (hs : starEach (e :: es) X.env = (false, eval e X.env) :: starEach es X.env := by rfl) (hplain : (backTo pos (starEach es X.env)).any (·.1) = false := by rfl) :
    PET X (.Call (.Attribute a name apos) (e :: es) [] pos) (tE X.K C (mMs g fa ff)) := by
  intro pins s σ H Q h0 I ⟨F, ls, r, h⟩
  have h' : tE X.K C fa σ H (fun x H1 => tyV X.K "str" x H1 ∧ tA X.K C ff σ H1 (fun vs H2 => rM X.K g x vs H2 Q)) := thenE r h fun tx l1 v1 H1 F1 e1 r1 p1 h1 => by
    cases p1 with
    | str z =>
      refine ⟨rfl, thenA r1 h1 fun ts l2 vs H2 F2 e2 r2 p2 h2 => ?_⟩
      obtain ⟨t, hg, q⟩ := endO h2
      exact ⟨F2, _, ts, t, r2.fh, .str z, p2, hg, fun v F' H' gr rp => q v H' F' ((e1.trans e2).trans gr.ff) (r2.grow gr) rp⟩
    | _ => exact h1.elim
  refine wpAny_Call_method_late hbase hfew hline rfl (thn (ho pins s σ H _ h0 I h') fun v s1 ⟨x, H1, I1, r1, ty1, q1⟩ => ?_)
  obtain ⟨h1, h2⟩ := tyV_is I1 r1 ty1
  refine ⟨"str", id, PySem.F.plainAttrs_str, slot, ty, h1, h2, ?_⟩
  have hA := ha.run pos pins s1 σ H1 _ I1 q1
  rw [hs] at hA ⊢
  refine Calls.callWith_builtin (by show (false || (backTo pos (starEach es X.env)).any (·.1)) = false; rw [hplain] <;> rfl) (Calls.evalArgs_plain ?_)
  exact thn hA fun us s2 ⟨vs, H2, I2, r2, q2⟩ => hm pins s2 σ H2 x vs v us Q I2 r1 r2 q2
theorem tlT_set (i : Nat) {fe : M D} {y : Str} {pos' : Pos} (hN : X.N.Nodup) (he : PET X e (tE X.K C fe)) (hi : X.N[i]? = some y := by rfl) (hx : Loc X.env.scope y := by first | exact .inl rfl | exact .inr rfl) (hJ : C.J.contains i = false := by rfl)
    (hs : swapsWith e (some (.Name y pos')) pos.line X.env = pure false := by rfl) (hf : X.fn y = true ∨ X.env.scope.names.lookup y = some .local := by first | exact .inl rfl | exact .inr rfl) : PST X (.Assign [.Name y pos'] e pos) (tS X.K C (mSet i fe)) := by
  intro pins s σ H D h0 I ⟨F, ls, r, h⟩
  have h' : tE X.K C fe σ H (fun x H1 => gName i x σ H1 D.nx) := thenES r h fun t l1 v1 H1 F1 e1 r1 p1 h1 => h1 _ H1 F1 e1 (r1.setFr (nJ hJ) p1)
  refine wpAny_Assign_Name (thn (he pins s σ H _ h0 I h') fun v s1 ⟨x, H1, I1, r1, q1⟩ => ?_) hs
  exact store_ok I1 hN hi hx r1 (fun s2 I2 => ⟨_, H1, I2, q1⟩) hf
theorem tlT_seq {st : Stmt} {rest : List Stmt} {g1 g2 : M Fl} (h1 : PST X st (tS X.K C g1)) (h2 : PSsT X rest (tS X.K C g2)) : PSsT X (st :: rest) (tS X.K C (mSeq g1 g2)) := by
  intro pins s σ H D h0 I ⟨F, ls, r, h⟩
  refine psst_cons h1 h2 pins s σ H D h0 I ⟨F, ls, r, postS_imp (postS_bnd.mp h) (Same.refl F) fun fl ls' q => ?_⟩
  cases fl with
  | nx => exact fun σ' H' F' e' r' => ⟨F', ls', r', postS_imp q e' fun fl2 l2 z => pS_mono z e'⟩
  | rt t => exact q
  | ro s => exact q
  | bk => exact q
  | ct => exact q
theorem cal_mkT {P : Program} {w : World} {K : PySem.W.Frag} {mg : Str → Option Value} {base : Heap} {k : Nat} {x : Str} {N ps : List Str} {params : Arguments} {body : List Stmt} {scope : Scope} {f : Addr} {fd : FuncData} (F : FunD K x x params body scope [] [] f fd) (hm : mg x = some (.ref f)) (S : FnScope N ps scope) (J : List Nat) (g : M Fl)
    (hb : ∀ (kV doc pm : Value) (an : Option Addr) (cdv ct : Value) (us : List Value), us.length = ps.length → bindArgs (PySem.W.fnOf x x params body scope .none kV doc pm an cdv ct) ⟨us, []⟩ = pure (ps.zip us))
    (hbody : ∀ (cdv : Value) (A : Around) (outer : List Env) (s : Shared) (H : Hp) (E : XK) (F0 : Hp) (io : List (Nat × Addr)), Room k (A.deeper (envOfC x scope s.heap.objs.size f cdv)) →
      PSsT (cxOf CX0 P w K mg base N x scope f cdv A outer s H E) body (tS K (mkC false mg H F0 io J E) g)) (hN : ps.length ≤ N.length := by decide) (hnc : ∀ y ∈ scope.names, y.2 ≠ .cell := by decide) (hps : 1 ≤ ps.length := by decide) : Cal P w K mg base (k + 1) x ps J (runD (N.length - ps.length) g) := by
  refine ⟨f, fd, ?_, hm, F.kp, F.bindsN hb⟩
  obtain ⟨oc, od, dV, kV, doc, pm, an, cdv, ct, osl, rfl, lk, hcd, _, _⟩ := F.ex
  refine fn_ofT lk hcd S hnc hps (fun vs H Q E h => by obtain ⟨F, as, hn, _⟩ := h; exact hn) fun A outer s H vs Q E hr h => ?_
  obtain ⟨F0, io, q⟩ := sem_body hN h
  exact ⟨_, hbody cdv A outer s H E F0 io hr, q⟩
end
end Tz
namespace Tz
open PySem PySem.Spec PyProof.Rows L2
/-! ### the law's own def, the head -/
/-- the promise of the law's def: some fuel is enough -/
def spN (K : PySem.W.Frag) (mg : Str → Option Value) (sem : Nat → List SV → R Fl) : Sp := fun vs H Q E => ∃ N, spD false K mg 1 [] (sem N) vs H Q E
theorem fn_mk {P : Program} {w : World} {K : PySem.W.Frag} {mg : Str → Option Value} {base : Heap} {k : Nat} {x y : Str} {N : List Str} {params : Arguments} {body : List Stmt} {scope : Scope} {f : Addr} {fd : FuncData} (F : FunD K x x params body scope [] [] f fd) (S : FnScope N [y] scope) (g : Nat → M Fl)
    (hbody : ∀ (n : Nat) (cdv : Value) (A : Around) (outer : List Env) (s : Shared) (H : Hp) (E : XK) (F0 : Hp) (io : List (Nat × Addr)), Room k (A.deeper (envOfC x scope s.heap.objs.size f cdv)) →
      PSs (cxOf CX0 P w K mg base N x scope f cdv A outer s H E).nox body (tS K (mkC false mg H F0 io [] E) (g n))) (hN : [y].length ≤ N.length := by decide) : FnOk P w K mg base CX0 (k + 1) f fd [y] (spN K mg fun n => runD (N.length - [y].length) (g n)) := by
  refine ⟨fun vs H Q E h => ?_, fun A outer s H args us vs Q E hr he hb hv h => ?_⟩
  · obtain ⟨n, h⟩ := h
    exact (def_ok F S [] (g n) hN (hbody n)).len vs H Q E h
  · obtain ⟨n, h⟩ := h
    exact (def_ok F S [] (g n) hN (hbody n)).run A outer s H args us vs Q E hr he hb hv h
theorem rp_ints {K : PySem.W.Frag} {H : Hp} : ∀ ns : List Int, RpAll K H (ns.map V.int) (ns.map (PyData.int : Int → D))
  | [] => .nil
  | n :: ns => .cons (.int n) (rp_ints ns)
theorem law_sp {K : PySem.W.Frag} {mg : Str → Option Value} {sem : Nat → List SV → R Fl} {H : Hp} {a : Addr} {ns : List Int} (hS : SqL K H a (ns.map V.int)) (h : ∃ N ls, sem N [.fr (.list (ns.map .int))] = .ok (.rt (.bool true)) ls) :
    spN K mg sem [.ref a] H (fun v _ => v = .bl true) fun _ _ _ => False := by
  obtain ⟨N, ls, h⟩ := h
  refine ⟨N, H, [.fr (.list (ns.map .int))], rfl, Same.refl H, ⟨rfl, fun i t e => ?_, fun i s e o => ?_, fun i j a s s' n e e' o o' => ?_⟩, fun i s e o => ?_, ?_⟩
  · cases i with
    | zero => cases e; exact ⟨_, rfl, .lst hS (rp_ints ns)⟩
    | succ i => simp at e
  · cases i with
    | zero => cases e; cases o
    | succ i => simp at e
  · cases i with
    | zero => cases e; cases o
    | succ i => simp at e
  · cases i with
    | zero => cases e; cases o
    | succ i => simp at e
  · simp only [h]
    refine ⟨fun i s e o => ?_, fun H' F' cp v p => ?_⟩
    · cases i with
      | zero => cases e; cases o
      | succ i => simp at e
    · cases p
      rfl
def dOf (x : Str) (st : Stmt) : He.DefD := ⟨(x, none), x, x, defArgs st, defBody st, defScope st, [], []⟩
end Tz
namespace Tz
open PySem PySem.Spec PyProof.Rows L2
theorem fact_mem {fa : List He.Fa} {fn : List He.DefD} {K : PySem.W.Frag} (c : He.SaysD fa fn K) {f : He.Fa} (h : f ∈ fa) : f.ok K = true := by
  obtain ⟨i, hi⟩ := List.mem_iff_getElem?.mp h
  exact c.fact i hi
end Tz
namespace Tz
open PySem PySem.Spec PyProof.Rows L2
/-! ### plain laws: how a shallow program ends -/
theorem gd_t {α : Type} {c : Bool} (a : α) (h : c = true) : gd c a = some a := by subst h; rfl
theorem bits_small {x : Int} (hx : x.natAbs < 2 ^ 64) : Builtin.Int.intBits x ≤ shortFactorBits := by
  unfold Builtin.Int.intBits
  split
  · decide
  · rename_i h0
    have hx0 : x.natAbs ≠ 0 := by simpa using h0
    have := (Nat.log2_lt hx0).mpr hx
    have e : shortFactorBits = 64 := rfl
    omega
theorem mul_small {i j : Int} (h : i.natAbs < 2 ^ 64 ∨ j.natAbs < 2 ^ 64) : mulFits i j = true := by
  unfold mulFits
  have key : ∀ x : Int, x.natAbs < 2 ^ 64 → decide (Builtin.Int.intBits x > shortFactorBits) = false := fun x hx => decide_eq_false (Nat.not_lt.mpr (bits_small hx))
  rcases h with h | h
  · rw [key i h]; rfl
  · rw [key j h]; cases decide (Builtin.Int.intBits i > shortFactorBits) <;> rfl
theorem dMul_i {i j : Int} (h : i.natAbs < 2 ^ 64 ∨ j.natAbs < 2 ^ 64) : dMul (.int i) (.int j) = some (.int (i * j)) := gd_t _ (mul_small h)
theorem dMul_k {i j : Int} (h : j.natAbs < 2 ^ 64) : dMul (.int i) (.int j) = some (.int (i * j)) := dMul_i (.inr h)
theorem dMod_i {i j : Int} (h : 0 < j) : dMod (.int i) (.int j) = some (.int (i % j)) := gd_t _ (decide_eq_true h)
theorem dFdiv_i {i j : Int} (h : 0 < j) (h2 : j.natAbs.log2 < 9000) : dFdiv (.int i) (.int j) = some (.int (i / j)) := gd_t _ (by rw [decide_eq_true h, decide_eq_true h2]; rfl)
theorem dAdd_i {i j : Int} : dAdd (.int i) (.int j) = some (.int (i + j)) := rfl
theorem dSub_i {i j : Int} : dSub (.int i) (.int j) = some (.int (i - j)) := rfl
theorem sizeLine_v : sizeLine = 16777216 := by decide
theorem szl_0 : decide (0 ≤ sizeLine) = true := by decide
theorem szl_1 : decide (1 ≤ sizeLine) = true := by decide
theorem szl_2 : decide (2 ≤ sizeLine) = true := by decide
theorem szl_3 : decide (3 ≤ sizeLine) = true := by decide
theorem szl_4 : decide (4 ≤ sizeLine) = true := by decide
theorem szl_5 : decide (5 ≤ sizeLine) = true := by decide
theorem szl_6 : decide (6 ≤ sizeLine) = true := by decide
theorem szl_7 : decide (7 ≤ sizeLine) = true := by decide
theorem szl_8 : decide (8 ≤ sizeLine) = true := by decide
theorem szl_9 : decide (9 ≤ sizeLine) = true := by decide
theorem szl_10 : decide (10 ≤ sizeLine) = true := by decide
theorem szl_11 : decide (11 ≤ sizeLine) = true := by decide
theorem szl_12 : decide (12 ≤ sizeLine) = true := by decide
theorem dIx_l {xs : List D} {i : Int} : dIx (.list xs) (.int i) = atI xs i := rfl
theorem dIx_t {xs : List D} {i : Int} : dIx (.tuple xs) (.int i) = atI xs i := rfl
theorem lt_size {n : Nat} (h : n < 16777216) : n < sizeLine := by rw [sizeLine_v]; exact h
theorem dEq_i {i j : Int} : dEq (.int i) (.int j) = some (.bool (decide (i = j))) := rfl
theorem dNe_i {i j : Int} : dNe (.int i) (.int j) = some (.bool (!decide (i = j))) := rfl
theorem atI_nil {α : Type} (i : Int) : atI ([] : List α) i = none := by
  unfold atI ixN
  split
  · rename_i h
    rw [if_neg (by simp; omega)]
    rfl
  · rename_i h
    rw [if_neg (by simp; omega)]
    rfl
theorem atI_nat {α : Type} (xs : List α) (n : Nat) : atI xs (n : Int) = xs[n]? := by
  unfold atI ixN
  rw [if_pos (by omega)]
  by_cases h : (n : Int) < xs.length
  · rw [if_pos h]
    rfl
  · rw [if_neg h]
    exact (List.getElem?_eq_none (by omega)).symm
theorem atI_0 {α : Type} (a : α) (l : List α) : atI (a :: l) 0 = some a := atI_nat (a :: l) 0
theorem atI_1 {α : Type} (a b : α) (l : List α) : atI (a :: b :: l) 1 = some b := atI_nat (a :: b :: l) 1
theorem atI_2 {α : Type} (a b c : α) (l : List α) : atI (a :: b :: c :: l) 2 = some c := atI_nat (a :: b :: c :: l) 2
theorem atI_3 {α : Type} (a b c d : α) (l : List α) : atI (a :: b :: c :: d :: l) 3 = some d := atI_nat (a :: b :: c :: d :: l) 3
theorem atI_4 {α : Type} (a b c d e : α) (l : List α) : atI (a :: b :: c :: d :: e :: l) 4 = some e := atI_nat (a :: b :: c :: d :: e :: l) 4
theorem ixN_30 : ixN 3 0 = some 0 := rfl
theorem ixN_31 : ixN 3 1 = some 1 := rfl
theorem ixN_32 : ixN 3 2 = some 2 := rfl
theorem own_ol {ts : List D} : (SV.ol ts).own = true := rfl
theorem own_fr {t : D} : (SV.fr t).own = false := rfl
theorem own_un : SV.un.own = false := rfl
theorem lend_nil : lend [] = [] := rfl
theorem lend_ol {ts : List D} {r : LS} : lend (.ol ts :: r) = .fr (.list ts) :: lend r := rfl
theorem lend_fr {t : D} {r : LS} : lend (.fr t :: r) = .fr t :: lend r := rfl
theorem lend_un {r : LS} : lend (.un :: r) = .un :: lend r := rfl
theorem isT_str {x : Str} : isT "str" (.str x) = true := rfl
theorem isT_list {x : List D} : isT "list" (.list x) = true := rfl
theorem isT_tuple {x : List D} : isT "tuple" (.tuple x) = true := rfl
theorem isT_int {i : Int} : isT "int" (.int i) = true := rfl
theorem isT_bint {i : Int} : isT "bool" (.int i) = false := rfl
/-- ends well, with P -/
def wz {α : Type} (r : R α) (P : α → LS → Prop) : Prop := match r with
  | .ok a l => P a l
  | _ => False
section
variable {α β : Type} {P Q : α → LS → Prop}
theorem wz_ok (a : α) (l : LS) (P : α → LS → Prop) : wz (.ok a l) P = P a l := rfl
theorem wz_bad (P : α → LS → Prop) : wz .bad P = False := rfl
theorem wz_bnd (m : M α) (f : α → M β) (ls : LS) (P : β → LS → Prop) : wz (bnd m f ls) P = wz (m ls) fun a l => wz (f a l) P := by
  unfold bnd wz
  cases m ls <;> rfl
theorem wz_imp {r : R α} (h : wz r P) (k : ∀ a l, P a l → Q a l) : wz r Q := by
  unfold wz at *
  cases r with
  | ok a l => exact k a l h
  | exc c l => exact h
  | bad => exact h
theorem wz_and {r : R α} (h : wz r P) (h2 : wz r Q) : wz r fun a l => P a l ∧ Q a l := by
  unfold wz at *
  cases r with
  | ok a l => exact ⟨h, h2⟩
  | exc c l => exact h
  | bad => exact h
theorem wz_eq {r : R α} (h : wz r P) : ∃ a l, r = .ok a l ∧ P a l := by
  unfold wz at h
  cases r with
  | ok a l => exact ⟨a, l, rfl, h⟩
  | exc c l => exact h.elim
  | bad => exact h.elim
theorem wz_run (ex : Bool) (J : List Nat) (sem : List SV → R Fl) (avs : List AV) (ls : LS) (P : Fl → LS → Prop) : wz (runCall ex J sem avs ls) P = (match gd ((slAt 0 avs).all fun p => J.contains p.1) () with
  | none => False
  | some _ => match argSVs ls avs with
    | none => False
    | some as => wz (sem as) fun fl l2 => match backD avs l2 ls with
      | some l3 => P fl l3
      | none => False) := by
  unfold runCall
  cases gd ((slAt 0 avs).all fun p => J.contains p.1) () with
  | none => rfl
  | some _ =>
    simp only []
    cases argSVs ls avs with
    | none => rfl
    | some as =>
      simp only []
      cases sem as with
      | bad => rfl
      | ok fl l2 =>
        simp only [wz_ok]
        cases backD avs l2 ls <;> rfl
      | exc c l2 =>
        cases ex with
        | false => rfl
        | true =>
          simp only []
          cases backD avs l2 ls <;> rfl
theorem wz_bor (f : M D) (ls : LS) (P : D → LS → Prop) : wz (bor f ls) P = wz (f (lend ls)) fun t _ => match noLst t with
    | true => P t ls
    | false => False := by
  unfold bor
  cases f (lend ls) with
  | ok t l =>
    simp only [wz_ok]
    cases noLst t <;> rfl
  | exc c l => rfl
  | bad => rfl
theorem wz_borT (f : M Bool) (ls : LS) (P : Bool → LS → Prop) : wz (borT f ls) P = wz (f (lend ls)) fun t _ => P t ls := by
  unfold borT
  cases f (lend ls) <;> rfl
theorem wz_noEx (f : M α) (ls : LS) (P : α → LS → Prop) : wz (noEx f ls) P = wz (f ls) P := by
  unfold noEx
  cases f ls <;> rfl
/-- one turn of a comprehension -/
theorem wz_compT (g : D → M Unit) (c : M Bool) (fe : M D) (t : D) (acc : List D) (ls : LS) (P : List D → LS → Prop) : wz (compT g c fe t acc ls) P = wz (g t ls) fun _ l => wz (c l) fun k l => match k with
    | false => P acc l
    | true => wz (fe l) fun x l => acc.length < sizeLine ∧ P (acc ++ [x]) l := by
  unfold compT
  rw [wz_bnd]
  congr 1
  funext _ l
  rw [wz_bnd]
  congr 1
  funext k l
  cases k with
  | false => rfl
  | true =>
    simp only [wz_bnd]
    congr 1
    funext x l
    cases h : decide (acc.length < sizeLine) with
    | true => simp only [ret, wz_ok, of_decide_eq_true h, true_and]
    | false =>
      have := of_decide_eq_false h
      simp only [bad, wz_bad, this, false_and]
theorem wz_cn (ks : List Nat) (g : D → M Unit) (c : M Bool) (fe : M D) (acc : List D) (ls : LS) (P : List D → LS → Prop) : wz (compL ks g c fe [] acc ls) P = P acc (killS ks ls) := rfl
theorem wz_cc (ks : List Nat) (g : D → M Unit) (c : M Bool) (fe : M D) (t : D) (ts acc : List D) (ls : LS) (P : List D → LS → Prop) : wz (compL ks g c fe (t :: ts) acc ls) P = wz (compT g c fe t acc (killS ks ls)) fun acc l => wz (compL ks g c fe ts acc (killS ks l)) P := by
  conv => lhs; unfold compL
  cases compT g c fe t acc (killS ks ls) <;> rfl
theorem wz_comp {ks : List Nat} {g : D → M Unit} {c : M Bool} {fe : M D} (I : List D → List D → LS → Prop) {P : List D → LS → Prop}
    (step : ∀ t ts acc ls, I (t :: ts) acc ls → wz (compT g c fe t acc (killS ks ls)) fun acc' l => I ts acc' (killS ks l)) (fin : ∀ acc ls, I [] acc ls → P acc (killS ks ls)) : ∀ {ts acc : List D} {ls : LS}, I ts acc ls → wz (compL ks g c fe ts acc ls) P
  | [], acc, ls, h => fin acc ls h
  | t :: ts, acc, ls, h => by
    unfold compL
    have := step t ts acc ls h
    cases q : compT g c fe t acc (killS ks ls) with
    | ok a l =>
      rw [q] at this
      simp only []
      exact wz_comp I step fin this
    | exc c l => rw [q] at this; exact this.elim
    | bad => rw [q] at this; exact this.elim
/-- a comprehension whose turns leave the slots as they are -/
theorem comp_map {ks : List Nat} {g : D → M Unit} {fe : M D} {L : LS} (f : D → D) {P : List D → LS → Prop} {ts : List D} (hk : killS ks L = L) (hl : ts.length ≤ sizeLine)
    (h : ∀ t, t ∈ ts → wz (g t L) fun _ l => wz (fe l) fun x l => x = f t ∧ killS ks l = L) (p : P (ts.map f) L) : wz (compL ks g (ret true) fe ts [] L) P := by
  refine wz_comp (fun us acc l => l = L ∧ acc.length + us.length = ts.length ∧ (∀ t ∈ us, t ∈ ts) ∧ acc ++ us.map f = ts.map f) (fun t us acc l hI => ?_) (fun acc l hI => ?_) ⟨rfl, by simp, fun _ z => z, rfl⟩
  · obtain ⟨rfl, e1, e2, e3⟩ := hI
    rw [hk, wz_compT]
    refine wz_imp (h t (e2 t (List.mem_cons_self ..))) fun _ l1 q => ?_
    simp only [ret, wz_ok]
    refine wz_imp q fun x l2 ⟨q1, q2⟩ => ?_
    subst q1
    rw [List.length_cons] at e1
    refine ⟨by omega, q2, by rw [List.length_append, List.length_singleton]; omega, fun u hu => e2 u (List.mem_cons_of_mem _ hu), ?_⟩
    rw [← e3]
    simp
  · obtain ⟨rfl, e1, e2, e3⟩ := hI
    rw [hk]
    rw [List.map_nil, List.append_nil] at e3
    rw [e3]
    exact p
theorem comp_enc {γ : Type} (enc out : γ → D) {ks : List Nat} {g : D → M Unit} {fe : M D} {L : LS} {P : List D → LS → Prop} {rs : List γ} (hk : killS ks L = L) (hl : rs.length ≤ sizeLine)
    (h : ∀ r, r ∈ rs → wz (g (enc r) L) fun _ l => wz (fe l) fun x l => x = out r ∧ killS ks l = L) (p : P (rs.map out) L) : wz (compL ks g (ret true) fe (rs.map enc) [] L) P := by
  refine wz_comp (fun us acc l => l = L ∧ ∃ qs zs : List γ, us = qs.map enc ∧ acc = zs.map out ∧ zs ++ qs = rs) (fun t us acc l hI => ?_) (fun acc l hI => ?_) ⟨rfl, rs, [], rfl, rfl, rfl⟩
  · obtain ⟨rfl, qs, zs, e1, rfl, e3⟩ := hI
    cases qs with
    | nil => cases e1
    | cons r qs =>
      cases e1
      have hr : r ∈ rs := by rw [← e3]; exact List.mem_append_right _ (List.mem_cons_self ..)
      have hn : zs.length + (qs.length + 1) = rs.length := by rw [← e3, List.length_append, List.length_cons]
      rw [hk, wz_compT]
      refine wz_imp (h r hr) fun _ l1 q => ?_
      simp only [ret, wz_ok]
      refine wz_imp q fun x l2 ⟨q1, q2⟩ => ?_
      subst q1
      refine ⟨by rw [List.length_map]; omega, q2, qs, zs ++ [r], rfl, by simp, ?_⟩
      rw [← e3]
      simp
  · obtain ⟨rfl, qs, zs, e1, rfl, e3⟩ := hI
    have : qs = [] := by
      cases qs with
      | nil => rfl
      | cons r qs => cases e1
    subst this
    rw [hk]
    rw [List.append_nil] at e3
    rw [e3]
    exact p
/-- a loop -/
theorem wz_for {ks : List Nat} {b : D → M Fl} (I : List D → LS → Prop) {P : Fl → LS → Prop}
    (step : ∀ t ts ls, I (t :: ts) ls → wz (b t (killS ks ls)) fun fl l => match fl with
      | .nx => I ts l
      | .ct => I ts l
      | .bk => P .nx (killS ks l)
      | f => P f l) (fin : ∀ ls, I [] ls → P .nx (killS ks ls)) : ∀ {ts : List D} {ls : LS}, I ts ls → wz (forL ks b ts ls) P
  | [], ls, h => fin ls h
  | t :: ts, ls, h => by
    unfold forL
    have := step t ts ls h
    cases q : b t (killS ks ls) with
    | ok a l =>
      rw [q] at this
      cases a with
      | nx => exact wz_for I step fin this
      | ct => exact wz_for I step fin this
      | bk => exact this
      | rt t => exact this
      | ro s => exact this
    | exc c l => rw [q] at this; exact this.elim
    | bad => rw [q] at this; exact this.elim
end
end Tz
namespace Tz
open PySem PySem.Spec PyProof.Rows L2
/- w_draws -/
def b_w_draws (N : Nat) : M Fl := (mSeq (mIf (asB (mBin dLt (mVar 0) (mBin dPow (ret (.int 10)) (ret (.int 18)))))
    (mRetN (mLst (mCons (mVar 0) (mCons (ret (.int 0)) (mCons (ret (.bool false)) mNil)))))
    (ret .nx))
    (mRetN (mLst (mCons (mBin dMod (mVar 0) (mBin dPow (mBin dPow (mBin dPow (ret (.int 10)) (ret (.int 60))) (ret (.int 50))) (ret (.int 3)))) (mCons (ret (.int 0)) (mCons (ret (.bool true)) mNil))))))
def z_w_draws (N : Nat) : List SV → R Fl := runD 0 (b_w_draws N)
/- w_list_text -/
def b_w_list_text (N : Nat) : M Fl := (mRet (mBin dAdd (mMs sJoin (ret (.str " ")) (mCons (mVar 0) mNil)) (mBin dMul (ret (.str "none")) (mCall dInt (mCons (mBin dEq (mVar 0) (mFz (mLst mNil))) mNil)))))
def z_w_list_text (N : Nat) : List SV → R Fl := runD 0 (b_w_list_text N)
/- w_step_text -/
def b_w_step_text (N : Nat) : M Fl := (mRet (mBin dAdd (mBin dAdd (mCall dStr (mCons (mBin dIx (mVar 0) (ret (.int 0))) mNil)) (mBin dIx (ret (.str "+-")) (mCall dInt (mCons (mBin dLt (mBin dIx (mVar 0) (ret (.int 1))) (ret (.int 0))) mNil)))) (mMs sJoin (ret (.str "")) (mCons (mFz (mComp [1] (mIter (mSl dSl (mVar 0) (mSome (ret (.int 2))) mNo)) (gT 1) (ret true) (mCall dStr (mCons (mVar 1) mNil)))) mNil))))
def z_w_step_text (N : Nat) : List SV → R Fl := runD 1 (b_w_step_text N)
/- w_steps_text -/
def b_w_steps_text (N : Nat) : M Fl := (mRet (mCallD false [] (z_w_list_text N) (aFr (mFz (mComp [1] (mIter (mVar 0)) (gT 1) (ret true) (mCallD false [] (z_w_step_text N) (aFr (mVar 1) aNil)))) aNil)))
def z_w_steps_text (N : Nat) : List SV → R Fl := runD 1 (b_w_steps_text N)
/- w_seen_text -/
def b_w_seen_text (N : Nat) : M Fl := (mRet (mCallD false [] (z_w_list_text N) (aFr (mFz (mComp [1] (mIter (mVar 0)) (gT 1) (ret true) (mBin dAdd (mBin dAdd (mCallD false [] (z_w_step_text N) (aFr (mSl dSl (mVar 1) mNo (mSome (ret (.int 2)))) aNil)) (ret (.str "="))) (mCall dStr (mCons (mBin dIx (mVar 1) (ret (.int 2))) mNil))))) aNil)))
def z_w_seen_text (N : Nat) : List SV → R Fl := runD 1 (b_w_seen_text N)
/- w_shows_text -/
def b_w_shows_text (N : Nat) : M Fl := (mRet (mCallD false [] (z_w_list_text N) (aFr (mFz (mComp [1, 2] (mIter (mVar 0)) (gTup [(gT 1), (gT 2)]) (ret true) (mBin dAdd (mBin dAdd (mBin dIx (ret (.str "+-")) (mCall dInt (mCons (mBin dLt (mVar 1) (ret (.int 0))) mNil))) (ret (.str "="))) (mCall dStr (mCons (mVar 2) mNil))))) aNil)))
def z_w_shows_text (N : Nat) : List SV → R Fl := runD 2 (b_w_shows_text N)
/- listed -/
def b_listed (N : Nat) : M Fl := (mSeq (mIf (asB (mBin dEq (mVar 0) (mFz (mLst mNil))))
    (mRet (ret (.str "none")))
    (ret .nx))
    (mRet (mMs sJoin (ret (.str " ")) (mCons (mVar 0) mNil))))
def z_listed (N : Nat) : List SV → R Fl := runD 0 (b_listed N)
/- way_shown -/
def b_way_shown (N : Nat) : M Fl := (mRet (mBin dIx (ret (.str "-+")) (mCall dInt (mCons (mBin dEq (mVar 0) (ret (.int 1))) mNil))))
def z_way_shown (N : Nat) : List SV → R Fl := runD 0 (b_way_shown N)
/- step_shown -/
def b_step_shown (N : Nat) : M Fl := (mRet (mBin dAdd (mBin dAdd (mCall dStr (mCons (mBin dIx (mVar 0) (ret (.int 0))) mNil)) (mCallD false [] (z_way_shown N) (aFr (mBin dIx (mVar 0) (ret (.int 1))) aNil))) (mMs sJoin (ret (.str "")) (mCons (mFz (mComp [1] (mIter (mSl dSl (mVar 0) (mSome (ret (.int 2))) mNo)) (gT 1) (ret true) (mCall dStr (mCons (mVar 1) mNil)))) mNil))))
def z_step_shown (N : Nat) : List SV → R Fl := runD 1 (b_step_shown N)
/- show_row -/
def b_show_row (N : Nat) : M Fl := (mRet (mCallD false [] (z_listed N) (aFr (mFz (mComp [1] (mIter (mVar 0)) (gT 1) (ret true) (mCallD false [] (z_step_shown N) (aFr (mVar 1) aNil)))) aNil)))
def z_show_row (N : Nat) : List SV → R Fl := runD 1 (b_show_row N)
/- show_pushes -/
def b_show_pushes (N : Nat) : M Fl := (mRet (mCallD false [] (z_listed N) (aFr (mFz (mComp [1] (mIter (mVar 0)) (gT 1) (ret true) (mCallD false [] (z_step_shown N) (aFr (mVar 1) aNil)))) aNil)))
def z_show_pushes (N : Nat) : List SV → R Fl := runD 1 (b_show_pushes N)
/- show_shown -/
def b_show_shown (N : Nat) : M Fl := (mRet (mCallD false [] (z_listed N) (aFr (mFz (mComp [1, 2, 3] (mIter (mVar 0)) (gTup [(gT 1), (gT 2), (gT 3)]) (ret true) (mBin dAdd (mBin dAdd (mBin dAdd (mCall dStr (mCons (mVar 1) mNil)) (mCallD false [] (z_way_shown N) (aFr (mVar 2) aNil))) (ret (.str "="))) (mCall dStr (mCons (mVar 3) mNil))))) aNil)))
def z_show_shown (N : Nat) : List SV → R Fl := runD 3 (b_show_shown N)
/- show_shows -/
def b_show_shows (N : Nat) : M Fl := (mRet (mCallD false [] (z_listed N) (aFr (mFz (mComp [1, 2] (mIter (mVar 0)) (gTup [(gT 1), (gT 2)]) (ret true) (mBin dAdd (mBin dAdd (mCallD false [] (z_way_shown N) (aFr (mVar 1) aNil)) (ret (.str "="))) (mCall dStr (mCons (mVar 2) mNil))))) aNil)))
def z_show_shows (N : Nat) : List SV → R Fl := runD 2 (b_show_shows N)
/- sure -/
def b_sure (N : Nat) : M Fl := (mIf (mNot (asB (mVar 0)))
    bad
    (ret .nx))
def z_sure (N : Nat) : List SV → R Fl := runD 0 (b_sure N)
/- count_in -/
def b_count_in (N : Nat) : M Fl := (mSeq (mDo (mCallD false [] (z_sure N) (aFr (mAndV (mChain dLe dLe (ret (.int 1)) (mCall dLen (mCons (mVar 0) mNil)) (ret (.int 40))) (mCall dAll (mCons (mFz (mComp [1] (mIter (mVar 0)) (gT 1) (ret true) (mBin (dIn false) (mVar 1) (ret (.str "0123456789"))))) mNil))) aNil)))
    (mSeq (mDo (mCallD false [] (z_sure N) (aFr (mOrV (mBin dNe (mBin dIx (mVar 0) (ret (.int 0))) (ret (.str "0"))) (mBin dEq (mVar 0) (ret (.str "0")))) aNil)))
    (mRet (mCall dInt (mCons (mVar 0) mNil)))))
def z_count_in (N : Nat) : List SV → R Fl := runD 1 (b_count_in N)
/- way_in -/
def b_way_in (N : Nat) : M Fl := (mSeq (mDo (mCallD false [] (z_sure N) (aFr (mOrV (mBin dEq (mVar 0) (ret (.str "+"))) (mBin dEq (mVar 0) (ret (.str "-")))) aNil)))
    (mRet (mBin dIx (mFz (mLst (mCons (ret (.int 1)) (mCons (mBin dSub (ret (.int 0)) (ret (.int 1))) mNil)))) (mCall dInt (mCons (mBin dEq (mVar 0) (ret (.str "-"))) mNil)))))
def z_way_in (N : Nat) : List SV → R Fl := runD 0 (b_way_in N)
/- push_in -/
def b_push_in (N : Nat) : M Fl := (mRet (mTup (mCons (mCallD false [] (z_count_in N) (aFr (mSl dSl (mVar 0) mNo (mSome (mNeg (ret (.int 1))))) aNil)) (mCons (mCallD false [] (z_way_in N) (aFr (mSl dSl (mVar 0) (mSome (mNeg (ret (.int 1)))) mNo) aNil)) mNil))))
def z_push_in (N : Nat) : List SV → R Fl := runD 0 (b_push_in N)
/- deed_in -/
def b_deed_in (N : Nat) : M Fl := (mSeq (mSet 1 (mMs sFind (mRepl "-" "+" (mVar 0)) (mCons (ret (.str "+")) mNil)))
    (mSeq (mDo (mCallD false [] (z_sure N) (aFr (mBin dGe (mVar 1) (ret (.int 0))) aNil)))
    (mRet (mBin dAdd (mCallD false [] (z_push_in N) (aFr (mSl dSl (mVar 0) mNo (mSome (mBin dAdd (mVar 1) (ret (.int 1))))) aNil)) (mTup (mCons (mCallD false [] (z_count_in N) (aFr (mSl dSl (mVar 0) (mSome (mBin dAdd (mVar 1) (ret (.int 1)))) mNo) aNil)) mNil))))))
def z_deed_in (N : Nat) : List SV → R Fl := runD 1 (b_deed_in N)
/- words_in -/
def b_words_in (N : Nat) : M Fl := (mSeq (mIf (asB (mBin dEq (mVar 0) (ret (.str "none"))))
    (mRet (mFz (mLst mNil)))
    (ret .nx))
    (mRet (mMs sSplit (mVar 0) (mCons (ret (.str " ")) mNil))))
def z_words_in (N : Nat) : List SV → R Fl := runD 0 (b_words_in N)
/- read_row -/
def b_read_row (N : Nat) : M Fl := (mRetN (mComp [1] (mIter (mCallD false [] (z_words_in N) (aFr (mVar 0) aNil))) (gT 1) (ret true) (mCallD false [] (z_deed_in N) (aFr (mVar 1) aNil))))
def z_read_row (N : Nat) : List SV → R Fl := runD 1 (b_read_row N)
/- read_pushes -/
def b_read_pushes (N : Nat) : M Fl := (mRetN (mComp [1] (mIter (mCallD false [] (z_words_in N) (aFr (mVar 0) aNil))) (gT 1) (ret true) (mCallD false [] (z_push_in N) (aFr (mVar 1) aNil))))
def z_read_pushes (N : Nat) : List SV → R Fl := runD 1 (b_read_pushes N)
/- shown_in -/
def b_shown_in (N : Nat) : M Fl := (mSeq (mDo (mCallD false [] (z_sure N) (aFr (mBin (dIn false) (mVar 0) (mFz (mLst (mCons (ret (.str "1")) (mCons (ret (.str "-1")) (mCons (ret (.str "0")) mNil)))))) aNil)))
    (mRet (mCall dInt (mCons (mVar 0) mNil))))
def z_shown_in (N : Nat) : List SV → R Fl := runD 0 (b_shown_in N)
/- read_shown -/
def b_read_shown (N : Nat) : M Fl := (mSeq (mOwn 1 (mLst mNil))
    (mSeq (mFor [2, 3, 4, 5] (mIter (mCallD false [] (z_words_in N) (aFr (mVar 0) aNil))) (gT 2)
    (mSeq (mAsg (gTup [(gT 3), (gT 4), (gT 5)]) (mMs sPart (mVar 2) (mCons (ret (.str "=")) mNil)))
    (mApp 1 (mBin dAdd (mCallD false [] (z_push_in N) (aFr (mVar 3) aNil)) (mTup (mCons (mCallD false [] (z_shown_in N) (aFr (mVar 5) aNil)) mNil))))))
    (mRetO 1)))
def z_read_shown (N : Nat) : List SV → R Fl := runD 5 (b_read_shown N)
/- read_shows -/
def b_read_shows (N : Nat) : M Fl := (mSeq (mOwn 1 (mLst mNil))
    (mSeq (mFor [2, 3, 4, 5] (mIter (mCallD false [] (z_words_in N) (aFr (mVar 0) aNil))) (gT 2)
    (mSeq (mAsg (gTup [(gT 3), (gT 4), (gT 5)]) (mMs sPart (mVar 2) (mCons (ret (.str "=")) mNil)))
    (mApp 1 (mTup (mCons (mCallD false [] (z_way_in N) (aFr (mVar 3) aNil)) (mCons (mCallD false [] (z_shown_in N) (aFr (mVar 5) aNil)) mNil))))))
    (mRetO 1)))
def z_read_shows (N : Nat) : List SV → R Fl := runD 5 (b_read_shows N)
/- w_whole -/
def b_w_whole (N : Nat) : M Fl := (mRet (mAndV (mIsi "int" (mVar 0)) (ofB (mNot (asB (mIsi "bool" (mVar 0)))))))
def z_w_whole (N : Nat) : List SV → R Fl := runD 0 (b_w_whole N)
/- w_well -/
def b_w_well (N : Nat) : M Fl := (mSeq (mSet 2 (mFz (mListOf (mVar 1))))
    (mSeq (mSet 3 (mIxCallD [] [z_w_steps_text N, z_w_steps_text N, z_w_seen_text N, z_w_shows_text N] (mVar 0) (aFr (mVar 1) aNil)))
    (mSeq (mSet 4 (mIxCallD [] [z_show_row N, z_show_pushes N, z_show_shown N, z_show_shows N] (mVar 0) (aFr (mVar 2) aNil)))
    (mSeq (mIf (mOr (mNot (asB (mIsi "str" (mVar 4)))) (mOr (asB (mBin dNe (mVar 4) (mVar 3))) (asB (mBin dNe (mVar 2) (mVar 1)))))
    (mRet (ret (.bool false)))
    (ret .nx))
    (mSeq (mFor [5, 6] (mRange1 (mCons (ret (.int 2)) mNil)) (gT 5)
    (mSeq (mOwn 6 (mIxCallN [] [z_read_row N, z_read_pushes N, z_read_shown N, z_read_shows N] (mVar 0) (aFr (mVar 3) aNil)))
    (mSeq (mIf (borT (mOr (mNot (asB (mIsi "list" (mVar 6)))) (asB (mBin dNe (mVar 6) (mVar 1)))))
    (mRet (ret (.bool false)))
    (ret .nx))
    (mSeq (mIf (borT (mNot (asB (mCall dAll (mCons (mFz (mComp [8] (mIter (mVar 6)) (gT 8) (ret true) (mAndV (mIsi "tuple" (mVar 8)) (mCall dAll (mCons (mFz (mComp [7] (mIter (mVar 8)) (gT 7) (ret true) (mCallD false [] (z_w_whole N) (aFr (mVar 7) aNil)))) mNil))))) mNil)))))
    (mRet (ret (.bool false)))
    (ret .nx))
    (mApp 6 (ret .none))))))
    (mRet (ret (.bool true))))))))
def z_w_well (N : Nat) : List SV → R Fl := runD 7 (b_w_well N)
/- w_next -/
def b_w_next (N : Nat) : M Fl := (mSeq (mAsg (gIx 0 (ret (.int 1))) (mBin dAdd (mOIx 0 (ret (.int 1))) (ret (.int 1))))
    (mSeq (mSet 1 (mOIx 0 (ret (.int 1))))
    (mSeq (mIf (asB (mOIx 0 (ret (.int 2))))
    (mSeq (mSet 2 (mBin dMod (mOIx 0 (ret (.int 0))) (mBin dPow (ret (.int 10)) (ret (.int 6)))))
    (mSeq (mAsg (gIx 0 (ret (.int 0))) (mBin dFdiv (mOIx 0 (ret (.int 0))) (mBin dPow (ret (.int 10)) (ret (.int 6)))))
    (mRet (mVar 2))))
    (ret .nx))
    (mSeq (mSet 2 (mBin dMod (mBin dMul (mBin dAdd (mBin dAdd (mBin dMod (mOIx 0 (ret (.int 0))) (ret (.int 1000003))) (mBin dMul (mBin dMul (mVar 1) (mVar 1)) (ret (.int 7919)))) (mVar 1)) (ret (.int 48271))) (ret (.int 2147483629))))
    (mSeq (mSet 2 (mBin dMod (mBin dMul (mVar 2) (mVar 2)) (ret (.int 2147483587))))
    (mRet (mBin dFdiv (mBin dMod (mBin dMul (mVar 2) (mBin dAdd (mVar 2) (ret (.int 2)))) (ret (.int 2147483579))) (ret (.int 7)))))))))
def z_w_next (N : Nat) : List SV → R Fl := runD 2 (b_w_next N)
/- w_number -/
def b_w_number (N : Nat) : M Fl := (mSeq (mSet 1 (mBin dMod (mCallD false [0] (z_w_next N) (aSlO 0 aNil)) (ret (.int 4))))
    (mSeq (mSet 2 (mBin dMod (mCallD false [0] (z_w_next N) (aSlO 0 aNil)) (mBin dIx (mFz (mLst (mCons (ret (.int 3)) (mCons (ret (.int 30)) (mCons (ret (.int 1000)) (mCons (mBin dPow (ret (.int 10)) (ret (.int 6))) mNil)))))) (mVar 1))))
    (mSeq (mIf (asB (mBin dEq (mBin dMod (mCallD false [0] (z_w_next N) (aSlO 0 aNil)) (ret (.int 8))) (ret (.int 5))))
    (mSeq (mFor [3] (mRange1 (mCons (ret (.int 6)) mNil)) (gT 3)
    (mSet 2 (mBin dAdd (mBin dMul (mVar 2) (mBin dPow (ret (.int 10)) (ret (.int 6)))) (mBin dMod (mCallD false [0] (z_w_next N) (aSlO 0 aNil)) (mBin dPow (ret (.int 10)) (ret (.int 6)))))))
    (mSet 2 (mBin dMod (mVar 2) (mBin dPow (ret (.int 10)) (ret (.int 40))))))
    (ret .nx))
    (mRet (mVar 2)))))
def z_w_number (N : Nat) : List SV → R Fl := runD 3 (b_w_number N)
/- w_ways -/
def b_w_ways (N : Nat) : M Fl := (mRet (mFz (mComp [2] (mRange1 (mCons (mBin dMod (mCallD false [0] (z_w_next N) (aSlO 0 aNil)) (mVar 1)) mNil)) (gT 2) (ret true) (mBin dIx (mFz (mLst (mCons (ret (.int 1)) (mCons (mBin dSub (ret (.int 0)) (ret (.int 1))) mNil)))) (mBin dMod (mCallD false [0] (z_w_next N) (aSlO 0 aNil)) (ret (.int 2)))))))
def z_w_ways (N : Nat) : List SV → R Fl := runD 1 (b_w_ways N)
/- w_row -/
def b_w_row (N : Nat) : M Fl := (mRet (mFz (mComp [2] (mIter (mCallD false [0] (z_w_ways N) (aSlO 0 (aFr (mVar 1) aNil)))) (gT 2) (ret true) (mTup (mCons (mCallD false [0] (z_w_number N) (aSlO 0 aNil)) (mCons (mVar 2) (mCons (mCallD false [0] (z_w_number N) (aSlO 0 aNil)) mNil)))))))
def z_w_row (N : Nat) : List SV → R Fl := runD 1 (b_w_row N)
/- w_pushes -/
def b_w_pushes (N : Nat) : M Fl := (mRet (mFz (mComp [2] (mIter (mCallD false [0] (z_w_ways N) (aSlO 0 (aFr (mVar 1) aNil)))) (gT 2) (ret true) (mTup (mCons (mCallD false [0] (z_w_number N) (aSlO 0 aNil)) (mCons (mVar 2) mNil))))))
def z_w_pushes (N : Nat) : List SV → R Fl := runD 1 (b_w_pushes N)
/- w_seen -/
def b_w_seen (N : Nat) : M Fl := (mRet (mFz (mComp [2] (mIter (mCallD false [0] (z_w_ways N) (aSlO 0 (aFr (mVar 1) aNil)))) (gT 2) (ret true) (mTup (mCons (mCallD false [0] (z_w_number N) (aSlO 0 aNil)) (mCons (mVar 2) (mCons (mBin dSub (mBin dMod (mCallD false [0] (z_w_next N) (aSlO 0 aNil)) (ret (.int 3))) (ret (.int 1))) mNil)))))))
def z_w_seen (N : Nat) : List SV → R Fl := runD 1 (b_w_seen N)
/- w_shows -/
def b_w_shows (N : Nat) : M Fl := (mRet (mFz (mComp [2] (mIter (mCallD false [0] (z_w_ways N) (aSlO 0 (aFr (mVar 1) aNil)))) (gT 2) (ret true) (mTup (mCons (mVar 2) (mCons (mBin dSub (mBin dMod (mCallD false [0] (z_w_next N) (aSlO 0 aNil)) (ret (.int 3))) (ret (.int 1))) mNil))))))
def z_w_shows (N : Nat) : List SV → R Fl := runD 1 (b_w_shows N)
/- law -/
def b_law (N : Nat) : M Fl := (mSeq (mOwn 1 (mCallN false [] (z_w_draws N) (aFr (mBin dIx (mBin dAdd (mVar 0) (mFz (mLst (mCons (ret (.int 0)) mNil)))) (ret (.int 0))) aNil)))
    (mSeq (mSet 2 (mFz (mLst (mCons (mSl dSl (mBin dMul (mCallD false [0] (z_w_row N) (aSlO 1 (aFr (ret (.int 12)) aNil))) (ret (.int 16))) mNo (mSome (ret (.int 16)))) (mCons (mSl dSl (mBin dMul (mCallD false [0] (z_w_pushes N) (aSlO 1 (aFr (ret (.int 12)) aNil))) (ret (.int 500))) mNo (mSome (ret (.int 500)))) mNil)))))
    (mSeq (mSet 2 (mBin dAdd (mVar 2) (mFz (mLst (mCons (mSl dSl (mBin dMul (mCallD false [0] (z_w_seen N) (aSlO 1 (aFr (ret (.int 12)) aNil))) (ret (.int 300))) mNo (mSome (ret (.int 300)))) (mCons (mSl dSl (mBin dMul (mCallD false [0] (z_w_shows N) (aSlO 1 (aFr (ret (.int 20)) aNil))) (ret (.int 300))) mNo (mSome (ret (.int 300)))) mNil))))))
    (mSeq (mFor [3] (mRange1 (mCons (ret (.int 4)) mNil)) (gT 3)
    (mIf (mNot (asB (mCallD false [] (z_w_well N) (aFr (mVar 3) (aFr (mBin dIx (mVar 2) (mVar 3)) aNil)))))
    (mRet (ret (.bool false)))
    (ret .nx)))
    (mSeq (mFor [1, 3, 4, 5, 6, 7, 8] (mIter (mBin dAdd (mSl dSl (mVar 0) mNo (mSome (ret (.int 6)))) (mFz (mLst (mCons (ret (.int 0)) mNil))))) (gT 4)
    (mSeq (mOwn 1 (mCallN false [] (z_w_draws N) (aFr (mVar 4) aNil)))
    (mSeq (mOwn 5 (mLst mNil))
    (mSeq (mFor [6] (mRange1 (mCons (ret (.int 2)) mNil)) (gT 6)
    (mApp 5 (mFz (mLst (mCons (mCallD false [0] (z_w_row N) (aSlO 1 (aFr (ret (.int 12)) aNil))) (mCons (mCallD false [0] (z_w_pushes N) (aSlO 1 (aFr (ret (.int 12)) aNil))) (mCons (mCallD false [0] (z_w_seen N) (aSlO 1 (aFr (ret (.int 12)) aNil))) (mCons (mCallD false [0] (z_w_shows N) (aSlO 1 (aFr (ret (.int 20)) aNil))) mNil))))))))
    (mSeq (mSet 7 (mFz (mLst (mCons (mFz (mCallN false [] (z_read_row N) (aFr (mCallD false [] (z_w_steps_text N) (aFr (mBin dIx (mOIx 5 (ret (.int 0))) (ret (.int 0))) aNil)) aNil))) (mCons (mFz (mCallN false [] (z_read_pushes N) (aFr (mCallD false [] (z_w_steps_text N) (aFr (mBin dIx (mOIx 5 (ret (.int 0))) (ret (.int 1))) aNil)) aNil))) mNil)))))
    (mSeq (mSet 7 (mBin dAdd (mVar 7) (mFz (mLst (mCons (mFz (mCallN false [] (z_read_shown N) (aFr (mCallD false [] (z_w_seen_text N) (aFr (mBin dIx (mOIx 5 (ret (.int 0))) (ret (.int 2))) aNil)) aNil))) (mCons (mFz (mCallN false [] (z_read_shows N) (aFr (mCallD false [] (z_w_shows_text N) (aFr (mBin dIx (mOIx 5 (ret (.int 0))) (ret (.int 3))) aNil)) aNil))) mNil))))))
    (mSeq (mFor [3, 8] (mIter (mFz (mLst (mCons (mOIx 5 (ret (.int 1))) (mCons (mOIx 5 (ret (.int 0))) mNil))))) (gT 8)
    (mFor [3] (mRange1 (mCons (ret (.int 4)) mNil)) (gT 3)
    (mIf (mNot (asB (mCallD false [] (z_w_well N) (aFr (mVar 3) (aFr (mBin dIx (mVar 8) (mVar 3)) aNil)))))
    (mRet (ret (.bool false)))
    (ret .nx))))
    (mIf (asB (mBin dNe (mVar 7) (mOIx 5 (ret (.int 0)))))
    (mRet (ret (.bool false)))
    (ret .nx)))))))))
    (mRet (ret (.bool true))))))))
def z_law (N : Nat) : List SV → R Fl := runD 8 (b_law N)
end Tz
namespace Tz
open PySem PySem.Spec PyProof.Rows L2
def topS (i : Nat) : Stmt := PySem.Challenge.pw_clicktrain_k72_rows_and_shows_as_texts.main.body.getD i (.Pass ⟨0, 0, 0, 0⟩)
def bltN : List Str := ["all", "bool", "int", "isinstance", "len", "list", "range", "str", "tuple"]
section
variable {P : Program} {w : World} {K : PySem.W.Frag} {mg : Str → Option Value} {base : Heap}
abbrev s_w_draws : Stmt := topS 25
theorem sc_w_draws : FnScope ["_law_cell"] ["_law_cell"] (defScope s_w_draws) := ⟨rfl, rfl, rfl, by decide +kernel, rfl, by decide +kernel, by decide +kernel⟩
theorem k_w_draws (N : Nat) {f : Addr} {fd : FuncData} (F : FunD K "_law_draws" "_law_draws" (defArgs s_w_draws) (defBody s_w_draws) (defScope s_w_draws) [] [] f fd) (hm : mg "_law_draws" = some (.ref f)) (hB : ∀ x : Str, x ∈ bltN → mg x = none) : Cal P w K mg base 1 "_law_draws" ["_law_cell"] [] (z_w_draws N) :=
  cal_mk F hm sc_w_draws [] (b_w_draws N) (fun _ _ _ _ _ _ us hl => match us, hl with | [_], _ => rfl) fun cdv A outer s H E F0 io hr => (tl_seq (tl_if (tl_tcmp opD_lt (tl_var 0) (tl_op opD_pow tl_int tl_int) (nomark _))
    (tl_one (tl_retN (tl_lstN (tl_cons (tl_var 0) (tl_cons tl_int (tl_cons tl_bl tl_nil))))))
    tl_empty)
    (tl_one (tl_retN (tl_lstN (tl_cons (tl_op opD_mod (tl_var 0) (tl_op opD_pow (tl_op opD_pow (tl_op opD_pow tl_int tl_int) tl_int) tl_int)) (tl_cons tl_int (tl_cons tl_bl tl_nil)))))))
abbrev s_w_list_text : Stmt := topS 34
theorem sc_w_list_text : FnScope ["_law_words"] ["_law_words"] (defScope s_w_list_text) := ⟨rfl, rfl, rfl, by decide +kernel, rfl, by decide +kernel, by decide +kernel⟩
theorem k_w_list_text (N : Nat) {f : Addr} {fd : FuncData} (F : FunD K "_law_list_text" "_law_list_text" (defArgs s_w_list_text) (defBody s_w_list_text) (defScope s_w_list_text) [] [] f fd) (hm : mg "_law_list_text" = some (.ref f)) (hB : ∀ x : Str, x ∈ bltN → mg x = none) : Cal P w K mg base 1 "_law_list_text" ["_law_words"] [] (z_w_list_text N) :=
  cal_mk F hm sc_w_list_text [] (b_w_list_text N) (fun _ _ _ _ _ _ us hl => match us, hl with | [_], _ => rfl) fun cdv A outer s H E F0 io hr => (tl_one (tl_ret (tl_op opD_add (tl_ms PySem.F.slot_str_join PySem.F.type_str_join mD_join tl_str (tl_cons (tl_var 0) tl_nil)) (tl_op opD_mul tl_str (tl_callT cD_int (by rfl) (hB "int" (by decide)) (by decide +kernel) (tl_cons (tl_cmp (opD_eq hr.units) (tl_var 0) (tl_fz (tl_lstN tl_nil)) (nomark _)) tl_nil))))))
abbrev s_w_step_text : Stmt := topS 35
theorem sc_w_step_text : FnScope ["_law_step", "_law_times"] ["_law_step"] (defScope s_w_step_text) := ⟨rfl, rfl, rfl, by decide +kernel, rfl, by decide +kernel, by decide +kernel⟩
theorem k_w_step_text (N : Nat) {f : Addr} {fd : FuncData} (F : FunD K "_law_step_text" "_law_step_text" (defArgs s_w_step_text) (defBody s_w_step_text) (defScope s_w_step_text) [] [] f fd) (hm : mg "_law_step_text" = some (.ref f)) (hB : ∀ x : Str, x ∈ bltN → mg x = none) : Cal P w K mg base 1 "_law_step_text" ["_law_step"] [] (z_w_step_text N) :=
  cal_mk F hm sc_w_step_text [] (b_w_step_text N) (fun _ _ _ _ _ _ us hl => match us, hl with | [_], _ => rfl) fun cdv A outer s H E F0 io hr => (tl_one (tl_ret (tl_op opD_add (tl_op opD_add (tl_callT cD_str (by rfl) (hB "str" (by decide)) (by decide +kernel) (tl_cons (tl_ix (tl_var 0) tl_int) tl_nil)) (tl_ix tl_str (tl_callT cD_int (by rfl) (hB "int" (by decide)) (by decide +kernel) (tl_cons (tl_cmp opD_lt (tl_ix (tl_var 0) tl_int) tl_int (nomark _)) tl_nil)))) (tl_ms PySem.F.slot_str_join PySem.F.type_str_join mD_join tl_str (tl_cons (tl_fz (tl_comp (own := [("_law_times", 1)]) rfl sc_w_step_text.nd (ti_seq (tl_slice (tl_var 0) (tl_some tl_int) tl_no)) (blkOk_by (by kernel_rfl)) (fun _ _ _ _ _ _ => (tg_name 1 [1] sc_w_step_text.nd)) (fun _ _ _ _ _ _ => tl_pts0) (fun _ _ _ _ _ _ => (tl_callT cD_str (by rfl) (hB "str" (by decide)) (by decide +kernel) (tl_cons (tl_var 1) tl_nil))))) tl_nil)))))
abbrev s_w_steps_text : Stmt := topS 36
theorem sc_w_steps_text : FnScope ["_law_steps", "_law_step"] ["_law_steps"] (defScope s_w_steps_text) := ⟨rfl, rfl, rfl, by decide +kernel, rfl, by decide +kernel, by decide +kernel⟩
theorem k_w_steps_text (N : Nat) {f : Addr} {fd : FuncData} (F : FunD K "_law_steps_text" "_law_steps_text" (defArgs s_w_steps_text) (defBody s_w_steps_text) (defScope s_w_steps_text) [] [] f fd) (hm : mg "_law_steps_text" = some (.ref f)) (hB : ∀ x : Str, x ∈ bltN → mg x = none) (c_w_list_text : Cal P w K mg base 1 "_law_list_text" ["_law_words"] [] (z_w_list_text N)) (c_w_step_text : Cal P w K mg base 1 "_law_step_text" ["_law_step"] [] (z_w_step_text N)) : Cal P w K mg base 2 "_law_steps_text" ["_law_steps"] [] (z_w_steps_text N) :=
  cal_mk F hm sc_w_steps_text [] (b_w_steps_text N) (fun _ _ _ _ _ _ us hl => match us, hl with | [_], _ => rfl) fun cdv A outer s H E F0 io hr => (tl_one (tl_ret (tl_c c_w_list_text hr (by rfl) (ta_fr (tl_fz (tl_comp (own := [("_law_step", 1)]) rfl sc_w_steps_text.nd (ti_seq (tl_var 0)) (blkOk_by (by kernel_rfl)) (fun _ _ _ _ _ _ => (tg_name 1 [1] sc_w_steps_text.nd)) (fun _ _ _ _ _ _ => tl_pts0) (fun _ _ _ _ _ _ => (tl_c c_w_step_text hr (by rfl) (ta_fr (tl_var 1) ta_nil) (fr_len nil_len))))) ta_nil) (fr_len nil_len))))
abbrev s_w_seen_text : Stmt := topS 37
theorem sc_w_seen_text : FnScope ["_law_seen_here", "_law_one"] ["_law_seen_here"] (defScope s_w_seen_text) := ⟨rfl, rfl, rfl, by decide +kernel, rfl, by decide +kernel, by decide +kernel⟩
theorem k_w_seen_text (N : Nat) {f : Addr} {fd : FuncData} (F : FunD K "_law_seen_text" "_law_seen_text" (defArgs s_w_seen_text) (defBody s_w_seen_text) (defScope s_w_seen_text) [] [] f fd) (hm : mg "_law_seen_text" = some (.ref f)) (hB : ∀ x : Str, x ∈ bltN → mg x = none) (c_w_list_text : Cal P w K mg base 1 "_law_list_text" ["_law_words"] [] (z_w_list_text N)) (c_w_step_text : Cal P w K mg base 1 "_law_step_text" ["_law_step"] [] (z_w_step_text N)) : Cal P w K mg base 2 "_law_seen_text" ["_law_seen_here"] [] (z_w_seen_text N) :=
  cal_mk F hm sc_w_seen_text [] (b_w_seen_text N) (fun _ _ _ _ _ _ us hl => match us, hl with | [_], _ => rfl) fun cdv A outer s H E F0 io hr => (tl_one (tl_ret (tl_c c_w_list_text hr (by rfl) (ta_fr (tl_fz (tl_comp (own := [("_law_one", 1)]) rfl sc_w_seen_text.nd (ti_seq (tl_var 0)) (blkOk_by (by kernel_rfl)) (fun _ _ _ _ _ _ => (tg_name 1 [1] sc_w_seen_text.nd)) (fun _ _ _ _ _ _ => tl_pts0) (fun _ _ _ _ _ _ => (tl_op opD_add (tl_op opD_add (tl_c c_w_step_text hr (by rfl) (ta_fr (tl_slice (tl_var 1) tl_no (tl_some tl_int)) ta_nil) (fr_len nil_len)) tl_str) (tl_callT cD_str (by rfl) (hB "str" (by decide)) (by decide +kernel) (tl_cons (tl_ix (tl_var 1) tl_int) tl_nil)))))) ta_nil) (fr_len nil_len))))
abbrev s_w_shows_text : Stmt := topS 38
theorem sc_w_shows_text : FnScope ["_law_shows_here", "_law_way", "_law_shown"] ["_law_shows_here"] (defScope s_w_shows_text) := ⟨rfl, rfl, rfl, by decide +kernel, rfl, by decide +kernel, by decide +kernel⟩
theorem k_w_shows_text (N : Nat) {f : Addr} {fd : FuncData} (F : FunD K "_law_shows_text" "_law_shows_text" (defArgs s_w_shows_text) (defBody s_w_shows_text) (defScope s_w_shows_text) [] [] f fd) (hm : mg "_law_shows_text" = some (.ref f)) (hB : ∀ x : Str, x ∈ bltN → mg x = none) (c_w_list_text : Cal P w K mg base 1 "_law_list_text" ["_law_words"] [] (z_w_list_text N)) : Cal P w K mg base 2 "_law_shows_text" ["_law_shows_here"] [] (z_w_shows_text N) :=
  cal_mk F hm sc_w_shows_text [] (b_w_shows_text N) (fun _ _ _ _ _ _ us hl => match us, hl with | [_], _ => rfl) fun cdv A outer s H E F0 io hr => (tl_one (tl_ret (tl_c c_w_list_text hr (by rfl) (ta_fr (tl_fz (tl_comp (own := [("_law_way", 1), ("_law_shown", 2)]) rfl sc_w_shows_text.nd (ti_seq (tl_var 0)) (blkOk_by (by kernel_rfl)) (fun _ _ _ _ _ _ => (tg_tup rfl (tg_cons (tg_name 1 [1, 2] sc_w_shows_text.nd) (tg_cons (tg_name 2 [1, 2] sc_w_shows_text.nd) tg_nil)))) (fun _ _ _ _ _ _ => tl_pts0) (fun _ _ _ _ _ _ => (tl_op opD_add (tl_op opD_add (tl_ix tl_str (tl_callT cD_int (by rfl) (hB "int" (by decide)) (by decide +kernel) (tl_cons (tl_cmp opD_lt (tl_var 1) tl_int (nomark _)) tl_nil))) tl_str) (tl_callT cD_str (by rfl) (hB "str" (by decide)) (by decide +kernel) (tl_cons (tl_var 2) tl_nil)))))) ta_nil) (fr_len nil_len))))
abbrev s_listed : Stmt := topS 10
theorem sc_listed : FnScope ["words"] ["words"] (defScope s_listed) := ⟨rfl, rfl, rfl, by decide +kernel, rfl, by decide +kernel, by decide +kernel⟩
theorem k_listed (N : Nat) {f : Addr} {fd : FuncData} (F : FunD K "listed" "listed" (defArgs s_listed) (defBody s_listed) (defScope s_listed) [] [] f fd) (hm : mg "listed" = some (.ref f)) (hB : ∀ x : Str, x ∈ bltN → mg x = none) : Cal P w K mg base 1 "listed" ["words"] [] (z_listed N) :=
  cal_mk F hm sc_listed [] (b_listed N) (fun _ _ _ _ _ _ us hl => match us, hl with | [_], _ => rfl) fun cdv A outer s H E F0 io hr => (tl_seq (tl_if (tl_tcmp (opD_eq hr.units) (tl_var 0) (tl_fz (tl_lstN tl_nil)) (nomark _))
    (tl_one (tl_ret tl_str))
    tl_empty)
    (tl_one (tl_ret (tl_ms PySem.F.slot_str_join PySem.F.type_str_join mD_join tl_str (tl_cons (tl_var 0) tl_nil)))))
abbrev s_way_shown : Stmt := topS 9
theorem sc_way_shown : FnScope ["way"] ["way"] (defScope s_way_shown) := ⟨rfl, rfl, rfl, by decide +kernel, rfl, by decide +kernel, by decide +kernel⟩
theorem k_way_shown (N : Nat) {f : Addr} {fd : FuncData} (F : FunD K "way_shown" "way_shown" (defArgs s_way_shown) (defBody s_way_shown) (defScope s_way_shown) [] [] f fd) (hm : mg "way_shown" = some (.ref f)) (hB : ∀ x : Str, x ∈ bltN → mg x = none) : Cal P w K mg base 1 "way_shown" ["way"] [] (z_way_shown N) :=
  cal_mk F hm sc_way_shown [] (b_way_shown N) (fun _ _ _ _ _ _ us hl => match us, hl with | [_], _ => rfl) fun cdv A outer s H E F0 io hr => (tl_one (tl_ret (tl_ix tl_str (tl_callT cD_int (by rfl) (hB "int" (by decide)) (by decide +kernel) (tl_cons (tl_cmp (opD_eq hr.units) (tl_var 0) tl_int (nomark _)) tl_nil)))))
abbrev s_step_shown : Stmt := topS 12
theorem sc_step_shown : FnScope ["step", "times"] ["step"] (defScope s_step_shown) := ⟨rfl, rfl, rfl, by decide +kernel, rfl, by decide +kernel, by decide +kernel⟩
theorem k_step_shown (N : Nat) {f : Addr} {fd : FuncData} (F : FunD K "step_shown" "step_shown" (defArgs s_step_shown) (defBody s_step_shown) (defScope s_step_shown) [] [] f fd) (hm : mg "step_shown" = some (.ref f)) (hB : ∀ x : Str, x ∈ bltN → mg x = none) (c_way_shown : Cal P w K mg base 1 "way_shown" ["way"] [] (z_way_shown N)) : Cal P w K mg base 2 "step_shown" ["step"] [] (z_step_shown N) :=
  cal_mk F hm sc_step_shown [] (b_step_shown N) (fun _ _ _ _ _ _ us hl => match us, hl with | [_], _ => rfl) fun cdv A outer s H E F0 io hr => (tl_one (tl_ret (tl_op opD_add (tl_op opD_add (tl_callT cD_str (by rfl) (hB "str" (by decide)) (by decide +kernel) (tl_cons (tl_ix (tl_var 0) tl_int) tl_nil)) (tl_c c_way_shown hr (by rfl) (ta_fr (tl_ix (tl_var 0) tl_int) ta_nil) (fr_len nil_len))) (tl_ms PySem.F.slot_str_join PySem.F.type_str_join mD_join tl_str (tl_cons (tl_fz (tl_comp (own := [("times", 1)]) rfl sc_step_shown.nd (ti_seq (tl_slice (tl_var 0) (tl_some tl_int) tl_no)) (blkOk_by (by kernel_rfl)) (fun _ _ _ _ _ _ => (tg_name 1 [1] sc_step_shown.nd)) (fun _ _ _ _ _ _ => tl_pts0) (fun _ _ _ _ _ _ => (tl_callT cD_str (by rfl) (hB "str" (by decide)) (by decide +kernel) (tl_cons (tl_var 1) tl_nil))))) tl_nil)))))
abbrev s_show_row : Stmt := topS 15
theorem sc_show_row : FnScope ["row", "deed"] ["row"] (defScope s_show_row) := ⟨rfl, rfl, rfl, by decide +kernel, rfl, by decide +kernel, by decide +kernel⟩
theorem k_show_row (N : Nat) {f : Addr} {fd : FuncData} (F : FunD K "show_row" "show_row" (defArgs s_show_row) (defBody s_show_row) (defScope s_show_row) [] [] f fd) (hm : mg "show_row" = some (.ref f)) (hB : ∀ x : Str, x ∈ bltN → mg x = none) (c_listed : Cal P w K mg base 1 "listed" ["words"] [] (z_listed N)) (c_step_shown : Cal P w K mg base 2 "step_shown" ["step"] [] (z_step_shown N)) : Cal P w K mg base 3 "show_row" ["row"] [] (z_show_row N) :=
  cal_mk F hm sc_show_row [] (b_show_row N) (fun _ _ _ _ _ _ us hl => match us, hl with | [_], _ => rfl) fun cdv A outer s H E F0 io hr => (tl_one (tl_ret (tl_c c_listed (hr.mono (by decide)) (by rfl) (ta_fr (tl_fz (tl_comp (own := [("deed", 1)]) rfl sc_show_row.nd (ti_seq (tl_var 0)) (blkOk_by (by kernel_rfl)) (fun _ _ _ _ _ _ => (tg_name 1 [1] sc_show_row.nd)) (fun _ _ _ _ _ _ => tl_pts0) (fun _ _ _ _ _ _ => (tl_c c_step_shown hr (by rfl) (ta_fr (tl_var 1) ta_nil) (fr_len nil_len))))) ta_nil) (fr_len nil_len))))
abbrev s_show_pushes : Stmt := topS 17
theorem sc_show_pushes : FnScope ["pushes", "push"] ["pushes"] (defScope s_show_pushes) := ⟨rfl, rfl, rfl, by decide +kernel, rfl, by decide +kernel, by decide +kernel⟩
theorem k_show_pushes (N : Nat) {f : Addr} {fd : FuncData} (F : FunD K "show_pushes" "show_pushes" (defArgs s_show_pushes) (defBody s_show_pushes) (defScope s_show_pushes) [] [] f fd) (hm : mg "show_pushes" = some (.ref f)) (hB : ∀ x : Str, x ∈ bltN → mg x = none) (c_listed : Cal P w K mg base 1 "listed" ["words"] [] (z_listed N)) (c_step_shown : Cal P w K mg base 2 "step_shown" ["step"] [] (z_step_shown N)) : Cal P w K mg base 3 "show_pushes" ["pushes"] [] (z_show_pushes N) :=
  cal_mk F hm sc_show_pushes [] (b_show_pushes N) (fun _ _ _ _ _ _ us hl => match us, hl with | [_], _ => rfl) fun cdv A outer s H E F0 io hr => (tl_one (tl_ret (tl_c c_listed (hr.mono (by decide)) (by rfl) (ta_fr (tl_fz (tl_comp (own := [("push", 1)]) rfl sc_show_pushes.nd (ti_seq (tl_var 0)) (blkOk_by (by kernel_rfl)) (fun _ _ _ _ _ _ => (tg_name 1 [1] sc_show_pushes.nd)) (fun _ _ _ _ _ _ => tl_pts0) (fun _ _ _ _ _ _ => (tl_c c_step_shown hr (by rfl) (ta_fr (tl_var 1) ta_nil) (fr_len nil_len))))) ta_nil) (fr_len nil_len))))
abbrev s_show_shown : Stmt := topS 20
theorem sc_show_shown : FnScope ["shown", "i", "way", "told"] ["shown"] (defScope s_show_shown) := ⟨rfl, rfl, rfl, by decide +kernel, rfl, by decide +kernel, by decide +kernel⟩
theorem k_show_shown (N : Nat) {f : Addr} {fd : FuncData} (F : FunD K "show_shown" "show_shown" (defArgs s_show_shown) (defBody s_show_shown) (defScope s_show_shown) [] [] f fd) (hm : mg "show_shown" = some (.ref f)) (hB : ∀ x : Str, x ∈ bltN → mg x = none) (c_listed : Cal P w K mg base 1 "listed" ["words"] [] (z_listed N)) (c_way_shown : Cal P w K mg base 1 "way_shown" ["way"] [] (z_way_shown N)) : Cal P w K mg base 2 "show_shown" ["shown"] [] (z_show_shown N) :=
  cal_mk F hm sc_show_shown [] (b_show_shown N) (fun _ _ _ _ _ _ us hl => match us, hl with | [_], _ => rfl) fun cdv A outer s H E F0 io hr => (tl_one (tl_ret (tl_c c_listed hr (by rfl) (ta_fr (tl_fz (tl_comp (own := [("i", 1), ("way", 2), ("told", 3)]) rfl sc_show_shown.nd (ti_seq (tl_var 0)) (blkOk_by (by kernel_rfl)) (fun _ _ _ _ _ _ => (tg_tup rfl (tg_cons (tg_name 1 [1, 2, 3] sc_show_shown.nd) (tg_cons (tg_name 2 [1, 2, 3] sc_show_shown.nd) (tg_cons (tg_name 3 [1, 2, 3] sc_show_shown.nd) tg_nil))))) (fun _ _ _ _ _ _ => tl_pts0) (fun _ _ _ _ _ _ => (tl_op opD_add (tl_op opD_add (tl_op opD_add (tl_callT cD_str (by rfl) (hB "str" (by decide)) (by decide +kernel) (tl_cons (tl_var 1) tl_nil)) (tl_c c_way_shown hr (by rfl) (ta_fr (tl_var 2) ta_nil) (fr_len nil_len))) tl_str) (tl_callT cD_str (by rfl) (hB "str" (by decide)) (by decide +kernel) (tl_cons (tl_var 3) tl_nil)))))) ta_nil) (fr_len nil_len))))
abbrev s_show_shows : Stmt := topS 22
theorem sc_show_shows : FnScope ["shows", "way", "told"] ["shows"] (defScope s_show_shows) := ⟨rfl, rfl, rfl, by decide +kernel, rfl, by decide +kernel, by decide +kernel⟩
theorem k_show_shows (N : Nat) {f : Addr} {fd : FuncData} (F : FunD K "show_shows" "show_shows" (defArgs s_show_shows) (defBody s_show_shows) (defScope s_show_shows) [] [] f fd) (hm : mg "show_shows" = some (.ref f)) (hB : ∀ x : Str, x ∈ bltN → mg x = none) (c_listed : Cal P w K mg base 1 "listed" ["words"] [] (z_listed N)) (c_way_shown : Cal P w K mg base 1 "way_shown" ["way"] [] (z_way_shown N)) : Cal P w K mg base 2 "show_shows" ["shows"] [] (z_show_shows N) :=
  cal_mk F hm sc_show_shows [] (b_show_shows N) (fun _ _ _ _ _ _ us hl => match us, hl with | [_], _ => rfl) fun cdv A outer s H E F0 io hr => (tl_one (tl_ret (tl_c c_listed hr (by rfl) (ta_fr (tl_fz (tl_comp (own := [("way", 1), ("told", 2)]) rfl sc_show_shows.nd (ti_seq (tl_var 0)) (blkOk_by (by kernel_rfl)) (fun _ _ _ _ _ _ => (tg_tup rfl (tg_cons (tg_name 1 [1, 2] sc_show_shows.nd) (tg_cons (tg_name 2 [1, 2] sc_show_shows.nd) tg_nil)))) (fun _ _ _ _ _ _ => tl_pts0) (fun _ _ _ _ _ _ => (tl_op opD_add (tl_op opD_add (tl_c c_way_shown hr (by rfl) (ta_fr (tl_var 1) ta_nil) (fr_len nil_len)) tl_str) (tl_callT cD_str (by rfl) (hB "str" (by decide)) (by decide +kernel) (tl_cons (tl_var 2) tl_nil)))))) ta_nil) (fr_len nil_len))))
abbrev s_sure : Stmt := topS 6
theorem sc_sure : FnScope ["good"] ["good"] (defScope s_sure) := ⟨rfl, rfl, rfl, by decide +kernel, rfl, by decide +kernel, by decide +kernel⟩
theorem k_sure (N : Nat) {f : Addr} {fd : FuncData} (F : FunD K "sure" "sure" (defArgs s_sure) (defBody s_sure) (defScope s_sure) [] [] f fd) (hm : mg "sure" = some (.ref f)) (hB : ∀ x : Str, x ∈ bltN → mg x = none) : Cal P w K mg base 1 "sure" ["good"] [] (z_sure N) :=
  cal_mk F hm sc_sure [] (b_sure N) (fun _ _ _ _ _ _ us hl => match us, hl with | [_], _ => rfl) fun cdv A outer s H E F0 io hr => (tl_one (tl_if (tl_not (tl_test (tl_var 0)))
    (tl_one tl_never)
    tl_empty))
abbrev s_count_in : Stmt := topS 7
theorem sc_count_in : FnScope ["word", "sign"] ["word"] (defScope s_count_in) := ⟨rfl, rfl, rfl, by decide +kernel, rfl, by decide +kernel, by decide +kernel⟩
theorem k_count_in (N : Nat) {f : Addr} {fd : FuncData} (F : FunD K "count_in" "count_in" (defArgs s_count_in) (defBody s_count_in) (defScope s_count_in) [] [] f fd) (hm : mg "count_in" = some (.ref f)) (hB : ∀ x : Str, x ∈ bltN → mg x = none) (c_sure : Cal P w K mg base 1 "sure" ["good"] [] (z_sure N)) {tFIGURES : Tok} (hFIGURES : mg "FIGURES" = some (.str "0123456789" tFIGURES)) {tLONGEST : Tok} (hLONGEST : mg "LONGEST" = some (.int 40 tLONGEST)) : Cal P w K mg base 2 "count_in" ["word"] [] (z_count_in N) :=
  cal_mk F hm sc_count_in [] (b_count_in N) (fun _ _ _ _ _ _ us hl => match us, hl with | [_], _ => rfl) fun cdv A outer s H E F0 io hr => (tl_seq (tl_do (tl_c c_sure hr (by rfl) (ta_fr (tl_andV (tl_chain opD_le opD_le tl_int (tl_callB cD_len (by rfl) (hB "len" (by decide)) (by decide +kernel) (tl_cons (tl_var 0) tl_nil)) (tl_gint (by rfl) hLONGEST)) (tl_oneV (tl_callB (cD_all rfl) (by rfl) (hB "all" (by decide)) (by decide +kernel) (tl_cons (tl_fz (tl_comp (own := [("sign", 1)]) rfl sc_count_in.nd (ti_seq (tl_var 0)) (blkOk_by (by kernel_rfl)) (fun _ _ _ _ _ _ => (tg_name 1 [1] sc_count_in.nd)) (fun _ _ _ _ _ _ => tl_pts0) (fun _ _ _ _ _ _ => (tl_cmp (opD_in (hu65 hr)) (tl_var 1) (tl_gstr (by rfl) hFIGURES) (by rfl))))) tl_nil)))) ta_nil) (fr_len nil_len)))
    (tl_seq (tl_do (tl_c c_sure hr (by rfl) (ta_fr (tl_orV (tl_cmp (opD_ne hr.units) (tl_ix (tl_var 0) tl_int) tl_str (nomark _)) (tl_oneV (tl_cmp (opD_eq hr.units) (tl_var 0) tl_str (nomark _)))) ta_nil) (fr_len nil_len)))
    (tl_one (tl_ret (tl_callT cD_int (by rfl) (hB "int" (by decide)) (by decide +kernel) (tl_cons (tl_var 0) tl_nil))))))
abbrev s_way_in : Stmt := topS 8
theorem sc_way_in : FnScope ["word"] ["word"] (defScope s_way_in) := ⟨rfl, rfl, rfl, by decide +kernel, rfl, by decide +kernel, by decide +kernel⟩
theorem k_way_in (N : Nat) {f : Addr} {fd : FuncData} (F : FunD K "way_in" "way_in" (defArgs s_way_in) (defBody s_way_in) (defScope s_way_in) [] [] f fd) (hm : mg "way_in" = some (.ref f)) (hB : ∀ x : Str, x ∈ bltN → mg x = none) (c_sure : Cal P w K mg base 1 "sure" ["good"] [] (z_sure N)) : Cal P w K mg base 2 "way_in" ["word"] [] (z_way_in N) :=
  cal_mk F hm sc_way_in [] (b_way_in N) (fun _ _ _ _ _ _ us hl => match us, hl with | [_], _ => rfl) fun cdv A outer s H E F0 io hr => (tl_seq (tl_do (tl_c c_sure hr (by rfl) (ta_fr (tl_orV (tl_cmp (opD_eq hr.units) (tl_var 0) tl_str (nomark _)) (tl_oneV (tl_cmp (opD_eq hr.units) (tl_var 0) tl_str (nomark _)))) ta_nil) (fr_len nil_len)))
    (tl_one (tl_ret (tl_ix (tl_fz (tl_lstN (tl_cons tl_int (tl_cons (tl_op opD_sub tl_int tl_int) tl_nil)))) (tl_callT cD_int (by rfl) (hB "int" (by decide)) (by decide +kernel) (tl_cons (tl_cmp (opD_eq hr.units) (tl_var 0) tl_str (nomark _)) tl_nil))))))
abbrev s_push_in : Stmt := topS 13
theorem sc_push_in : FnScope ["word"] ["word"] (defScope s_push_in) := ⟨rfl, rfl, rfl, by decide +kernel, rfl, by decide +kernel, by decide +kernel⟩
theorem k_push_in (N : Nat) {f : Addr} {fd : FuncData} (F : FunD K "push_in" "push_in" (defArgs s_push_in) (defBody s_push_in) (defScope s_push_in) [] [] f fd) (hm : mg "push_in" = some (.ref f)) (hB : ∀ x : Str, x ∈ bltN → mg x = none) (c_count_in : Cal P w K mg base 2 "count_in" ["word"] [] (z_count_in N)) (c_way_in : Cal P w K mg base 2 "way_in" ["word"] [] (z_way_in N)) : Cal P w K mg base 3 "push_in" ["word"] [] (z_push_in N) :=
  cal_mk F hm sc_push_in [] (b_push_in N) (fun _ _ _ _ _ _ us hl => match us, hl with | [_], _ => rfl) fun cdv A outer s H E F0 io hr => (tl_one (tl_ret (tl_tup (tl_cons (tl_c c_count_in hr (by rfl) (ta_fr (tl_slice (tl_var 0) tl_no (tl_some (tl_neg tl_int))) ta_nil) (fr_len nil_len)) (tl_cons (tl_c c_way_in hr (by rfl) (ta_fr (tl_slice (tl_var 0) (tl_some (tl_neg tl_int)) tl_no) ta_nil) (fr_len nil_len)) tl_nil)))))
abbrev s_deed_in : Stmt := topS 14
theorem sc_deed_in : FnScope ["word", "at"] ["word"] (defScope s_deed_in) := ⟨rfl, rfl, rfl, by decide +kernel, rfl, by decide +kernel, by decide +kernel⟩
theorem k_deed_in (N : Nat) {f : Addr} {fd : FuncData} (F : FunD K "deed_in" "deed_in" (defArgs s_deed_in) (defBody s_deed_in) (defScope s_deed_in) [] [] f fd) (hm : mg "deed_in" = some (.ref f)) (hB : ∀ x : Str, x ∈ bltN → mg x = none) (c_sure : Cal P w K mg base 1 "sure" ["good"] [] (z_sure N)) (c_count_in : Cal P w K mg base 2 "count_in" ["word"] [] (z_count_in N)) (c_push_in : Cal P w K mg base 3 "push_in" ["word"] [] (z_push_in N)) : Cal P w K mg base 4 "deed_in" ["word"] [] (z_deed_in N) :=
  cal_mkT F hm sc_deed_in [] (b_deed_in N) (fun _ _ _ _ _ _ us hl => match us, hl with | [_], _ => rfl) fun cdv A outer s H E F0 io hr => (tlT_seq (tlT_set 1 sc_deed_in.nd (tlT_ms PySem.F.slot_str_find PySem.F.type_str_find mD_find (tlT_repl (tl_var 0)) (tl_cons tl_str tl_nil)))
(PSsT.of     (tl_seq (tl_do (tl_c c_sure (hr.mono (by decide)) (by rfl) (ta_fr (tl_cmp opD_ge (tl_var 1) tl_int (nomark _)) ta_nil) (fr_len nil_len)))
    (tl_one (tl_ret (tl_op opD_add (tl_c c_push_in hr (by rfl) (ta_fr (tl_slice (tl_var 0) tl_no (tl_some (tl_op opD_add (tl_var 1) tl_int))) ta_nil) (fr_len nil_len)) (tl_tup (tl_cons (tl_c c_count_in (hr.mono (by decide)) (by rfl) (ta_fr (tl_slice (tl_var 0) (tl_some (tl_op opD_add (tl_var 1) tl_int)) tl_no) ta_nil) (fr_len nil_len)) tl_nil))))))))
abbrev s_words_in : Stmt := topS 11
theorem sc_words_in : FnScope ["text"] ["text"] (defScope s_words_in) := ⟨rfl, rfl, rfl, by decide +kernel, rfl, by decide +kernel, by decide +kernel⟩
theorem k_words_in (N : Nat) {f : Addr} {fd : FuncData} (F : FunD K "words_in" "words_in" (defArgs s_words_in) (defBody s_words_in) (defScope s_words_in) [] [] f fd) (hm : mg "words_in" = some (.ref f)) (hB : ∀ x : Str, x ∈ bltN → mg x = none) : Cal P w K mg base 1 "words_in" ["text"] [] (z_words_in N) :=
  cal_mk F hm sc_words_in [] (b_words_in N) (fun _ _ _ _ _ _ us hl => match us, hl with | [_], _ => rfl) fun cdv A outer s H E F0 io hr => (tl_seq (tl_if (tl_tcmp (opD_eq hr.units) (tl_var 0) tl_str (nomark _))
    (tl_one (tl_ret (tl_fz (tl_lstN tl_nil))))
    tl_empty)
    (tl_one (tl_ret (tl_ms PySem.F.slot_str_split PySem.F.type_str_split mD_split (tl_var 0) (tl_cons tl_str tl_nil)))))
abbrev s_read_row : Stmt := topS 16
theorem sc_read_row : FnScope ["text", "word"] ["text"] (defScope s_read_row) := ⟨rfl, rfl, rfl, by decide +kernel, rfl, by decide +kernel, by decide +kernel⟩
theorem k_read_row (N : Nat) {f : Addr} {fd : FuncData} (F : FunD K "read_row" "read_row" (defArgs s_read_row) (defBody s_read_row) (defScope s_read_row) [] [] f fd) (hm : mg "read_row" = some (.ref f)) (hB : ∀ x : Str, x ∈ bltN → mg x = none) (c_deed_in : Cal P w K mg base 4 "deed_in" ["word"] [] (z_deed_in N)) (c_words_in : Cal P w K mg base 1 "words_in" ["text"] [] (z_words_in N)) : Cal P w K mg base 5 "read_row" ["text"] [] (z_read_row N) :=
  cal_mk F hm sc_read_row [] (b_read_row N) (fun _ _ _ _ _ _ us hl => match us, hl with | [_], _ => rfl) fun cdv A outer s H E F0 io hr => (tl_one (tl_retN (tl_comp (own := [("word", 1)]) rfl sc_read_row.nd (ti_seq (tl_c c_words_in (hr.mono (by decide)) (by rfl) (ta_fr (tl_var 0) ta_nil) (fr_len nil_len))) (blkOk_by (by kernel_rfl)) (fun _ _ _ _ _ _ => (tg_name 1 [1] sc_read_row.nd)) (fun _ _ _ _ _ _ => tl_pts0) (fun _ _ _ _ _ _ => (tl_c c_deed_in hr (by rfl) (ta_fr (tl_var 1) ta_nil) (fr_len nil_len))))))
abbrev s_read_pushes : Stmt := topS 18
theorem sc_read_pushes : FnScope ["text", "word"] ["text"] (defScope s_read_pushes) := ⟨rfl, rfl, rfl, by decide +kernel, rfl, by decide +kernel, by decide +kernel⟩
theorem k_read_pushes (N : Nat) {f : Addr} {fd : FuncData} (F : FunD K "read_pushes" "read_pushes" (defArgs s_read_pushes) (defBody s_read_pushes) (defScope s_read_pushes) [] [] f fd) (hm : mg "read_pushes" = some (.ref f)) (hB : ∀ x : Str, x ∈ bltN → mg x = none) (c_push_in : Cal P w K mg base 3 "push_in" ["word"] [] (z_push_in N)) (c_words_in : Cal P w K mg base 1 "words_in" ["text"] [] (z_words_in N)) : Cal P w K mg base 4 "read_pushes" ["text"] [] (z_read_pushes N) :=
  cal_mk F hm sc_read_pushes [] (b_read_pushes N) (fun _ _ _ _ _ _ us hl => match us, hl with | [_], _ => rfl) fun cdv A outer s H E F0 io hr => (tl_one (tl_retN (tl_comp (own := [("word", 1)]) rfl sc_read_pushes.nd (ti_seq (tl_c c_words_in (hr.mono (by decide)) (by rfl) (ta_fr (tl_var 0) ta_nil) (fr_len nil_len))) (blkOk_by (by kernel_rfl)) (fun _ _ _ _ _ _ => (tg_name 1 [1] sc_read_pushes.nd)) (fun _ _ _ _ _ _ => tl_pts0) (fun _ _ _ _ _ _ => (tl_c c_push_in hr (by rfl) (ta_fr (tl_var 1) ta_nil) (fr_len nil_len))))))
abbrev s_shown_in : Stmt := topS 19
theorem sc_shown_in : FnScope ["word"] ["word"] (defScope s_shown_in) := ⟨rfl, rfl, rfl, by decide +kernel, rfl, by decide +kernel, by decide +kernel⟩
theorem k_shown_in (N : Nat) {f : Addr} {fd : FuncData} (F : FunD K "shown_in" "shown_in" (defArgs s_shown_in) (defBody s_shown_in) (defScope s_shown_in) [] [] f fd) (hm : mg "shown_in" = some (.ref f)) (hB : ∀ x : Str, x ∈ bltN → mg x = none) (c_sure : Cal P w K mg base 1 "sure" ["good"] [] (z_sure N)) : Cal P w K mg base 2 "shown_in" ["word"] [] (z_shown_in N) :=
  cal_mk F hm sc_shown_in [] (b_shown_in N) (fun _ _ _ _ _ _ us hl => match us, hl with | [_], _ => rfl) fun cdv A outer s H E F0 io hr => (tl_seq (tl_do (tl_c c_sure hr (by rfl) (ta_fr (tl_cmp (opD_in (hu65 hr)) (tl_var 0) (tl_fz (tl_lstN (tl_cons tl_str (tl_cons tl_str (tl_cons tl_str tl_nil))))) (by rfl)) ta_nil) (fr_len nil_len)))
    (tl_one (tl_ret (tl_callT cD_int (by rfl) (hB "int" (by decide)) (by decide +kernel) (tl_cons (tl_var 0) tl_nil)))))
abbrev s_read_shown : Stmt := topS 21
theorem sc_read_shown : FnScope ["text", "found", "word", "push", "mark", "told"] ["text"] (defScope s_read_shown) := ⟨rfl, rfl, rfl, by decide +kernel, rfl, by decide +kernel, by decide +kernel⟩
theorem k_read_shown (N : Nat) {f : Addr} {fd : FuncData} (F : FunD K "read_shown" "read_shown" (defArgs s_read_shown) (defBody s_read_shown) (defScope s_read_shown) [] [] f fd) (hm : mg "read_shown" = some (.ref f)) (hB : ∀ x : Str, x ∈ bltN → mg x = none) (c_push_in : Cal P w K mg base 3 "push_in" ["word"] [] (z_push_in N)) (c_words_in : Cal P w K mg base 1 "words_in" ["text"] [] (z_words_in N)) (c_shown_in : Cal P w K mg base 2 "shown_in" ["word"] [] (z_shown_in N)) : Cal P w K mg base 4 "read_shown" ["text"] [] (z_read_shown N) :=
  cal_mk F hm sc_read_shown [] (b_read_shown N) (fun _ _ _ _ _ _ us hl => match us, hl with | [_], _ => rfl) fun cdv A outer s H E F0 io hr => (tl_seq (tl_own 1 sc_read_shown.nd (tl_lstN tl_nil))
    (tl_seq (tl_for (ws := [2]) PassesOwn.never rfl (ti_seq (tl_c c_words_in (hr.mono (by decide)) (by rfl) (ta_fr (tl_var 0) ta_nil) (fr_len nil_len))) (tg_name 2 [2] sc_read_shown.nd)
    (tl_seq (tl_asg (ws := [3, 5, 4]) (tl_ms PySem.F.slot_str_partition PySem.F.type_str_partition mD_part (tl_var 2) (tl_cons tl_str tl_nil)) (tg_tup rfl (tg_cons (tg_name 3 [3, 5, 4] sc_read_shown.nd) (tg_cons (tg_name 4 [3, 5, 4] sc_read_shown.nd) (tg_cons (tg_name 5 [3, 5, 4] sc_read_shown.nd) tg_nil)))))
    (tl_one (tl_app 1 (tl_op opD_add (tl_c c_push_in hr (by rfl) (ta_fr (tl_var 3) ta_nil) (fr_len nil_len)) (tl_tup (tl_cons (tl_c c_shown_in (hr.mono (by decide)) (by rfl) (ta_fr (tl_var 5) ta_nil) (fr_len nil_len)) tl_nil)))))))
    (tl_one (tl_retO 1))))
abbrev s_read_shows : Stmt := topS 23
theorem sc_read_shows : FnScope ["text", "found", "word", "way", "mark", "told"] ["text"] (defScope s_read_shows) := ⟨rfl, rfl, rfl, by decide +kernel, rfl, by decide +kernel, by decide +kernel⟩
theorem k_read_shows (N : Nat) {f : Addr} {fd : FuncData} (F : FunD K "read_shows" "read_shows" (defArgs s_read_shows) (defBody s_read_shows) (defScope s_read_shows) [] [] f fd) (hm : mg "read_shows" = some (.ref f)) (hB : ∀ x : Str, x ∈ bltN → mg x = none) (c_way_in : Cal P w K mg base 2 "way_in" ["word"] [] (z_way_in N)) (c_words_in : Cal P w K mg base 1 "words_in" ["text"] [] (z_words_in N)) (c_shown_in : Cal P w K mg base 2 "shown_in" ["word"] [] (z_shown_in N)) : Cal P w K mg base 3 "read_shows" ["text"] [] (z_read_shows N) :=
  cal_mk F hm sc_read_shows [] (b_read_shows N) (fun _ _ _ _ _ _ us hl => match us, hl with | [_], _ => rfl) fun cdv A outer s H E F0 io hr => (tl_seq (tl_own 1 sc_read_shows.nd (tl_lstN tl_nil))
    (tl_seq (tl_for (ws := [2]) PassesOwn.never rfl (ti_seq (tl_c c_words_in (hr.mono (by decide)) (by rfl) (ta_fr (tl_var 0) ta_nil) (fr_len nil_len))) (tg_name 2 [2] sc_read_shows.nd)
    (tl_seq (tl_asg (ws := [5, 4, 3]) (tl_ms PySem.F.slot_str_partition PySem.F.type_str_partition mD_part (tl_var 2) (tl_cons tl_str tl_nil)) (tg_tup rfl (tg_cons (tg_name 3 [5, 4, 3] sc_read_shows.nd) (tg_cons (tg_name 4 [5, 4, 3] sc_read_shows.nd) (tg_cons (tg_name 5 [5, 4, 3] sc_read_shows.nd) tg_nil)))))
    (tl_one (tl_app 1 (tl_tup (tl_cons (tl_c c_way_in hr (by rfl) (ta_fr (tl_var 3) ta_nil) (fr_len nil_len)) (tl_cons (tl_c c_shown_in hr (by rfl) (ta_fr (tl_var 5) ta_nil) (fr_len nil_len)) tl_nil)))))))
    (tl_one (tl_retO 1))))
abbrev s_w_whole : Stmt := topS 27
theorem sc_w_whole : FnScope ["_law_found"] ["_law_found"] (defScope s_w_whole) := ⟨rfl, rfl, rfl, by decide +kernel, rfl, by decide +kernel, by decide +kernel⟩
theorem k_w_whole (N : Nat) {f : Addr} {fd : FuncData} (F : FunD K "_law_whole" "_law_whole" (defArgs s_w_whole) (defBody s_w_whole) (defScope s_w_whole) [] [] f fd) (hm : mg "_law_whole" = some (.ref f)) (hB : ∀ x : Str, x ∈ bltN → mg x = none) : Cal P w K mg base 1 "_law_whole" ["_law_found"] [] (z_w_whole N) :=
  cal_mk F hm sc_w_whole [] (b_w_whole N) (fun _ _ _ _ _ _ us hl => match us, hl with | [_], _ => rfl) fun cdv A outer s H E F0 io hr => (tl_one (tl_ret (tl_andV (tl_isi (by rfl) (hB "isinstance" (by decide)) (tl_var 0) (by rfl) (hB "int" (by decide)) (by decide +kernel) (by decide)) (tl_oneV (tl_notV (tl_isi (by rfl) (hB "isinstance" (by decide)) (tl_var 0) (by rfl) (hB "bool" (by decide)) (by decide +kernel) (by decide)))))))
abbrev s_w_well : Stmt := topS 39
theorem sc_w_well : FnScope ["_law_way", "_law_some", "_law_handed", "_law_text", "_law_found", "_law_turn", "_law_told", "_law_number_here", "_law_one"] ["_law_way", "_law_some"] (defScope s_w_well) := ⟨rfl, rfl, rfl, by decide +kernel, rfl, by decide +kernel, by decide +kernel⟩
theorem k_w_well (N : Nat) {f : Addr} {fd : FuncData} (F : FunD K "_law_well" "_law_well" (defArgs s_w_well) (defBody s_w_well) (defScope s_w_well) [] [] f fd) (hm : mg "_law_well" = some (.ref f)) (hB : ∀ x : Str, x ∈ bltN → mg x = none) (c_w_steps_text : Cal P w K mg base 2 "_law_steps_text" ["_law_steps"] [] (z_w_steps_text N)) (c_w_seen_text : Cal P w K mg base 2 "_law_seen_text" ["_law_seen_here"] [] (z_w_seen_text N)) (c_w_shows_text : Cal P w K mg base 2 "_law_shows_text" ["_law_shows_here"] [] (z_w_shows_text N)) (c_show_row : Cal P w K mg base 3 "show_row" ["row"] [] (z_show_row N)) (c_show_pushes : Cal P w K mg base 3 "show_pushes" ["pushes"] [] (z_show_pushes N)) (c_show_shown : Cal P w K mg base 2 "show_shown" ["shown"] [] (z_show_shown N)) (c_show_shows : Cal P w K mg base 2 "show_shows" ["shows"] [] (z_show_shows N)) (c_read_row : Cal P w K mg base 5 "read_row" ["text"] [] (z_read_row N)) (c_read_pushes : Cal P w K mg base 4 "read_pushes" ["text"] [] (z_read_pushes N)) (c_read_shown : Cal P w K mg base 4 "read_shown" ["text"] [] (z_read_shown N)) (c_read_shows : Cal P w K mg base 3 "read_shows" ["text"] [] (z_read_shows N)) (c_w_whole : Cal P w K mg base 1 "_law_whole" ["_law_found"] [] (z_w_whole N)) : Cal P w K mg base 6 "_law_well" ["_law_way", "_law_some"] [] (z_w_well N) :=
  cal_mk F hm sc_w_well [] (b_w_well N) (fun _ _ _ _ _ _ us hl => match us, hl with | [_, _], _ => rfl) fun cdv A outer s H E F0 io hr => (tl_seq (tl_set 2 sc_w_well.nd (tl_fz (tl_listOf (by rfl) (hB "list" (by decide)) (tl_var 1))))
    (tl_seq (tl_set 3 sc_w_well.nd (tl_ixD (lev := 5) (fn_cons (c_w_steps_text.mono (by decide)) (by rfl) (by rfl) (fn_cons (c_w_steps_text.mono (by decide)) (by rfl) (by rfl) (fn_cons (c_w_seen_text.mono (by decide)) (by rfl) (by rfl) (fn_cons (c_w_shows_text.mono (by decide)) (by rfl) (by rfl) fn_nil)))) hr (fun _ => (tl_var 0)) (ta_fr (tl_var 1) ta_nil) (fr_len nil_len)))
    (tl_seq (tl_set 4 sc_w_well.nd (tl_ixD (lev := 5) (fn_cons (c_show_row.mono (by decide)) (by rfl) (by rfl) (fn_cons (c_show_pushes.mono (by decide)) (by rfl) (by rfl) (fn_cons (c_show_shown.mono (by decide)) (by rfl) (by rfl) (fn_cons (c_show_shows.mono (by decide)) (by rfl) (by rfl) fn_nil)))) hr (fun _ => (tl_var 0)) (ta_fr (tl_var 2) ta_nil) (fr_len nil_len)))
    (tl_seq (tl_if (tl_or (tl_not (tl_test (tl_isi (by rfl) (hB "isinstance" (by decide)) (tl_var 4) (by rfl) (hB "str" (by decide)) (by decide +kernel) (by decide)))) (tl_or (tl_tcmp (opD_ne hr.units) (tl_var 4) (tl_var 3) (nomark _)) (tl_or1 (tl_tcmp (opD_ne hr.units) (tl_var 2) (tl_var 1) (nomark _))))).pt
    (tl_one (tl_ret tl_bl))
    tl_empty)
    (tl_seq (tl_for (ws := [5]) PassesOwn.never rfl (ti_range1 (by rfl) (hB "range" (by decide)) (tl_cons tl_int tl_nil)) (tg_name 5 [5] sc_w_well.nd)
    (tl_seq (tl_own 6 sc_w_well.nd (tl_ixN (lev := 5) (fn_cons (c_read_row.mono (by decide)) (by rfl) (by rfl) (fn_cons (c_read_pushes.mono (by decide)) (by rfl) (by rfl) (fn_cons (c_read_shown.mono (by decide)) (by rfl) (by rfl) (fn_cons (c_read_shows.mono (by decide)) (by rfl) (by rfl) fn_nil)))) hr (fun _ => (tl_var 0)) (ta_fr (tl_var 3) ta_nil) (fr_len nil_len)))
    (tl_seq (tl_if (tl_borT fun _ _ => (tl_or (tl_not (tl_test (tl_isi (by rfl) (hB "isinstance" (by decide)) (tl_var 6) (by rfl) (hB "list" (by decide)) (by decide +kernel) (by decide)))) (tl_or1 (tl_tcmp (opD_ne hr.units) (tl_var 6) (tl_var 1) (nomark _)))).pt)
    (tl_one (tl_ret tl_bl))
    tl_empty)
    (tl_seq (tl_if (tl_borT fun _ _ => (tl_not (tl_test (tl_callB (cD_all rfl) (by rfl) (hB "all" (by decide)) (by decide +kernel) (tl_cons (tl_fz (tl_comp (own := [("_law_one", 8)]) rfl sc_w_well.nd (ti_seq (tl_var 6)) (blkOk_by (by kernel_rfl)) (fun _ _ _ _ _ _ => (tg_name 8 [8] sc_w_well.nd)) (fun _ _ _ _ _ _ => tl_pts0) (fun _ _ _ _ _ _ => (tl_andV (tl_isi (by rfl) (hB "isinstance" (by decide)) (tl_var 8) (by rfl) (hB "tuple" (by decide)) (by decide +kernel) (by decide)) (tl_oneV (tl_callB (cD_all rfl) (by rfl) (hB "all" (by decide)) (by decide +kernel) (tl_cons (tl_fz (tl_comp (own := [("_law_number_here", 7)]) rfl sc_w_well.nd (ti_seq (tl_var 8)) (blkOk_by (by kernel_rfl)) (fun _ _ _ _ _ _ => (tg_name 7 [7] sc_w_well.nd)) (fun _ _ _ _ _ _ => tl_pts0) (fun _ _ _ _ _ _ => (tl_c c_w_whole (hr.mono (by decide)) (by rfl) (ta_fr (tl_var 7) ta_nil) (fr_len nil_len))))) tl_nil))))))) tl_nil)))))
    (tl_one (tl_ret tl_bl))
    tl_empty)
    (tl_one (tl_app 6 tl_non))))))
    (tl_one (tl_ret tl_bl)))))))
abbrev s_w_next : Stmt := topS 26
theorem sc_w_next : FnScope ["_law_draws_here", "_law_k", "_law_number_here"] ["_law_draws_here"] (defScope s_w_next) := ⟨rfl, rfl, rfl, by decide +kernel, rfl, by decide +kernel, by decide +kernel⟩
theorem k_w_next (N : Nat) {f : Addr} {fd : FuncData} (F : FunD K "_law_next" "_law_next" (defArgs s_w_next) (defBody s_w_next) (defScope s_w_next) [] [] f fd) (hm : mg "_law_next" = some (.ref f)) (hB : ∀ x : Str, x ∈ bltN → mg x = none) : Cal P w K mg base 1 "_law_next" ["_law_draws_here"] [0] (z_w_next N) :=
  cal_mk F hm sc_w_next [0] (b_w_next N) (fun _ _ _ _ _ _ us hl => match us, hl with | [_], _ => rfl) fun cdv A outer s H E F0 io hr => (tl_seq (tl_asg (ws := []) (tl_op opD_add (tl_oix 0 tl_int) tl_int) (tg_ix 0 tl_int))
    (tl_seq (tl_set 1 sc_w_next.nd (tl_oix 0 tl_int))
    (tl_seq (tl_if (tl_test (tl_oix 0 tl_int))
    (tl_seq (tl_set 2 sc_w_next.nd (tl_op opD_mod (tl_oix 0 tl_int) (tl_op opD_pow tl_int tl_int)))
    (tl_seq (tl_asg (ws := []) (tl_op opD_fdiv (tl_oix 0 tl_int) (tl_op opD_pow tl_int tl_int)) (tg_ix 0 tl_int))
    (tl_one (tl_ret (tl_var 2)))))
    tl_empty)
    (tl_seq (tl_set 2 sc_w_next.nd (tl_op opD_mod (tl_op opD_mul (tl_op opD_add (tl_op opD_add (tl_op opD_mod (tl_oix 0 tl_int) tl_int) (tl_op opD_mul (tl_op opD_mul (tl_var 1) (tl_var 1)) tl_int)) (tl_var 1)) tl_int) tl_int))
    (tl_seq (tl_set 2 sc_w_next.nd (tl_op opD_mod (tl_op opD_mul (tl_var 2) (tl_var 2)) tl_int))
    (tl_one (tl_ret (tl_op opD_fdiv (tl_op opD_mod (tl_op opD_mul (tl_var 2) (tl_op opD_add (tl_var 2) tl_int)) tl_int) tl_int))))))))
abbrev s_w_number : Stmt := topS 28
theorem sc_w_number : FnScope ["_law_draws_here", "_law_wide", "_law_number_here", "_law_turn"] ["_law_draws_here"] (defScope s_w_number) := ⟨rfl, rfl, rfl, by decide +kernel, rfl, by decide +kernel, by decide +kernel⟩
theorem k_w_number (N : Nat) {f : Addr} {fd : FuncData} (F : FunD K "_law_number" "_law_number" (defArgs s_w_number) (defBody s_w_number) (defScope s_w_number) [] [] f fd) (hm : mg "_law_number" = some (.ref f)) (hB : ∀ x : Str, x ∈ bltN → mg x = none) (c_w_next : Cal P w K mg base 1 "_law_next" ["_law_draws_here"] [0] (z_w_next N)) : Cal P w K mg base 2 "_law_number" ["_law_draws_here"] [0] (z_w_number N) :=
  cal_mk F hm sc_w_number [0] (b_w_number N) (fun _ _ _ _ _ _ us hl => match us, hl with | [_], _ => rfl) fun cdv A outer s H E F0 io hr => (tl_seq (tl_set 1 sc_w_number.nd (tl_op opD_mod (tl_c c_w_next hr (by rfl) (ta_sl 0 ta_nil) (sl_len nil_len)) tl_int))
    (tl_seq (tl_set 2 sc_w_number.nd (tl_op opD_mod (tl_c c_w_next hr (by rfl) (ta_sl 0 ta_nil) (sl_len nil_len)) (tl_ix (tl_fz (tl_lstN (tl_cons tl_int (tl_cons tl_int (tl_cons tl_int (tl_cons (tl_op opD_pow tl_int tl_int) tl_nil)))))) (tl_var 1))))
    (tl_seq (tl_if (tl_tcmp (opD_eq hr.units) (tl_op opD_mod (tl_c c_w_next hr (by rfl) (ta_sl 0 ta_nil) (sl_len nil_len)) tl_int) tl_int (nomark _))
    (tl_seq (tl_for (ws := [3]) PassesOwn.never rfl (ti_range1 (by rfl) (hB "range" (by decide)) (tl_cons tl_int tl_nil)) (tg_name 3 [3] sc_w_number.nd)
    (tl_one (tl_set 2 sc_w_number.nd (tl_op opD_add (tl_op opD_mul (tl_var 2) (tl_op opD_pow tl_int tl_int)) (tl_op opD_mod (tl_c c_w_next hr (by rfl) (ta_sl 0 ta_nil) (sl_len nil_len)) (tl_op opD_pow tl_int tl_int))))))
    (tl_one (tl_set 2 sc_w_number.nd (tl_op opD_mod (tl_var 2) (tl_op opD_pow tl_int tl_int)))))
    tl_empty)
    (tl_one (tl_ret (tl_var 2))))))
abbrev s_w_ways : Stmt := topS 29
theorem sc_w_ways : FnScope ["_law_draws_here", "_law_many", "_law_k"] ["_law_draws_here", "_law_many"] (defScope s_w_ways) := ⟨rfl, rfl, rfl, by decide +kernel, rfl, by decide +kernel, by decide +kernel⟩
theorem k_w_ways (N : Nat) {f : Addr} {fd : FuncData} (F : FunD K "_law_ways" "_law_ways" (defArgs s_w_ways) (defBody s_w_ways) (defScope s_w_ways) [] [] f fd) (hm : mg "_law_ways" = some (.ref f)) (hB : ∀ x : Str, x ∈ bltN → mg x = none) (c_w_next : Cal P w K mg base 1 "_law_next" ["_law_draws_here"] [0] (z_w_next N)) : Cal P w K mg base 2 "_law_ways" ["_law_draws_here", "_law_many"] [0] (z_w_ways N) :=
  cal_mk F hm sc_w_ways [0] (b_w_ways N) (fun _ _ _ _ _ _ us hl => match us, hl with | [_, _], _ => rfl) fun cdv A outer s H E F0 io hr => (tl_one (tl_ret (tl_fz (tl_comp (own := [("_law_k", 2)]) rfl sc_w_ways.nd (ti_range1 (by rfl) (hB "range" (by decide)) (tl_cons (tl_op opD_mod (tl_c c_w_next hr (by rfl) (ta_sl 0 ta_nil) (sl_len nil_len)) (tl_var 1)) tl_nil)) (blkOk_by (by kernel_rfl)) (fun _ _ _ _ _ _ => (tg_name 2 [2] sc_w_ways.nd)) (fun _ _ _ _ _ _ => tl_pts0) (fun _ _ _ _ _ _ => (tl_ix (tl_fz (tl_lstN (tl_cons tl_int (tl_cons (tl_op opD_sub tl_int tl_int) tl_nil)))) (tl_op opD_mod (tl_c c_w_next hr (by rfl) (ta_sl 0 ta_nil) (sl_len nil_len)) tl_int)))))))
abbrev s_w_row : Stmt := topS 30
theorem sc_w_row : FnScope ["_law_draws_here", "_law_many", "_law_way"] ["_law_draws_here", "_law_many"] (defScope s_w_row) := ⟨rfl, rfl, rfl, by decide +kernel, rfl, by decide +kernel, by decide +kernel⟩
theorem k_w_row (N : Nat) {f : Addr} {fd : FuncData} (F : FunD K "_law_row" "_law_row" (defArgs s_w_row) (defBody s_w_row) (defScope s_w_row) [] [] f fd) (hm : mg "_law_row" = some (.ref f)) (hB : ∀ x : Str, x ∈ bltN → mg x = none) (c_w_number : Cal P w K mg base 2 "_law_number" ["_law_draws_here"] [0] (z_w_number N)) (c_w_ways : Cal P w K mg base 2 "_law_ways" ["_law_draws_here", "_law_many"] [0] (z_w_ways N)) : Cal P w K mg base 3 "_law_row" ["_law_draws_here", "_law_many"] [0] (z_w_row N) :=
  cal_mk F hm sc_w_row [0] (b_w_row N) (fun _ _ _ _ _ _ us hl => match us, hl with | [_, _], _ => rfl) fun cdv A outer s H E F0 io hr => (tl_one (tl_ret (tl_fz (tl_comp (own := [("_law_way", 2)]) rfl sc_w_row.nd (ti_seq (tl_c c_w_ways hr (by rfl) (ta_sl 0 (ta_fr (tl_var 1) ta_nil)) (sl_len (fr_len nil_len)))) (blkOk_by (by kernel_rfl)) (fun _ _ _ _ _ _ => (tg_name 2 [2] sc_w_row.nd)) (fun _ _ _ _ _ _ => tl_pts0) (fun _ _ _ _ _ _ => (tl_tup (tl_cons (tl_c c_w_number hr (by rfl) (ta_sl 0 ta_nil) (sl_len nil_len)) (tl_cons (tl_var 2) (tl_cons (tl_c c_w_number hr (by rfl) (ta_sl 0 ta_nil) (sl_len nil_len)) tl_nil)))))))))
abbrev s_w_pushes : Stmt := topS 31
theorem sc_w_pushes : FnScope ["_law_draws_here", "_law_many", "_law_way"] ["_law_draws_here", "_law_many"] (defScope s_w_pushes) := ⟨rfl, rfl, rfl, by decide +kernel, rfl, by decide +kernel, by decide +kernel⟩
theorem k_w_pushes (N : Nat) {f : Addr} {fd : FuncData} (F : FunD K "_law_pushes" "_law_pushes" (defArgs s_w_pushes) (defBody s_w_pushes) (defScope s_w_pushes) [] [] f fd) (hm : mg "_law_pushes" = some (.ref f)) (hB : ∀ x : Str, x ∈ bltN → mg x = none) (c_w_number : Cal P w K mg base 2 "_law_number" ["_law_draws_here"] [0] (z_w_number N)) (c_w_ways : Cal P w K mg base 2 "_law_ways" ["_law_draws_here", "_law_many"] [0] (z_w_ways N)) : Cal P w K mg base 3 "_law_pushes" ["_law_draws_here", "_law_many"] [0] (z_w_pushes N) :=
  cal_mk F hm sc_w_pushes [0] (b_w_pushes N) (fun _ _ _ _ _ _ us hl => match us, hl with | [_, _], _ => rfl) fun cdv A outer s H E F0 io hr => (tl_one (tl_ret (tl_fz (tl_comp (own := [("_law_way", 2)]) rfl sc_w_pushes.nd (ti_seq (tl_c c_w_ways hr (by rfl) (ta_sl 0 (ta_fr (tl_var 1) ta_nil)) (sl_len (fr_len nil_len)))) (blkOk_by (by kernel_rfl)) (fun _ _ _ _ _ _ => (tg_name 2 [2] sc_w_pushes.nd)) (fun _ _ _ _ _ _ => tl_pts0) (fun _ _ _ _ _ _ => (tl_tup (tl_cons (tl_c c_w_number hr (by rfl) (ta_sl 0 ta_nil) (sl_len nil_len)) (tl_cons (tl_var 2) tl_nil))))))))
abbrev s_w_seen : Stmt := topS 32
theorem sc_w_seen : FnScope ["_law_draws_here", "_law_many", "_law_way"] ["_law_draws_here", "_law_many"] (defScope s_w_seen) := ⟨rfl, rfl, rfl, by decide +kernel, rfl, by decide +kernel, by decide +kernel⟩
theorem k_w_seen (N : Nat) {f : Addr} {fd : FuncData} (F : FunD K "_law_seen" "_law_seen" (defArgs s_w_seen) (defBody s_w_seen) (defScope s_w_seen) [] [] f fd) (hm : mg "_law_seen" = some (.ref f)) (hB : ∀ x : Str, x ∈ bltN → mg x = none) (c_w_next : Cal P w K mg base 1 "_law_next" ["_law_draws_here"] [0] (z_w_next N)) (c_w_number : Cal P w K mg base 2 "_law_number" ["_law_draws_here"] [0] (z_w_number N)) (c_w_ways : Cal P w K mg base 2 "_law_ways" ["_law_draws_here", "_law_many"] [0] (z_w_ways N)) : Cal P w K mg base 3 "_law_seen" ["_law_draws_here", "_law_many"] [0] (z_w_seen N) :=
  cal_mk F hm sc_w_seen [0] (b_w_seen N) (fun _ _ _ _ _ _ us hl => match us, hl with | [_, _], _ => rfl) fun cdv A outer s H E F0 io hr => (tl_one (tl_ret (tl_fz (tl_comp (own := [("_law_way", 2)]) rfl sc_w_seen.nd (ti_seq (tl_c c_w_ways hr (by rfl) (ta_sl 0 (ta_fr (tl_var 1) ta_nil)) (sl_len (fr_len nil_len)))) (blkOk_by (by kernel_rfl)) (fun _ _ _ _ _ _ => (tg_name 2 [2] sc_w_seen.nd)) (fun _ _ _ _ _ _ => tl_pts0) (fun _ _ _ _ _ _ => (tl_tup (tl_cons (tl_c c_w_number hr (by rfl) (ta_sl 0 ta_nil) (sl_len nil_len)) (tl_cons (tl_var 2) (tl_cons (tl_op opD_sub (tl_op opD_mod (tl_c c_w_next (hr.mono (by decide)) (by rfl) (ta_sl 0 ta_nil) (sl_len nil_len)) tl_int) tl_int) tl_nil)))))))))
abbrev s_w_shows : Stmt := topS 33
theorem sc_w_shows : FnScope ["_law_draws_here", "_law_many", "_law_way"] ["_law_draws_here", "_law_many"] (defScope s_w_shows) := ⟨rfl, rfl, rfl, by decide +kernel, rfl, by decide +kernel, by decide +kernel⟩
theorem k_w_shows (N : Nat) {f : Addr} {fd : FuncData} (F : FunD K "_law_shows" "_law_shows" (defArgs s_w_shows) (defBody s_w_shows) (defScope s_w_shows) [] [] f fd) (hm : mg "_law_shows" = some (.ref f)) (hB : ∀ x : Str, x ∈ bltN → mg x = none) (c_w_next : Cal P w K mg base 1 "_law_next" ["_law_draws_here"] [0] (z_w_next N)) (c_w_ways : Cal P w K mg base 2 "_law_ways" ["_law_draws_here", "_law_many"] [0] (z_w_ways N)) : Cal P w K mg base 3 "_law_shows" ["_law_draws_here", "_law_many"] [0] (z_w_shows N) :=
  cal_mk F hm sc_w_shows [0] (b_w_shows N) (fun _ _ _ _ _ _ us hl => match us, hl with | [_, _], _ => rfl) fun cdv A outer s H E F0 io hr => (tl_one (tl_ret (tl_fz (tl_comp (own := [("_law_way", 2)]) rfl sc_w_shows.nd (ti_seq (tl_c c_w_ways hr (by rfl) (ta_sl 0 (ta_fr (tl_var 1) ta_nil)) (sl_len (fr_len nil_len)))) (blkOk_by (by kernel_rfl)) (fun _ _ _ _ _ _ => (tg_name 2 [2] sc_w_shows.nd)) (fun _ _ _ _ _ _ => tl_pts0) (fun _ _ _ _ _ _ => (tl_tup (tl_cons (tl_var 2) (tl_cons (tl_op opD_sub (tl_op opD_mod (tl_c c_w_next (hr.mono (by decide)) (by rfl) (ta_sl 0 ta_nil) (sl_len nil_len)) tl_int) tl_int) tl_nil))))))))
abbrev s_law : Stmt := topS 40
theorem sc_law : FnScope ["_law_script", "_law_draws_here", "_law_long", "_law_way", "_law_cell", "_law_some", "_law_k", "_law_first", "_law_lists"] ["_law_script"] (defScope s_law) := ⟨rfl, rfl, rfl, by decide +kernel, rfl, by decide +kernel, by decide +kernel⟩
theorem k_law {f : Addr} {fd : FuncData} (F : FunD K "law" "law" (defArgs s_law) (defBody s_law) (defScope s_law) [] [] f fd) (hB : ∀ x : Str, x ∈ bltN → mg x = none) (c_w_draws : ∀ N, Cal P w K mg base 1 "_law_draws" ["_law_cell"] [] (z_w_draws N)) (c_w_steps_text : ∀ N, Cal P w K mg base 2 "_law_steps_text" ["_law_steps"] [] (z_w_steps_text N)) (c_w_seen_text : ∀ N, Cal P w K mg base 2 "_law_seen_text" ["_law_seen_here"] [] (z_w_seen_text N)) (c_w_shows_text : ∀ N, Cal P w K mg base 2 "_law_shows_text" ["_law_shows_here"] [] (z_w_shows_text N)) (c_read_row : ∀ N, Cal P w K mg base 5 "read_row" ["text"] [] (z_read_row N)) (c_read_pushes : ∀ N, Cal P w K mg base 4 "read_pushes" ["text"] [] (z_read_pushes N)) (c_read_shown : ∀ N, Cal P w K mg base 4 "read_shown" ["text"] [] (z_read_shown N)) (c_read_shows : ∀ N, Cal P w K mg base 3 "read_shows" ["text"] [] (z_read_shows N)) (c_w_well : ∀ N, Cal P w K mg base 6 "_law_well" ["_law_way", "_law_some"] [] (z_w_well N)) (c_w_row : ∀ N, Cal P w K mg base 3 "_law_row" ["_law_draws_here", "_law_many"] [0] (z_w_row N)) (c_w_pushes : ∀ N, Cal P w K mg base 3 "_law_pushes" ["_law_draws_here", "_law_many"] [0] (z_w_pushes N)) (c_w_seen : ∀ N, Cal P w K mg base 3 "_law_seen" ["_law_draws_here", "_law_many"] [0] (z_w_seen N)) (c_w_shows : ∀ N, Cal P w K mg base 3 "_law_shows" ["_law_draws_here", "_law_many"] [0] (z_w_shows N)) : FnOk P w K mg base CX0 7 f fd ["_law_script"] (spN K mg z_law) :=
  fn_mk F sc_law b_law fun N cdv A outer s H E F0 io hr => have c_w_draws := c_w_draws N; have c_w_steps_text := c_w_steps_text N; have c_w_seen_text := c_w_seen_text N; have c_w_shows_text := c_w_shows_text N; have c_read_row := c_read_row N; have c_read_pushes := c_read_pushes N; have c_read_shown := c_read_shown N; have c_read_shows := c_read_shows N; have c_w_well := c_w_well N; have c_w_row := c_w_row N; have c_w_pushes := c_w_pushes N; have c_w_seen := c_w_seen N; have c_w_shows := c_w_shows N; (tl_seq (tl_own 1 sc_law.nd (tl_cN c_w_draws (hr.mono (by decide)) (by rfl) (ta_fr (tl_ix (tl_op opD_add (tl_var 0) (tl_fz (tl_lstN (tl_cons tl_int tl_nil)))) tl_int) ta_nil) (fr_len nil_len)))
    (tl_seq (tl_set 2 sc_law.nd (tl_fz (tl_lstN (tl_cons (tl_slice (tl_op opD_mul (tl_c c_w_row (hr.mono (by decide)) (by rfl) (ta_sl 1 (ta_fr tl_int ta_nil)) (sl_len (fr_len nil_len))) tl_int) tl_no (tl_some tl_int)) (tl_cons (tl_slice (tl_op opD_mul (tl_c c_w_pushes (hr.mono (by decide)) (by rfl) (ta_sl 1 (ta_fr tl_int ta_nil)) (sl_len (fr_len nil_len))) tl_int) tl_no (tl_some tl_int)) tl_nil)))))
    (tl_seq (tl_set 2 sc_law.nd (tl_op opD_add (tl_var 2) (tl_fz (tl_lstN (tl_cons (tl_slice (tl_op opD_mul (tl_c c_w_seen (hr.mono (by decide)) (by rfl) (ta_sl 1 (ta_fr tl_int ta_nil)) (sl_len (fr_len nil_len))) tl_int) tl_no (tl_some tl_int)) (tl_cons (tl_slice (tl_op opD_mul (tl_c c_w_shows (hr.mono (by decide)) (by rfl) (ta_sl 1 (ta_fr tl_int ta_nil)) (sl_len (fr_len nil_len))) tl_int) tl_no (tl_some tl_int)) tl_nil))))))
    (tl_seq (tl_for (ws := [3]) PassesOwn.never rfl (ti_range1 (by rfl) (hB "range" (by decide)) (tl_cons tl_int tl_nil)) (tg_name 3 [3] sc_law.nd)
    (tl_one (tl_if (tl_not (tl_test (tl_c c_w_well hr (by rfl) (ta_fr (tl_var 3) (ta_fr (tl_ix (tl_var 2) (tl_var 3)) ta_nil)) (fr_len (fr_len nil_len)))))
    (tl_one (tl_ret tl_bl))
    tl_empty)))
    (tl_seq (tl_for (ws := [4]) PassesOwn.never rfl (ti_seq (tl_op opD_add (tl_slice (tl_var 0) tl_no (tl_some tl_int)) (tl_fz (tl_lstN (tl_cons tl_int tl_nil))))) (tg_name 4 [4] sc_law.nd)
    (tl_seq (tl_own 1 sc_law.nd (tl_cN c_w_draws (hr.mono (by decide)) (by rfl) (ta_fr (tl_var 4) ta_nil) (fr_len nil_len)))
    (tl_seq (tl_own 5 sc_law.nd (tl_lstN tl_nil))
    (tl_seq (tl_for (ws := [6]) PassesOwn.never rfl (ti_range1 (by rfl) (hB "range" (by decide)) (tl_cons tl_int tl_nil)) (tg_name 6 [6] sc_law.nd)
    (tl_one (tl_app 5 (tl_fz (tl_lstN (tl_cons (tl_c c_w_row (hr.mono (by decide)) (by rfl) (ta_sl 1 (ta_fr tl_int ta_nil)) (sl_len (fr_len nil_len))) (tl_cons (tl_c c_w_pushes (hr.mono (by decide)) (by rfl) (ta_sl 1 (ta_fr tl_int ta_nil)) (sl_len (fr_len nil_len))) (tl_cons (tl_c c_w_seen (hr.mono (by decide)) (by rfl) (ta_sl 1 (ta_fr tl_int ta_nil)) (sl_len (fr_len nil_len))) (tl_cons (tl_c c_w_shows (hr.mono (by decide)) (by rfl) (ta_sl 1 (ta_fr tl_int ta_nil)) (sl_len (fr_len nil_len))) tl_nil)))))))))
    (tl_seq (tl_set 7 sc_law.nd (tl_fz (tl_lstN (tl_cons (tl_fz (tl_cN c_read_row (hr.mono (by decide)) (by rfl) (ta_fr (tl_c c_w_steps_text (hr.mono (by decide)) (by rfl) (ta_fr (tl_ix (tl_oix 5 tl_int) tl_int) ta_nil) (fr_len nil_len)) ta_nil) (fr_len nil_len))) (tl_cons (tl_fz (tl_cN c_read_pushes (hr.mono (by decide)) (by rfl) (ta_fr (tl_c c_w_steps_text (hr.mono (by decide)) (by rfl) (ta_fr (tl_ix (tl_oix 5 tl_int) tl_int) ta_nil) (fr_len nil_len)) ta_nil) (fr_len nil_len))) tl_nil)))))
    (tl_seq (tl_set 7 sc_law.nd (tl_op opD_add (tl_var 7) (tl_fz (tl_lstN (tl_cons (tl_fz (tl_cN c_read_shown (hr.mono (by decide)) (by rfl) (ta_fr (tl_c c_w_seen_text (hr.mono (by decide)) (by rfl) (ta_fr (tl_ix (tl_oix 5 tl_int) tl_int) ta_nil) (fr_len nil_len)) ta_nil) (fr_len nil_len))) (tl_cons (tl_fz (tl_cN c_read_shows (hr.mono (by decide)) (by rfl) (ta_fr (tl_c c_w_shows_text (hr.mono (by decide)) (by rfl) (ta_fr (tl_ix (tl_oix 5 tl_int) tl_int) ta_nil) (fr_len nil_len)) ta_nil) (fr_len nil_len))) tl_nil))))))
    (tl_seq (tl_for (ws := [8]) PassesOwn.never rfl (ti_seq (tl_fz (tl_lstN (tl_cons (tl_oix 5 tl_int) (tl_cons (tl_oix 5 tl_int) tl_nil))))) (tg_name 8 [8] sc_law.nd)
    (tl_one (tl_for (ws := [3]) PassesOwn.never rfl (ti_range1 (by rfl) (hB "range" (by decide)) (tl_cons tl_int tl_nil)) (tg_name 3 [3] sc_law.nd)
    (tl_one (tl_if (tl_not (tl_test (tl_c c_w_well hr (by rfl) (ta_fr (tl_var 3) (ta_fr (tl_ix (tl_var 8) (tl_var 3)) ta_nil)) (fr_len (fr_len nil_len)))))
    (tl_one (tl_ret tl_bl))
    tl_empty)))))
    (tl_one (tl_if (tl_tcmp (opD_ne hr.units) (tl_var 7) (tl_oix 5 tl_int) (nomark _))
    (tl_one (tl_ret tl_bl))
    tl_empty)))))))))
    (tl_one (tl_ret tl_bl)))))))
end
end Tz
namespace Tz
open PySem PySem.Spec PyProof.Rows L2
def fnL : List He.DefD := [dOf "_law_draws" s_w_draws,
  dOf "_law_list_text" s_w_list_text,
  dOf "_law_step_text" s_w_step_text,
  dOf "_law_steps_text" s_w_steps_text,
  dOf "_law_seen_text" s_w_seen_text,
  dOf "_law_shows_text" s_w_shows_text,
  dOf "sure" s_sure,
  dOf "count_in" s_count_in,
  dOf "way_in" s_way_in,
  dOf "push_in" s_push_in,
  dOf "deed_in" s_deed_in,
  dOf "words_in" s_words_in,
  dOf "read_row" s_read_row,
  dOf "read_pushes" s_read_pushes,
  dOf "shown_in" s_shown_in,
  dOf "read_shown" s_read_shown,
  dOf "read_shows" s_read_shows,
  dOf "listed" s_listed,
  dOf "way_shown" s_way_shown,
  dOf "step_shown" s_step_shown,
  dOf "show_row" s_show_row,
  dOf "show_pushes" s_show_pushes,
  dOf "show_shown" s_show_shown,
  dOf "show_shows" s_show_shows,
  dOf "_law_whole" s_w_whole,
  dOf "_law_well" s_w_well,
  dOf "_law_next" s_w_next,
  dOf "_law_number" s_w_number,
  dOf "_law_ways" s_w_ways,
  dOf "_law_row" s_w_row,
  dOf "_law_pushes" s_w_pushes,
  dOf "_law_seen" s_w_seen,
  dOf "_law_shows" s_w_shows,
  dOf "law" s_law]
def faL : List He.Fa := [.glo "_law_draws", .glo "_law_list_text", .glo "_law_step_text", .glo "_law_steps_text", .glo "_law_seen_text", .glo "_law_shows_text", .glo "sure", .glo "count_in", .glo "way_in", .glo "push_in", .glo "deed_in", .glo "words_in", .glo "read_row", .glo "read_pushes", .glo "shown_in", .glo "read_shown", .glo "read_shows", .glo "listed", .glo "way_shown", .glo "step_shown", .glo "show_row", .glo "show_pushes", .glo "show_shown", .glo "show_shows", .glo "_law_whole", .glo "_law_well", .glo "_law_next", .glo "_law_number", .glo "_law_ways", .glo "_law_row", .glo "_law_pushes", .glo "_law_seen", .glo "_law_shows", .glo "law", .str "FIGURES" "0123456789", .int "LONGEST" 40] ++ bltN.map .free
def looseL : List Str := (["TrainError", "NoText", "FIGURES", "LONGEST", "sure", "count_in", "way_in", "way_shown", "listed", "words_in", "step_shown", "push_in"] : List Str) ++ (["deed_in", "show_row", "read_row", "show_pushes", "read_pushes", "shown_in", "show_shown", "read_shown", "show_shows", "read_shows", "_law_draws", "_law_next"] : List Str) ++ (["_law_whole", "_law_number", "_law_ways", "_law_row", "_law_pushes", "_law_seen", "_law_shows", "_law_list_text", "_law_step_text", "_law_steps_text", "_law_seen_text", "_law_shows_text"] : List Str) ++ (["_law_well"] : List Str)
abbrev RL : PySem.W.OpenRow := PySem.W.OpenLaw.row PySem.Challenge.rw_clicktrain_k72_rows_and_shows_as_texts
abbrev hkL : PySem.W.Hook := He.hookD 4 faL fnL
def obL (s : PySem.W.SharedT) : He.AlD := He.obsDG 4 faL fnL (HandSHeadRun.getT s)
theorem obL_eq (s : PySem.W.SharedT) : obL s = hkL.obs s.abs := He.obsDG_eq (HandSHeadRun.getT_eq s)
theorem runL (w : World) : HandSHeadRun.RunEq RL (PySem.W.view RL.prog [40]) hkL obL 4000 looseL w := by
  intro os
  kernel_rfl
theorem factsL {P : Program} {w : World} {K : PySem.W.Frag} {h : Heap} {mg : Str → Option Value} {f : Addr} (X : K.In h) (G : h.Ns mainGlobals mg) (hfa : mg ("law" : Str) = some (.ref f)) (c : He.SaysD faL fnL K) :
    ∃ fd : FuncData, (∀ (s : Shared) (v : Value), BindsTo s fd ⟨[v], []⟩ [("_law_script", v)]) ∧ ∀ base : Heap, K.In base → base.Ns mainGlobals mg → FnOk P w K mg base CX0 7 f fd ["_law_script"] (spN K mg z_law) := by
  have hB : ∀ x : Str, x ∈ bltN → mg x = none := fun x hx => He.free_ok X G (fact_mem c (List.mem_append_right _ (List.mem_map_of_mem hx)))
  obtain ⟨d_w_draws, F_w_draws⟩ := c.def_ 0 (d := dOf "_law_draws" s_w_draws) rfl
  have m_w_draws := He.glo_ok X G (c.fact 0 (f := .glo "_law_draws") rfl)
  obtain ⟨d_w_list_text, F_w_list_text⟩ := c.def_ 1 (d := dOf "_law_list_text" s_w_list_text) rfl
  have m_w_list_text := He.glo_ok X G (c.fact 1 (f := .glo "_law_list_text") rfl)
  obtain ⟨d_w_step_text, F_w_step_text⟩ := c.def_ 2 (d := dOf "_law_step_text" s_w_step_text) rfl
  have m_w_step_text := He.glo_ok X G (c.fact 2 (f := .glo "_law_step_text") rfl)
  obtain ⟨d_w_steps_text, F_w_steps_text⟩ := c.def_ 3 (d := dOf "_law_steps_text" s_w_steps_text) rfl
  have m_w_steps_text := He.glo_ok X G (c.fact 3 (f := .glo "_law_steps_text") rfl)
  obtain ⟨d_w_seen_text, F_w_seen_text⟩ := c.def_ 4 (d := dOf "_law_seen_text" s_w_seen_text) rfl
  have m_w_seen_text := He.glo_ok X G (c.fact 4 (f := .glo "_law_seen_text") rfl)
  obtain ⟨d_w_shows_text, F_w_shows_text⟩ := c.def_ 5 (d := dOf "_law_shows_text" s_w_shows_text) rfl
  have m_w_shows_text := He.glo_ok X G (c.fact 5 (f := .glo "_law_shows_text") rfl)
  obtain ⟨d_sure, F_sure⟩ := c.def_ 6 (d := dOf "sure" s_sure) rfl
  have m_sure := He.glo_ok X G (c.fact 6 (f := .glo "sure") rfl)
  obtain ⟨d_count_in, F_count_in⟩ := c.def_ 7 (d := dOf "count_in" s_count_in) rfl
  have m_count_in := He.glo_ok X G (c.fact 7 (f := .glo "count_in") rfl)
  obtain ⟨d_way_in, F_way_in⟩ := c.def_ 8 (d := dOf "way_in" s_way_in) rfl
  have m_way_in := He.glo_ok X G (c.fact 8 (f := .glo "way_in") rfl)
  obtain ⟨d_push_in, F_push_in⟩ := c.def_ 9 (d := dOf "push_in" s_push_in) rfl
  have m_push_in := He.glo_ok X G (c.fact 9 (f := .glo "push_in") rfl)
  obtain ⟨d_deed_in, F_deed_in⟩ := c.def_ 10 (d := dOf "deed_in" s_deed_in) rfl
  have m_deed_in := He.glo_ok X G (c.fact 10 (f := .glo "deed_in") rfl)
  obtain ⟨d_words_in, F_words_in⟩ := c.def_ 11 (d := dOf "words_in" s_words_in) rfl
  have m_words_in := He.glo_ok X G (c.fact 11 (f := .glo "words_in") rfl)
  obtain ⟨d_read_row, F_read_row⟩ := c.def_ 12 (d := dOf "read_row" s_read_row) rfl
  have m_read_row := He.glo_ok X G (c.fact 12 (f := .glo "read_row") rfl)
  obtain ⟨d_read_pushes, F_read_pushes⟩ := c.def_ 13 (d := dOf "read_pushes" s_read_pushes) rfl
  have m_read_pushes := He.glo_ok X G (c.fact 13 (f := .glo "read_pushes") rfl)
  obtain ⟨d_shown_in, F_shown_in⟩ := c.def_ 14 (d := dOf "shown_in" s_shown_in) rfl
  have m_shown_in := He.glo_ok X G (c.fact 14 (f := .glo "shown_in") rfl)
  obtain ⟨d_read_shown, F_read_shown⟩ := c.def_ 15 (d := dOf "read_shown" s_read_shown) rfl
  have m_read_shown := He.glo_ok X G (c.fact 15 (f := .glo "read_shown") rfl)
  obtain ⟨d_read_shows, F_read_shows⟩ := c.def_ 16 (d := dOf "read_shows" s_read_shows) rfl
  have m_read_shows := He.glo_ok X G (c.fact 16 (f := .glo "read_shows") rfl)
  obtain ⟨d_listed, F_listed⟩ := c.def_ 17 (d := dOf "listed" s_listed) rfl
  have m_listed := He.glo_ok X G (c.fact 17 (f := .glo "listed") rfl)
  obtain ⟨d_way_shown, F_way_shown⟩ := c.def_ 18 (d := dOf "way_shown" s_way_shown) rfl
  have m_way_shown := He.glo_ok X G (c.fact 18 (f := .glo "way_shown") rfl)
  obtain ⟨d_step_shown, F_step_shown⟩ := c.def_ 19 (d := dOf "step_shown" s_step_shown) rfl
  have m_step_shown := He.glo_ok X G (c.fact 19 (f := .glo "step_shown") rfl)
  obtain ⟨d_show_row, F_show_row⟩ := c.def_ 20 (d := dOf "show_row" s_show_row) rfl
  have m_show_row := He.glo_ok X G (c.fact 20 (f := .glo "show_row") rfl)
  obtain ⟨d_show_pushes, F_show_pushes⟩ := c.def_ 21 (d := dOf "show_pushes" s_show_pushes) rfl
  have m_show_pushes := He.glo_ok X G (c.fact 21 (f := .glo "show_pushes") rfl)
  obtain ⟨d_show_shown, F_show_shown⟩ := c.def_ 22 (d := dOf "show_shown" s_show_shown) rfl
  have m_show_shown := He.glo_ok X G (c.fact 22 (f := .glo "show_shown") rfl)
  obtain ⟨d_show_shows, F_show_shows⟩ := c.def_ 23 (d := dOf "show_shows" s_show_shows) rfl
  have m_show_shows := He.glo_ok X G (c.fact 23 (f := .glo "show_shows") rfl)
  obtain ⟨d_w_whole, F_w_whole⟩ := c.def_ 24 (d := dOf "_law_whole" s_w_whole) rfl
  have m_w_whole := He.glo_ok X G (c.fact 24 (f := .glo "_law_whole") rfl)
  obtain ⟨d_w_well, F_w_well⟩ := c.def_ 25 (d := dOf "_law_well" s_w_well) rfl
  have m_w_well := He.glo_ok X G (c.fact 25 (f := .glo "_law_well") rfl)
  obtain ⟨d_w_next, F_w_next⟩ := c.def_ 26 (d := dOf "_law_next" s_w_next) rfl
  have m_w_next := He.glo_ok X G (c.fact 26 (f := .glo "_law_next") rfl)
  obtain ⟨d_w_number, F_w_number⟩ := c.def_ 27 (d := dOf "_law_number" s_w_number) rfl
  have m_w_number := He.glo_ok X G (c.fact 27 (f := .glo "_law_number") rfl)
  obtain ⟨d_w_ways, F_w_ways⟩ := c.def_ 28 (d := dOf "_law_ways" s_w_ways) rfl
  have m_w_ways := He.glo_ok X G (c.fact 28 (f := .glo "_law_ways") rfl)
  obtain ⟨d_w_row, F_w_row⟩ := c.def_ 29 (d := dOf "_law_row" s_w_row) rfl
  have m_w_row := He.glo_ok X G (c.fact 29 (f := .glo "_law_row") rfl)
  obtain ⟨d_w_pushes, F_w_pushes⟩ := c.def_ 30 (d := dOf "_law_pushes" s_w_pushes) rfl
  have m_w_pushes := He.glo_ok X G (c.fact 30 (f := .glo "_law_pushes") rfl)
  obtain ⟨d_w_seen, F_w_seen⟩ := c.def_ 31 (d := dOf "_law_seen" s_w_seen) rfl
  have m_w_seen := He.glo_ok X G (c.fact 31 (f := .glo "_law_seen") rfl)
  obtain ⟨d_w_shows, F_w_shows⟩ := c.def_ 32 (d := dOf "_law_shows" s_w_shows) rfl
  have m_w_shows := He.glo_ok X G (c.fact 32 (f := .glo "_law_shows") rfl)
  obtain ⟨d_law, F_law⟩ := c.def_ 33 (d := dOf "law" s_law) rfl
  have m_law := He.glo_ok X G (c.fact 33 (f := .glo "law") rfl)
  obtain ⟨t_FIGURES, h_FIGURES⟩ := He.str_ok X G (c.fact 34 (f := .str "FIGURES" "0123456789") rfl)
  obtain ⟨t_LONGEST, h_LONGEST⟩ := He.int_ok X G (c.fact 35 (f := .int "LONGEST" 40) rfl)
  have e := hfa.symm.trans m_law
  cases e
  have b := FunD.bindsA (ps := ["_law_script"]) F_law fun _ _ _ _ _ _ us hl => match us, hl with | [_], _ => rfl
  refine ⟨d_law, fun s v => b s [v] rfl, fun base _ _ => ?_⟩
  have c_w_draws := fun N => k_w_draws (P := P) (w := w) (base := base) N F_w_draws m_w_draws hB
  have c_w_list_text := fun N => k_w_list_text (P := P) (w := w) (base := base) N F_w_list_text m_w_list_text hB
  have c_w_step_text := fun N => k_w_step_text (P := P) (w := w) (base := base) N F_w_step_text m_w_step_text hB
  have c_w_steps_text := fun N => k_w_steps_text (P := P) (w := w) (base := base) N F_w_steps_text m_w_steps_text hB (c_w_list_text N) (c_w_step_text N)
  have c_w_seen_text := fun N => k_w_seen_text (P := P) (w := w) (base := base) N F_w_seen_text m_w_seen_text hB (c_w_list_text N) (c_w_step_text N)
  have c_w_shows_text := fun N => k_w_shows_text (P := P) (w := w) (base := base) N F_w_shows_text m_w_shows_text hB (c_w_list_text N)
  have c_sure := fun N => k_sure (P := P) (w := w) (base := base) N F_sure m_sure hB
  have c_count_in := fun N => k_count_in (P := P) (w := w) (base := base) N F_count_in m_count_in hB (c_sure N) h_FIGURES h_LONGEST
  have c_way_in := fun N => k_way_in (P := P) (w := w) (base := base) N F_way_in m_way_in hB (c_sure N)
  have c_push_in := fun N => k_push_in (P := P) (w := w) (base := base) N F_push_in m_push_in hB (c_count_in N) (c_way_in N)
  have c_deed_in := fun N => k_deed_in (P := P) (w := w) (base := base) N F_deed_in m_deed_in hB (c_sure N) (c_count_in N) (c_push_in N)
  have c_words_in := fun N => k_words_in (P := P) (w := w) (base := base) N F_words_in m_words_in hB
  have c_read_row := fun N => k_read_row (P := P) (w := w) (base := base) N F_read_row m_read_row hB (c_deed_in N) (c_words_in N)
  have c_read_pushes := fun N => k_read_pushes (P := P) (w := w) (base := base) N F_read_pushes m_read_pushes hB (c_push_in N) (c_words_in N)
  have c_shown_in := fun N => k_shown_in (P := P) (w := w) (base := base) N F_shown_in m_shown_in hB (c_sure N)
  have c_read_shown := fun N => k_read_shown (P := P) (w := w) (base := base) N F_read_shown m_read_shown hB (c_push_in N) (c_words_in N) (c_shown_in N)
  have c_read_shows := fun N => k_read_shows (P := P) (w := w) (base := base) N F_read_shows m_read_shows hB (c_way_in N) (c_words_in N) (c_shown_in N)
  have c_listed := fun N => k_listed (P := P) (w := w) (base := base) N F_listed m_listed hB
  have c_way_shown := fun N => k_way_shown (P := P) (w := w) (base := base) N F_way_shown m_way_shown hB
  have c_step_shown := fun N => k_step_shown (P := P) (w := w) (base := base) N F_step_shown m_step_shown hB (c_way_shown N)
  have c_show_row := fun N => k_show_row (P := P) (w := w) (base := base) N F_show_row m_show_row hB (c_listed N) (c_step_shown N)
  have c_show_pushes := fun N => k_show_pushes (P := P) (w := w) (base := base) N F_show_pushes m_show_pushes hB (c_listed N) (c_step_shown N)
  have c_show_shown := fun N => k_show_shown (P := P) (w := w) (base := base) N F_show_shown m_show_shown hB (c_listed N) (c_way_shown N)
  have c_show_shows := fun N => k_show_shows (P := P) (w := w) (base := base) N F_show_shows m_show_shows hB (c_listed N) (c_way_shown N)
  have c_w_whole := fun N => k_w_whole (P := P) (w := w) (base := base) N F_w_whole m_w_whole hB
  have c_w_well := fun N => k_w_well (P := P) (w := w) (base := base) N F_w_well m_w_well hB (c_w_steps_text N) (c_w_seen_text N) (c_w_shows_text N) (c_show_row N) (c_show_pushes N) (c_show_shown N) (c_show_shows N) (c_read_row N) (c_read_pushes N) (c_read_shown N) (c_read_shows N) (c_w_whole N)
  have c_w_next := fun N => k_w_next (P := P) (w := w) (base := base) N F_w_next m_w_next hB
  have c_w_number := fun N => k_w_number (P := P) (w := w) (base := base) N F_w_number m_w_number hB (c_w_next N)
  have c_w_ways := fun N => k_w_ways (P := P) (w := w) (base := base) N F_w_ways m_w_ways hB (c_w_next N)
  have c_w_row := fun N => k_w_row (P := P) (w := w) (base := base) N F_w_row m_w_row hB (c_w_number N) (c_w_ways N)
  have c_w_pushes := fun N => k_w_pushes (P := P) (w := w) (base := base) N F_w_pushes m_w_pushes hB (c_w_number N) (c_w_ways N)
  have c_w_seen := fun N => k_w_seen (P := P) (w := w) (base := base) N F_w_seen m_w_seen hB (c_w_next N) (c_w_number N) (c_w_ways N)
  have c_w_shows := fun N => k_w_shows (P := P) (w := w) (base := base) N F_w_shows m_w_shows hB (c_w_next N) (c_w_ways N)
  exact k_law F_law hB c_w_draws c_w_steps_text c_w_seen_text c_w_shows_text c_read_row c_read_pushes c_read_shown c_read_shows c_w_well c_w_row c_w_pushes c_w_seen c_w_shows
theorem holds_of (hz : ∀ ns : List Int, ns.length ≤ 63 → ∃ N ls, z_law N [.fr (.list (ns.map .int))] = .ok (.rt (.bool true)) ls) : PySem.Challenge.rw_clicktrain_k72_rows_and_shows_as_texts.Holds := by
  w_on; o_law
  refine HandSHeadRun.head_any (r := RL) (q := PySem.W.view RL.prog [40]) (H := hkL) (ob := obL) (M := 4000) (loose := looseL) (d := HandSHeadRun.topDef RL.prog 40) (kwd := []) obL_eq
    (by kernel_rfl) (fun s => by kernel_rfl) runL (by kernel_rfl) (by kernel_rfl) (by kernel_rfl) (by rfl) (by first | assumption | decide +kernel) (by decide +kernel) ⟨rfl, rfl, rfl, rfl, rfl, by decide +kernel⟩ ?hw ?hc
  case hw => w_witness2
  case hc =>
    refine L2.walk_ofE (l := PySem.Challenge.rw_clicktrain_k72_rows_and_shows_as_texts) (n := 63) (k := 7) (x := "_law_script") (CX := L2.CX0) rfl (by decide) (by kernel_rfl) ⟨rfl, by decide, by decide⟩ ?F (fun _ _ _ _ z => z)
    intro w mg fa h Y G hmg0
    obtain ⟨K, KX, c⟩ := Y
    have hmg : mg ("law" : Str) = some (.ref fa) := by
      have e : (HandSHeadRun.topDef RL.prog 40).name = ("law" : Str) := by kernel_rfl
      rw [← e]
      exact hmg0
    obtain ⟨fd, hb, hF⟩ := factsL (P := (PySem.Challenge.rw_clicktrain_k72_rows_and_shows_as_texts).prog) (w := w) KX G hmg c
    exact ⟨K, fd, spN K mg z_law, KX, hb, fun H a ns hl _ hS => law_sp hS (hz ns hl), hF⟩
end Tz
namespace Tz
open PySem PySem.Spec PyProof.Rows L2
/-! ### the draws -/
/-- the state of the draws: at most K were made -/
def Dr (K : Nat) (s : SV) : Prop := ∃ (a : Int) (k : Nat) (b : Bool), s = .ol [.int a, .int k, .bool b] ∧ k ≤ K
theorem Dr.own {K : Nat} {s : SV} (h : Dr K s) : s.own = true := by obtain ⟨a, k, b, rfl, _⟩ := h; rfl
theorem Dr.mono {K K' : Nat} {s : SV} (h : Dr K s) (e : K ≤ K') : Dr K' s := by obtain ⟨a, k, b, rfl, q⟩ := h; exact ⟨a, k, b, rfl, Nat.le_trans q e⟩
theorem p6 : dPow (.int 10) (.int 6) = some (.int 1000000) := by rfl
theorem mod6 (a : Int) : dMod (.int a) (.int 1000000) = some (.int (a % 1000000)) := dMod_i (by decide)
theorem div6 (a : Int) : dFdiv (.int a) (.int 1000000) = some (.int (a / 1000000)) := dFdiv_i (by decide) (by decide)
theorem next_ok (N : Nat) {s : SV} {K : Nat} (h : Dr K s) (hK : K < 2 ^ 60) : wz (z_w_next N [s]) fun fl ls => ∃ (r : Int) (s' : SV), fl = .rt (.int r) ∧ ls[0]? = some s' ∧ 0 ≤ r ∧ Dr (K + 1) s' := by
  obtain ⟨a, k, b, rfl, hk⟩ := h
  have h1 : (k : Int) + 1 = ((k + 1 : Nat) : Int) := by omega
  cases b with
  | true =>
    simp -implicitDefEqProofs only [mSeq, mDo, mRet, mRetN, mSet, mOwn, mKill, mAug, gT, gTs, gTup, mAsg, mOwnM, mApp, mExt, isOl, appT, extT, setT, gIx, mOIx, mOLen, mFreeze, mRetO, mFor, wz_bnd, wz_ok, ret, bad, optM, mVar, mNil, mCons, asB, ofB, mNo, mSome, mSl, mIf, mAnd, mOr, mNot, mChain, mTup, mLst, mFz, mCall, mMeth, mNeg, mIsN, mMs, mAndV, mOrV, mBin, mIter, itemsOf, mRange1, mRange2, mEnum, mListOf, mIsi, wz_run, wz_bor, wz_borT, wz_noEx, wz_bad, aNil, aFr, aSlO, argSV, argSVs, slAt, backD, flD, flN, mCallD, mCallN, runD, mRepl, pickSem, mIxCallD, mIxCallN, own_ol, own_fr, own_un, lend_nil, lend_ol, lend_fr, lend_un, isT_str, isT_list, isT_tuple, isT_int, isT_bint, Bool.not_true, Bool.not_false, List.getElem?_cons_zero, List.getElem?_cons_succ, List.getElem?_nil, List.set_cons_zero, List.set_cons_succ, List.replicate_succ, List.replicate_zero, List.cons_append, List.nil_append, List.length_cons, List.length_nil, atI_0, atI_1, atI_2, atI_3, atI_4, ixN_30, ixN_31, ixN_32, szl_0, szl_1, szl_2, szl_3, szl_4, szl_5, szl_6, szl_7, szl_8, szl_9, szl_10, szl_11, szl_12, gd, dEq_i, dNe_i, dLt, dLe, dGt, dGe, dIx_l, dIx_t, Option.bind_some, if_pos, if_neg, if_true, if_false, Nat.zero_add, decide_true, decide_false, Int.toNat_zero, Int.toNat_one, dAdd_i, dSub_i, not_false_eq_true, ite_true, ite_false, Int.reduceLE, Int.reduceLT, Int.reduceNeg, Int.reduceAdd, Int.reduceSub, Int.reduceToNat, Nat.reduceAdd, Nat.reduceLT, Nat.reduceLeDiff, Int.reduceEq, Nat.reduceEqDiff, Int.reduceMul, ↓reduceIte, Int.cast_ofNat_Int, z_w_next, b_w_next, p6, mod6, div6]
    exact ⟨_, _, rfl, rfl, by omega, _, k + 1, _, by rw [h1], by omega⟩
  | false =>
    have q1 : dMod (.int a) (.int 1000003) = some (.int (a % 1000003)) := dMod_i (by decide)
    have q2 : dMul (.int ((k : Int) + 1)) (.int ((k : Int) + 1)) = some (.int (((k : Int) + 1) * ((k : Int) + 1))) := dMul_k (by omega)
    have q3 : ∀ i : Int, dMul (.int i) (.int 7919) = some (.int (i * 7919)) := fun i => dMul_k (by decide)
    have q4 : ∀ i : Int, dMul (.int i) (.int 48271) = some (.int (i * 48271)) := fun i => dMul_k (by decide)
    have q5 : ∀ i : Int, dMod (.int i) (.int 2147483629) = some (.int (i % 2147483629)) := fun i => dMod_i (by decide)
    have q6 : ∀ i : Int, dMod (.int i) (.int 2147483587) = some (.int (i % 2147483587)) := fun i => dMod_i (by decide)
    have q7 : ∀ i : Int, dMod (.int i) (.int 2147483579) = some (.int (i % 2147483579)) := fun i => dMod_i (by decide)
    have q8 : ∀ i : Int, dFdiv (.int i) (.int 7) = some (.int (i / 7)) := fun i => dFdiv_i (by decide) (by decide)
    have q9 : ∀ i : Int, dMul (.int (i % 2147483629)) (.int (i % 2147483629)) = some (.int (i % 2147483629 * (i % 2147483629))) := fun i => dMul_k (by omega)
    have q10 : ∀ i : Int, dMul (.int (i % 2147483587)) (.int (i % 2147483587 + 2)) = some (.int (i % 2147483587 * (i % 2147483587 + 2))) := fun i => dMul_k (by omega)
    simp -implicitDefEqProofs only [mSeq, mDo, mRet, mRetN, mSet, mOwn, mKill, mAug, gT, gTs, gTup, mAsg, mOwnM, mApp, mExt, isOl, appT, extT, setT, gIx, mOIx, mOLen, mFreeze, mRetO, mFor, wz_bnd, wz_ok, ret, bad, optM, mVar, mNil, mCons, asB, ofB, mNo, mSome, mSl, mIf, mAnd, mOr, mNot, mChain, mTup, mLst, mFz, mCall, mMeth, mNeg, mIsN, mMs, mAndV, mOrV, mBin, mIter, itemsOf, mRange1, mRange2, mEnum, mListOf, mIsi, wz_run, wz_bor, wz_borT, wz_noEx, wz_bad, aNil, aFr, aSlO, argSV, argSVs, slAt, backD, flD, flN, mCallD, mCallN, runD, mRepl, pickSem, mIxCallD, mIxCallN, own_ol, own_fr, own_un, lend_nil, lend_ol, lend_fr, lend_un, isT_str, isT_list, isT_tuple, isT_int, isT_bint, Bool.not_true, Bool.not_false, List.getElem?_cons_zero, List.getElem?_cons_succ, List.getElem?_nil, List.set_cons_zero, List.set_cons_succ, List.replicate_succ, List.replicate_zero, List.cons_append, List.nil_append, List.length_cons, List.length_nil, atI_0, atI_1, atI_2, atI_3, atI_4, ixN_30, ixN_31, ixN_32, szl_0, szl_1, szl_2, szl_3, szl_4, szl_5, szl_6, szl_7, szl_8, szl_9, szl_10, szl_11, szl_12, gd, dEq_i, dNe_i, dLt, dLe, dGt, dGe, dIx_l, dIx_t, Option.bind_some, if_pos, if_neg, if_true, if_false, Nat.zero_add, decide_true, decide_false, Int.toNat_zero, Int.toNat_one, dAdd_i, dSub_i, not_false_eq_true, ite_true, ite_false, Int.reduceLE, Int.reduceLT, Int.reduceNeg, Int.reduceAdd, Int.reduceSub, Int.reduceToNat, Nat.reduceAdd, Nat.reduceLT, Nat.reduceLeDiff, Int.reduceEq, Nat.reduceEqDiff, Int.reduceMul, ↓reduceIte, Int.cast_ofNat_Int, z_w_next, b_w_next, q1, q2, q3, q4, q5, q6, q7, q8, q9, q10]
    exact ⟨_, _, rfl, rfl, by omega, _, k + 1, _, by rw [h1], by omega⟩
/-- calls with the draws handed in -/
theorem callD_0 {sem : List SV → R Fl} {i : Nat} {ls : LS} {s : SV} {P : D → LS → Prop} (hi : ls[i]? = some s) (ho : s.own = true) (h : wz (sem [s]) fun fl l2 => ∃ (t : D) (s' : SV), fl = .rt t ∧ l2[0]? = some s' ∧ s'.own = true ∧ P t (ls.set i s')) : wz (mCallD false [0] sem (aSlO i aNil) ls) P := by
  simp -implicitDefEqProofs only [mSeq, mDo, mRet, mRetN, mSet, mOwn, mKill, mAug, gT, gTs, gTup, mAsg, mOwnM, mApp, mExt, isOl, appT, extT, setT, gIx, mOIx, mOLen, mFreeze, mRetO, mFor, wz_bnd, wz_ok, ret, bad, optM, mVar, mNil, mCons, asB, ofB, mNo, mSome, mSl, mIf, mAnd, mOr, mNot, mChain, mTup, mLst, mFz, mCall, mMeth, mNeg, mIsN, mMs, mAndV, mOrV, mBin, mIter, itemsOf, mRange1, mRange2, mEnum, mListOf, mIsi, wz_run, wz_bor, wz_borT, wz_noEx, wz_bad, aNil, aFr, aSlO, argSV, argSVs, slAt, backD, flD, flN, mCallD, mCallN, runD, mRepl, pickSem, mIxCallD, mIxCallN, own_ol, own_fr, own_un, lend_nil, lend_ol, lend_fr, lend_un, isT_str, isT_list, isT_tuple, isT_int, isT_bint, Bool.not_true, Bool.not_false, List.getElem?_cons_zero, List.getElem?_cons_succ, List.getElem?_nil, List.set_cons_zero, List.set_cons_succ, List.replicate_succ, List.replicate_zero, List.cons_append, List.nil_append, List.length_cons, List.length_nil, atI_0, atI_1, atI_2, atI_3, atI_4, ixN_30, ixN_31, ixN_32, szl_0, szl_1, szl_2, szl_3, szl_4, szl_5, szl_6, szl_7, szl_8, szl_9, szl_10, szl_11, szl_12, gd, dEq_i, dNe_i, dLt, dLe, dGt, dGe, dIx_l, dIx_t, Option.bind_some, if_pos, if_neg, if_true, if_false, Nat.zero_add, decide_true, decide_false, Int.toNat_zero, Int.toNat_one, dAdd_i, dSub_i, not_false_eq_true, ite_true, ite_false, Int.reduceLE, Int.reduceLT, Int.reduceNeg, Int.reduceAdd, Int.reduceSub, Int.reduceToNat, Nat.reduceAdd, Nat.reduceLT, Nat.reduceLeDiff, Int.reduceEq, Nat.reduceEqDiff, Int.reduceMul, ↓reduceIte, Int.cast_ofNat_Int, hi, ho, List.all_cons, List.all_nil, List.contains_cons, List.contains_nil, beq_self_eq_true, Bool.true_or, Bool.and_self]
  refine wz_imp h fun fl l ⟨t, s', e1, e2, e3, e4⟩ => ?_
  subst e1
  simp -implicitDefEqProofs only [mSeq, mDo, mRet, mRetN, mSet, mOwn, mKill, mAug, gT, gTs, gTup, mAsg, mOwnM, mApp, mExt, isOl, appT, extT, setT, gIx, mOIx, mOLen, mFreeze, mRetO, mFor, wz_bnd, wz_ok, ret, bad, optM, mVar, mNil, mCons, asB, ofB, mNo, mSome, mSl, mIf, mAnd, mOr, mNot, mChain, mTup, mLst, mFz, mCall, mMeth, mNeg, mIsN, mMs, mAndV, mOrV, mBin, mIter, itemsOf, mRange1, mRange2, mEnum, mListOf, mIsi, wz_run, wz_bor, wz_borT, wz_noEx, wz_bad, aNil, aFr, aSlO, argSV, argSVs, slAt, backD, flD, flN, mCallD, mCallN, runD, mRepl, pickSem, mIxCallD, mIxCallN, own_ol, own_fr, own_un, lend_nil, lend_ol, lend_fr, lend_un, isT_str, isT_list, isT_tuple, isT_int, isT_bint, Bool.not_true, Bool.not_false, List.getElem?_cons_zero, List.getElem?_cons_succ, List.getElem?_nil, List.set_cons_zero, List.set_cons_succ, List.replicate_succ, List.replicate_zero, List.cons_append, List.nil_append, List.length_cons, List.length_nil, atI_0, atI_1, atI_2, atI_3, atI_4, ixN_30, ixN_31, ixN_32, szl_0, szl_1, szl_2, szl_3, szl_4, szl_5, szl_6, szl_7, szl_8, szl_9, szl_10, szl_11, szl_12, gd, dEq_i, dNe_i, dLt, dLe, dGt, dGe, dIx_l, dIx_t, Option.bind_some, if_pos, if_neg, if_true, if_false, Nat.zero_add, decide_true, decide_false, Int.toNat_zero, Int.toNat_one, dAdd_i, dSub_i, not_false_eq_true, ite_true, ite_false, Int.reduceLE, Int.reduceLT, Int.reduceNeg, Int.reduceAdd, Int.reduceSub, Int.reduceToNat, Nat.reduceAdd, Nat.reduceLT, Nat.reduceLeDiff, Int.reduceEq, Nat.reduceEqDiff, Int.reduceMul, ↓reduceIte, Int.cast_ofNat_Int, e2, e3]
  exact e4
theorem callD_1 {sem : List SV → R Fl} {i : Nat} {f : M D} {d : D} {ls : LS} {s : SV} {P : D → LS → Prop} (hf : f ls = .ok d ls) (hi : ls[i]? = some s) (ho : s.own = true) (h : wz (sem [s, .fr d]) fun fl l2 => ∃ (t : D) (s' : SV), fl = .rt t ∧ l2[0]? = some s' ∧ s'.own = true ∧ P t (ls.set i s')) : wz (mCallD false [0] sem (aSlO i (aFr f aNil)) ls) P := by
  simp -implicitDefEqProofs only [mSeq, mDo, mRet, mRetN, mSet, mOwn, mKill, mAug, gT, gTs, gTup, mAsg, mOwnM, mApp, mExt, isOl, appT, extT, setT, gIx, mOIx, mOLen, mFreeze, mRetO, mFor, wz_bnd, wz_ok, ret, bad, optM, mVar, mNil, mCons, asB, ofB, mNo, mSome, mSl, mIf, mAnd, mOr, mNot, mChain, mTup, mLst, mFz, mCall, mMeth, mNeg, mIsN, mMs, mAndV, mOrV, mBin, mIter, itemsOf, mRange1, mRange2, mEnum, mListOf, mIsi, wz_run, wz_bor, wz_borT, wz_noEx, wz_bad, aNil, aFr, aSlO, argSV, argSVs, slAt, backD, flD, flN, mCallD, mCallN, runD, mRepl, pickSem, mIxCallD, mIxCallN, own_ol, own_fr, own_un, lend_nil, lend_ol, lend_fr, lend_un, isT_str, isT_list, isT_tuple, isT_int, isT_bint, Bool.not_true, Bool.not_false, List.getElem?_cons_zero, List.getElem?_cons_succ, List.getElem?_nil, List.set_cons_zero, List.set_cons_succ, List.replicate_succ, List.replicate_zero, List.cons_append, List.nil_append, List.length_cons, List.length_nil, atI_0, atI_1, atI_2, atI_3, atI_4, ixN_30, ixN_31, ixN_32, szl_0, szl_1, szl_2, szl_3, szl_4, szl_5, szl_6, szl_7, szl_8, szl_9, szl_10, szl_11, szl_12, gd, dEq_i, dNe_i, dLt, dLe, dGt, dGe, dIx_l, dIx_t, Option.bind_some, if_pos, if_neg, if_true, if_false, Nat.zero_add, decide_true, decide_false, Int.toNat_zero, Int.toNat_one, dAdd_i, dSub_i, not_false_eq_true, ite_true, ite_false, Int.reduceLE, Int.reduceLT, Int.reduceNeg, Int.reduceAdd, Int.reduceSub, Int.reduceToNat, Nat.reduceAdd, Nat.reduceLT, Nat.reduceLeDiff, Int.reduceEq, Nat.reduceEqDiff, Int.reduceMul, ↓reduceIte, Int.cast_ofNat_Int, hi, ho, hf, List.all_cons, List.all_nil, List.contains_cons, List.contains_nil, beq_self_eq_true, Bool.true_or, Bool.and_self]
  refine wz_imp h fun fl l ⟨t, s', e1, e2, e3, e4⟩ => ?_
  subst e1
  simp -implicitDefEqProofs only [mSeq, mDo, mRet, mRetN, mSet, mOwn, mKill, mAug, gT, gTs, gTup, mAsg, mOwnM, mApp, mExt, isOl, appT, extT, setT, gIx, mOIx, mOLen, mFreeze, mRetO, mFor, wz_bnd, wz_ok, ret, bad, optM, mVar, mNil, mCons, asB, ofB, mNo, mSome, mSl, mIf, mAnd, mOr, mNot, mChain, mTup, mLst, mFz, mCall, mMeth, mNeg, mIsN, mMs, mAndV, mOrV, mBin, mIter, itemsOf, mRange1, mRange2, mEnum, mListOf, mIsi, wz_run, wz_bor, wz_borT, wz_noEx, wz_bad, aNil, aFr, aSlO, argSV, argSVs, slAt, backD, flD, flN, mCallD, mCallN, runD, mRepl, pickSem, mIxCallD, mIxCallN, own_ol, own_fr, own_un, lend_nil, lend_ol, lend_fr, lend_un, isT_str, isT_list, isT_tuple, isT_int, isT_bint, Bool.not_true, Bool.not_false, List.getElem?_cons_zero, List.getElem?_cons_succ, List.getElem?_nil, List.set_cons_zero, List.set_cons_succ, List.replicate_succ, List.replicate_zero, List.cons_append, List.nil_append, List.length_cons, List.length_nil, atI_0, atI_1, atI_2, atI_3, atI_4, ixN_30, ixN_31, ixN_32, szl_0, szl_1, szl_2, szl_3, szl_4, szl_5, szl_6, szl_7, szl_8, szl_9, szl_10, szl_11, szl_12, gd, dEq_i, dNe_i, dLt, dLe, dGt, dGe, dIx_l, dIx_t, Option.bind_some, if_pos, if_neg, if_true, if_false, Nat.zero_add, decide_true, decide_false, Int.toNat_zero, Int.toNat_one, dAdd_i, dSub_i, not_false_eq_true, ite_true, ite_false, Int.reduceLE, Int.reduceLT, Int.reduceNeg, Int.reduceAdd, Int.reduceSub, Int.reduceToNat, Nat.reduceAdd, Nat.reduceLT, Nat.reduceLeDiff, Int.reduceEq, Nat.reduceEqDiff, Int.reduceMul, ↓reduceIte, Int.cast_ofNat_Int, e2, e3]
  exact e4
/-- a draw as a caller sees it -/
theorem call_next (N : Nat) {i K : Nat} {ls : LS} {s : SV} {P : D → LS → Prop} (h : Dr K s) (hK : K < 2 ^ 60) (hi : ls[i]? = some s) (k : ∀ (r : Int) (s' : SV), 0 ≤ r → Dr (K + 1) s' → P (.int r) (ls.set i s')) : wz (mCallD false [0] (z_w_next N) (aSlO i aNil) ls) P :=
  callD_0 hi h.own (wz_imp (next_ok N h hK) fun fl l ⟨r, s', e1, e2, e3, e4⟩ => ⟨.int r, s', e1, e2, e4.own, k r s' e3 e4⟩)
theorem wideIx (r : Int) (h : 0 ≤ r) : ∃ m : Int, atI ([.int 3, .int 30, .int 1000, .int 1000000] : List D) (r % 4) = some (.int m) ∧ 0 < m ∧ m ≤ 1000000 := by
  have : r % 4 = 0 ∨ r % 4 = 1 ∨ r % 4 = 2 ∨ r % 4 = 3 := by omega
  rcases this with e | e | e | e <;> rw [e]
  · exact ⟨3, rfl, by decide, by decide⟩
  · exact ⟨30, rfl, by decide, by decide⟩
  · exact ⟨1000, rfl, by decide, by decide⟩
  · exact ⟨1000000, rfl, by decide, by decide⟩
theorem p40 : dPow (.int 10) (.int 40) = some (.int (10 ^ 40)) := by rfl
theorem mod40 (a : Int) : dMod (.int a) (.int (10 ^ 40)) = some (.int (a % 10 ^ 40)) := dMod_i (by decide)
theorem mul6 (a : Int) : dMul (.int a) (.int 1000000) = some (.int (a * 1000000)) := dMul_k (by decide)
theorem m4 (i : Int) : dMod (.int i) (.int 4) = some (.int (i % 4)) := dMod_i (by decide)
theorem m8 (i : Int) : dMod (.int i) (.int 8) = some (.int (i % 8)) := dMod_i (by decide)
theorem m2 (i : Int) : dMod (.int i) (.int 2) = some (.int (i % 2)) := dMod_i (by decide)
theorem m3 (i : Int) : dMod (.int i) (.int 3) = some (.int (i % 3)) := dMod_i (by decide)
theorem number_ok (N : Nat) {s : SV} {K : Nat} (h : Dr K s) (hK : K + 16 < 2 ^ 60) : wz (z_w_number N [s]) fun fl ls => ∃ (n : Int) (s' : SV), fl = .rt (.int n) ∧ ls[0]? = some s' ∧ (0 ≤ n ∧ n < 10 ^ 40) ∧ Dr (K + 9) s' := by
  simp -implicitDefEqProofs only [mSeq, mDo, mRet, mRetN, mSet, mOwn, mKill, mAug, gT, gTs, gTup, mAsg, mOwnM, mApp, mExt, isOl, appT, extT, setT, gIx, mOIx, mOLen, mFreeze, mRetO, mFor, wz_bnd, wz_ok, ret, bad, optM, mVar, mNil, mCons, asB, ofB, mNo, mSome, mSl, mIf, mAnd, mOr, mNot, mChain, mTup, mLst, mFz, mCall, mMeth, mNeg, mIsN, mMs, mAndV, mOrV, mBin, mIter, itemsOf, mRange1, mRange2, mEnum, mListOf, mIsi, wz_bor, wz_borT, wz_noEx, wz_bad, runD, mRepl, pickSem, own_ol, own_fr, own_un, lend_nil, lend_ol, lend_fr, lend_un, isT_str, isT_list, isT_tuple, isT_int, isT_bint, Bool.not_true, Bool.not_false, List.getElem?_cons_zero, List.getElem?_cons_succ, List.getElem?_nil, List.set_cons_zero, List.set_cons_succ, List.replicate_succ, List.replicate_zero, List.cons_append, List.nil_append, List.length_cons, List.length_nil, atI_0, atI_1, atI_2, atI_3, atI_4, ixN_30, ixN_31, ixN_32, szl_0, szl_1, szl_2, szl_3, szl_4, szl_5, szl_6, szl_7, szl_8, szl_9, szl_10, szl_11, szl_12, gd, dEq_i, dNe_i, dLt, dLe, dGt, dGe, dIx_l, dIx_t, Option.bind_some, if_pos, if_neg, if_true, if_false, Nat.zero_add, decide_true, decide_false, Int.toNat_zero, Int.toNat_one, dAdd_i, dSub_i, not_false_eq_true, ite_true, ite_false, Int.reduceLE, Int.reduceLT, Int.reduceNeg, Int.reduceAdd, Int.reduceSub, Int.reduceToNat, Nat.reduceAdd, Nat.reduceLT, Nat.reduceLeDiff, Int.reduceEq, Nat.reduceEqDiff, Int.reduceMul, ↓reduceIte, Int.cast_ofNat_Int, z_w_number, b_w_number]
  refine call_next N h (by omega) rfl fun r1 s1 h1 d1 => ?_
  simp -implicitDefEqProofs only [mSeq, mDo, mRet, mRetN, mSet, mOwn, mKill, mAug, gT, gTs, gTup, mAsg, mOwnM, mApp, mExt, isOl, appT, extT, setT, gIx, mOIx, mOLen, mFreeze, mRetO, mFor, wz_bnd, wz_ok, ret, bad, optM, mVar, mNil, mCons, asB, ofB, mNo, mSome, mSl, mIf, mAnd, mOr, mNot, mChain, mTup, mLst, mFz, mCall, mMeth, mNeg, mIsN, mMs, mAndV, mOrV, mBin, mIter, itemsOf, mRange1, mRange2, mEnum, mListOf, mIsi, wz_bor, wz_borT, wz_noEx, wz_bad, runD, mRepl, pickSem, own_ol, own_fr, own_un, lend_nil, lend_ol, lend_fr, lend_un, isT_str, isT_list, isT_tuple, isT_int, isT_bint, Bool.not_true, Bool.not_false, List.getElem?_cons_zero, List.getElem?_cons_succ, List.getElem?_nil, List.set_cons_zero, List.set_cons_succ, List.replicate_succ, List.replicate_zero, List.cons_append, List.nil_append, List.length_cons, List.length_nil, atI_0, atI_1, atI_2, atI_3, atI_4, ixN_30, ixN_31, ixN_32, szl_0, szl_1, szl_2, szl_3, szl_4, szl_5, szl_6, szl_7, szl_8, szl_9, szl_10, szl_11, szl_12, gd, dEq_i, dNe_i, dLt, dLe, dGt, dGe, dIx_l, dIx_t, Option.bind_some, if_pos, if_neg, if_true, if_false, Nat.zero_add, decide_true, decide_false, Int.toNat_zero, Int.toNat_one, dAdd_i, dSub_i, not_false_eq_true, ite_true, ite_false, Int.reduceLE, Int.reduceLT, Int.reduceNeg, Int.reduceAdd, Int.reduceSub, Int.reduceToNat, Nat.reduceAdd, Nat.reduceLT, Nat.reduceLeDiff, Int.reduceEq, Nat.reduceEqDiff, Int.reduceMul, ↓reduceIte, Int.cast_ofNat_Int, m4]
  refine call_next N d1 (by omega) rfl fun r2 s2 h2 d2 => ?_
  obtain ⟨m, em, hm0, hm1⟩ := wideIx r1 h1
  have q := dMod_i (i := r2) hm0
  have b0 := Int.emod_nonneg r2 (Int.ne_of_gt hm0)
  have b1 := Int.emod_lt_of_pos r2 hm0
  simp -implicitDefEqProofs only [mSeq, mDo, mRet, mRetN, mSet, mOwn, mKill, mAug, gT, gTs, gTup, mAsg, mOwnM, mApp, mExt, isOl, appT, extT, setT, gIx, mOIx, mOLen, mFreeze, mRetO, mFor, wz_bnd, wz_ok, ret, bad, optM, mVar, mNil, mCons, asB, ofB, mNo, mSome, mSl, mIf, mAnd, mOr, mNot, mChain, mTup, mLst, mFz, mCall, mMeth, mNeg, mIsN, mMs, mAndV, mOrV, mBin, mIter, itemsOf, mRange1, mRange2, mEnum, mListOf, mIsi, wz_bor, wz_borT, wz_noEx, wz_bad, runD, mRepl, pickSem, own_ol, own_fr, own_un, lend_nil, lend_ol, lend_fr, lend_un, isT_str, isT_list, isT_tuple, isT_int, isT_bint, Bool.not_true, Bool.not_false, List.getElem?_cons_zero, List.getElem?_cons_succ, List.getElem?_nil, List.set_cons_zero, List.set_cons_succ, List.replicate_succ, List.replicate_zero, List.cons_append, List.nil_append, List.length_cons, List.length_nil, atI_0, atI_1, atI_2, atI_3, atI_4, ixN_30, ixN_31, ixN_32, szl_0, szl_1, szl_2, szl_3, szl_4, szl_5, szl_6, szl_7, szl_8, szl_9, szl_10, szl_11, szl_12, gd, dEq_i, dNe_i, dLt, dLe, dGt, dGe, dIx_l, dIx_t, Option.bind_some, if_pos, if_neg, if_true, if_false, Nat.zero_add, decide_true, decide_false, Int.toNat_zero, Int.toNat_one, dAdd_i, dSub_i, not_false_eq_true, ite_true, ite_false, Int.reduceLE, Int.reduceLT, Int.reduceNeg, Int.reduceAdd, Int.reduceSub, Int.reduceToNat, Nat.reduceAdd, Nat.reduceLT, Nat.reduceLeDiff, Int.reduceEq, Nat.reduceEqDiff, Int.reduceMul, ↓reduceIte, Int.cast_ofNat_Int, p6, em, q]
  refine call_next N d2 (by omega) rfl fun r3 s3 h3 d3 => ?_
  by_cases e : r3 % 8 = 5
  · have hr : rangeD 0 6 = [.int 0, .int 1, .int 2, .int 3, .int 4, .int 5] := rfl
    have hi : inR 6 = true := rfl
    simp -implicitDefEqProofs only [mSeq, mDo, mRet, mRetN, mSet, mOwn, mKill, mAug, gT, gTs, gTup, mAsg, mOwnM, mApp, mExt, isOl, appT, extT, setT, gIx, mOIx, mOLen, mFreeze, mRetO, mFor, wz_bnd, wz_ok, ret, bad, optM, mVar, mNil, mCons, asB, ofB, mNo, mSome, mSl, mIf, mAnd, mOr, mNot, mChain, mTup, mLst, mFz, mCall, mMeth, mNeg, mIsN, mMs, mAndV, mOrV, mBin, mIter, itemsOf, mRange1, mRange2, mEnum, mListOf, mIsi, wz_bor, wz_borT, wz_noEx, wz_bad, runD, mRepl, pickSem, own_ol, own_fr, own_un, lend_nil, lend_ol, lend_fr, lend_un, isT_str, isT_list, isT_tuple, isT_int, isT_bint, Bool.not_true, Bool.not_false, List.getElem?_cons_zero, List.getElem?_cons_succ, List.getElem?_nil, List.set_cons_zero, List.set_cons_succ, List.replicate_succ, List.replicate_zero, List.cons_append, List.nil_append, List.length_cons, List.length_nil, atI_0, atI_1, atI_2, atI_3, atI_4, ixN_30, ixN_31, ixN_32, szl_0, szl_1, szl_2, szl_3, szl_4, szl_5, szl_6, szl_7, szl_8, szl_9, szl_10, szl_11, szl_12, gd, dEq_i, dNe_i, dLt, dLe, dGt, dGe, dIx_l, dIx_t, Option.bind_some, if_pos, if_neg, if_true, if_false, Nat.zero_add, decide_true, decide_false, Int.toNat_zero, Int.toNat_one, dAdd_i, dSub_i, not_false_eq_true, ite_true, ite_false, Int.reduceLE, Int.reduceLT, Int.reduceNeg, Int.reduceAdd, Int.reduceSub, Int.reduceToNat, Nat.reduceAdd, Nat.reduceLT, Nat.reduceLeDiff, Int.reduceEq, Nat.reduceEqDiff, Int.reduceMul, ↓reduceIte, Int.cast_ofNat_Int, m8, e, hr, hi]
    refine wz_for (fun ts l => ∃ (s : SV) (n : Int), l = [s, .fr (.int (r1 % 4)), .fr (.int n), l.getD 3 .un] ∧ l.length = 4 ∧ 0 ≤ n ∧ ts.length ≤ 6 ∧ Dr (K + 9 - ts.length) s) (fun t ts l hI => ?_) (fun l hI => ?_) ⟨_, _, rfl, rfl, b0, by simp, d3.mono (by simp)⟩
    · obtain ⟨s, n, hl, _, hn, ht, hd⟩ := hI
      rw [List.length_cons] at ht hd
      rw [hl]
      simp -implicitDefEqProofs only [mSeq, mDo, mRet, mRetN, mSet, mOwn, mKill, mAug, gT, gTs, gTup, mAsg, mOwnM, mApp, mExt, isOl, appT, extT, setT, gIx, mOIx, mOLen, mFreeze, mRetO, mFor, wz_bnd, wz_ok, ret, bad, optM, mVar, mNil, mCons, asB, ofB, mNo, mSome, mSl, mIf, mAnd, mOr, mNot, mChain, mTup, mLst, mFz, mCall, mMeth, mNeg, mIsN, mMs, mAndV, mOrV, mBin, mIter, itemsOf, mRange1, mRange2, mEnum, mListOf, mIsi, wz_bor, wz_borT, wz_noEx, wz_bad, runD, mRepl, pickSem, own_ol, own_fr, own_un, lend_nil, lend_ol, lend_fr, lend_un, isT_str, isT_list, isT_tuple, isT_int, isT_bint, Bool.not_true, Bool.not_false, List.getElem?_cons_zero, List.getElem?_cons_succ, List.getElem?_nil, List.set_cons_zero, List.set_cons_succ, List.replicate_succ, List.replicate_zero, List.cons_append, List.nil_append, List.length_cons, List.length_nil, atI_0, atI_1, atI_2, atI_3, atI_4, ixN_30, ixN_31, ixN_32, szl_0, szl_1, szl_2, szl_3, szl_4, szl_5, szl_6, szl_7, szl_8, szl_9, szl_10, szl_11, szl_12, gd, dEq_i, dNe_i, dLt, dLe, dGt, dGe, dIx_l, dIx_t, Option.bind_some, if_pos, if_neg, if_true, if_false, Nat.zero_add, decide_true, decide_false, Int.toNat_zero, Int.toNat_one, dAdd_i, dSub_i, not_false_eq_true, ite_true, ite_false, Int.reduceLE, Int.reduceLT, Int.reduceNeg, Int.reduceAdd, Int.reduceSub, Int.reduceToNat, Nat.reduceAdd, Nat.reduceLT, Nat.reduceLeDiff, Int.reduceEq, Nat.reduceEqDiff, Int.reduceMul, ↓reduceIte, Int.cast_ofNat_Int, killS, mul6, p6]
      refine call_next N hd (by omega) rfl fun r4 s4 h4 d4 => ?_
      simp -implicitDefEqProofs only [mSeq, mDo, mRet, mRetN, mSet, mOwn, mKill, mAug, gT, gTs, gTup, mAsg, mOwnM, mApp, mExt, isOl, appT, extT, setT, gIx, mOIx, mOLen, mFreeze, mRetO, mFor, wz_bnd, wz_ok, ret, bad, optM, mVar, mNil, mCons, asB, ofB, mNo, mSome, mSl, mIf, mAnd, mOr, mNot, mChain, mTup, mLst, mFz, mCall, mMeth, mNeg, mIsN, mMs, mAndV, mOrV, mBin, mIter, itemsOf, mRange1, mRange2, mEnum, mListOf, mIsi, wz_bor, wz_borT, wz_noEx, wz_bad, runD, mRepl, pickSem, own_ol, own_fr, own_un, lend_nil, lend_ol, lend_fr, lend_un, isT_str, isT_list, isT_tuple, isT_int, isT_bint, Bool.not_true, Bool.not_false, List.getElem?_cons_zero, List.getElem?_cons_succ, List.getElem?_nil, List.set_cons_zero, List.set_cons_succ, List.replicate_succ, List.replicate_zero, List.cons_append, List.nil_append, List.length_cons, List.length_nil, atI_0, atI_1, atI_2, atI_3, atI_4, ixN_30, ixN_31, ixN_32, szl_0, szl_1, szl_2, szl_3, szl_4, szl_5, szl_6, szl_7, szl_8, szl_9, szl_10, szl_11, szl_12, gd, dEq_i, dNe_i, dLt, dLe, dGt, dGe, dIx_l, dIx_t, Option.bind_some, if_pos, if_neg, if_true, if_false, Nat.zero_add, decide_true, decide_false, Int.toNat_zero, Int.toNat_one, dAdd_i, dSub_i, not_false_eq_true, ite_true, ite_false, Int.reduceLE, Int.reduceLT, Int.reduceNeg, Int.reduceAdd, Int.reduceSub, Int.reduceToNat, Nat.reduceAdd, Nat.reduceLT, Nat.reduceLeDiff, Int.reduceEq, Nat.reduceEqDiff, Int.reduceMul, ↓reduceIte, Int.cast_ofNat_Int, mod6]
      exact ⟨s4, _, rfl, trivial, by omega, by omega, d4.mono (by omega)⟩
    · obtain ⟨s, n, hl, _, hn, ht, hd⟩ := hI
      rw [hl]
      simp -implicitDefEqProofs only [mSeq, mDo, mRet, mRetN, mSet, mOwn, mKill, mAug, gT, gTs, gTup, mAsg, mOwnM, mApp, mExt, isOl, appT, extT, setT, gIx, mOIx, mOLen, mFreeze, mRetO, mFor, wz_bnd, wz_ok, ret, bad, optM, mVar, mNil, mCons, asB, ofB, mNo, mSome, mSl, mIf, mAnd, mOr, mNot, mChain, mTup, mLst, mFz, mCall, mMeth, mNeg, mIsN, mMs, mAndV, mOrV, mBin, mIter, itemsOf, mRange1, mRange2, mEnum, mListOf, mIsi, wz_bor, wz_borT, wz_noEx, wz_bad, runD, mRepl, pickSem, own_ol, own_fr, own_un, lend_nil, lend_ol, lend_fr, lend_un, isT_str, isT_list, isT_tuple, isT_int, isT_bint, Bool.not_true, Bool.not_false, List.getElem?_cons_zero, List.getElem?_cons_succ, List.getElem?_nil, List.set_cons_zero, List.set_cons_succ, List.replicate_succ, List.replicate_zero, List.cons_append, List.nil_append, List.length_cons, List.length_nil, atI_0, atI_1, atI_2, atI_3, atI_4, ixN_30, ixN_31, ixN_32, szl_0, szl_1, szl_2, szl_3, szl_4, szl_5, szl_6, szl_7, szl_8, szl_9, szl_10, szl_11, szl_12, gd, dEq_i, dNe_i, dLt, dLe, dGt, dGe, dIx_l, dIx_t, Option.bind_some, if_pos, if_neg, if_true, if_false, Nat.zero_add, decide_true, decide_false, Int.toNat_zero, Int.toNat_one, dAdd_i, dSub_i, not_false_eq_true, ite_true, ite_false, Int.reduceLE, Int.reduceLT, Int.reduceNeg, Int.reduceAdd, Int.reduceSub, Int.reduceToNat, Nat.reduceAdd, Nat.reduceLT, Nat.reduceLeDiff, Int.reduceEq, Nat.reduceEqDiff, Int.reduceMul, ↓reduceIte, Int.cast_ofNat_Int, killS, p40, mod40]
      exact ⟨n % 10 ^ 40, s, rfl, rfl, ⟨Int.emod_nonneg _ (by decide), Int.emod_lt_of_pos n (by decide)⟩, hd.mono (by simp)⟩
  · simp -implicitDefEqProofs only [mSeq, mDo, mRet, mRetN, mSet, mOwn, mKill, mAug, gT, gTs, gTup, mAsg, mOwnM, mApp, mExt, isOl, appT, extT, setT, gIx, mOIx, mOLen, mFreeze, mRetO, mFor, wz_bnd, wz_ok, ret, bad, optM, mVar, mNil, mCons, asB, ofB, mNo, mSome, mSl, mIf, mAnd, mOr, mNot, mChain, mTup, mLst, mFz, mCall, mMeth, mNeg, mIsN, mMs, mAndV, mOrV, mBin, mIter, itemsOf, mRange1, mRange2, mEnum, mListOf, mIsi, wz_bor, wz_borT, wz_noEx, wz_bad, runD, mRepl, pickSem, own_ol, own_fr, own_un, lend_nil, lend_ol, lend_fr, lend_un, isT_str, isT_list, isT_tuple, isT_int, isT_bint, Bool.not_true, Bool.not_false, List.getElem?_cons_zero, List.getElem?_cons_succ, List.getElem?_nil, List.set_cons_zero, List.set_cons_succ, List.replicate_succ, List.replicate_zero, List.cons_append, List.nil_append, List.length_cons, List.length_nil, atI_0, atI_1, atI_2, atI_3, atI_4, ixN_30, ixN_31, ixN_32, szl_0, szl_1, szl_2, szl_3, szl_4, szl_5, szl_6, szl_7, szl_8, szl_9, szl_10, szl_11, szl_12, gd, dEq_i, dNe_i, dLt, dLe, dGt, dGe, dIx_l, dIx_t, Option.bind_some, if_pos, if_neg, if_true, if_false, Nat.zero_add, decide_true, decide_false, Int.toNat_zero, Int.toNat_one, dAdd_i, dSub_i, not_false_eq_true, ite_true, ite_false, Int.reduceLE, Int.reduceLT, Int.reduceNeg, Int.reduceAdd, Int.reduceSub, Int.reduceToNat, Nat.reduceAdd, Nat.reduceLT, Nat.reduceLeDiff, Int.reduceEq, Nat.reduceEqDiff, Int.reduceMul, ↓reduceIte, Int.cast_ofNat_Int, m8, e]
    refine ⟨r2 % m, s3, rfl, rfl, ⟨b0, ?_⟩, d3.mono (by omega)⟩
    have : (10 : Int) ^ 40 ≥ 1000000 := by decide
    omega
/-- a comprehension that draws: each turn c draws at most -/
theorem comp_dr {α : Type} (enc : α → D) (Good : α → Prop) {ks : List Nat} {g : D → M Unit} {fe : M D} {tail : LS} {c B K : Nat} {ts : List D} {s : SV} {P : List D → LS → Prop} (hk : ∀ s, killS ks (s :: tail) = s :: tail) (hl : ts.length ≤ sizeLine)
    (h : ∀ t, t ∈ ts → ∀ (k : Nat) (s : SV), Dr k s → k + c ≤ B → wz (g t (s :: tail)) fun _ l => wz (fe l) fun x l => ∃ (r : α) (s' : SV), x = enc r ∧ Good r ∧ killS ks l = s' :: tail ∧ Dr (k + c) s') (hd : Dr K s) (hB : K + c * ts.length ≤ B)
    (p : ∀ (rs : List α) (s' : SV), rs.length = ts.length → (∀ r ∈ rs, Good r) → Dr (K + c * ts.length) s' → P (rs.map enc) (s' :: tail)) : wz (compL ks g (ret true) fe ts [] (s :: tail)) P := by
  refine wz_comp (fun us acc l => ∃ (s : SV) (rs : List α), l = s :: tail ∧ acc = rs.map enc ∧ (∀ r ∈ rs, Good r) ∧ rs.length + us.length = ts.length ∧ (∀ t ∈ us, t ∈ ts) ∧ Dr (K + c * rs.length) s) (fun t us acc l hI => ?_) (fun acc l hI => ?_) ⟨s, [], rfl, rfl, (fun _ z => by cases z), by simp, fun _ z => z, hd⟩
  · obtain ⟨s, rs, rfl, rfl, e1, e2, e3, e4⟩ := hI
    rw [List.length_cons] at e2
    have hc : c * rs.length + c ≤ c * ts.length := by
      have : rs.length + 1 ≤ ts.length := by omega
      have := Nat.mul_le_mul_left c this
      rw [Nat.mul_add, Nat.mul_one] at this
      exact this
    rw [hk, wz_compT]
    refine wz_imp (h t (e3 t (List.mem_cons_self ..)) _ s e4 (by omega)) fun _ l1 q => ?_
    simp only [ret, wz_ok]
    refine wz_imp q fun x l2 ⟨r, s', q1, q2, q3, q4⟩ => ?_
    subst q1
    refine ⟨by rw [List.length_map]; omega, s', rs ++ [r], q3, by simp, fun z hz => ?_, by rw [List.length_append, List.length_singleton]; omega, fun u hu => e3 u (List.mem_cons_of_mem _ hu), ?_⟩
    · rcases List.mem_append.mp hz with z1 | z1
      · exact e1 z z1
      · rw [List.mem_singleton.mp z1]; exact q2
    · rw [List.length_append, List.length_singleton, Nat.mul_add, Nat.mul_one, ← Nat.add_assoc]
      exact q4
  · obtain ⟨s, rs, rfl, rfl, e1, e2, e3, e4⟩ := hI
    rw [hk]
    rw [List.length_nil, Nat.add_zero] at e2
    exact p rs s e2 e1 (by rw [← e2]; exact e4)
theorem range_len (i : Int) : (rangeD 0 i).length = i.toNat := by
  unfold rangeD
  rw [List.length_map, List.length_range]
  omega
theorem inR_ok {i : Int} (h : 0 ≤ i) (h2 : i < 2 ^ 62) : inR i = true := by
  unfold inR
  rw [decide_eq_true (by omega), decide_eq_true h2]
  rfl
/-- a sign -/
def sgI (w : Bool) : Int := if w then 1 else -1
def sgD (w : Bool) : D := .int (sgI w)
theorem sg_at (r : Int) (h : 0 ≤ r) : ∃ w, atI ([.int 1, .int (-1)] : List D) (r % 2) = some (sgD w) := by
  have : r % 2 = 0 ∨ r % 2 = 1 := by omega
  rcases this with e | e <;> rw [e]
  · exact ⟨true, rfl⟩
  · exact ⟨false, rfl⟩
theorem sub01 : dSub (.int 0) (.int 1) = some (.int (-1)) := rfl
theorem ways_ok (N : Nat) {s : SV} {K m : Nat} (h : Dr K s) (hm : 0 < m) (hm2 : m ≤ 1000) (hK : K + 2000 < 2 ^ 60) : wz (z_w_ways N [s, .fr (.int m)]) fun fl ls => ∃ (ws : List Bool) (s' : SV), fl = .rt (.list (ws.map sgD)) ∧ ls[0]? = some s' ∧ ws.length < m ∧ Dr (K + 1 + m) s' := by
  simp -implicitDefEqProofs only [mSeq, mDo, mRet, mRetN, mSet, mOwn, mKill, mAug, gT, gTs, gTup, mAsg, mOwnM, mApp, mExt, isOl, appT, extT, setT, gIx, mOIx, mOLen, mFreeze, mRetO, mFor, wz_bnd, wz_ok, ret, bad, optM, mVar, mNil, mCons, asB, ofB, mNo, mSome, mSl, mIf, mAnd, mOr, mNot, mChain, mTup, mLst, mFz, mCall, mMeth, mNeg, mIsN, mMs, mAndV, mOrV, mBin, mIter, itemsOf, mRange1, mRange2, mEnum, mListOf, mIsi, wz_bor, wz_borT, wz_noEx, wz_bad, runD, mRepl, pickSem, own_ol, own_fr, own_un, lend_nil, lend_ol, lend_fr, lend_un, isT_str, isT_list, isT_tuple, isT_int, isT_bint, Bool.not_true, Bool.not_false, List.getElem?_cons_zero, List.getElem?_cons_succ, List.getElem?_nil, List.set_cons_zero, List.set_cons_succ, List.replicate_succ, List.replicate_zero, List.cons_append, List.nil_append, List.length_cons, List.length_nil, atI_0, atI_1, atI_2, atI_3, atI_4, ixN_30, ixN_31, ixN_32, szl_0, szl_1, szl_2, szl_3, szl_4, szl_5, szl_6, szl_7, szl_8, szl_9, szl_10, szl_11, szl_12, gd, dEq_i, dNe_i, dLt, dLe, dGt, dGe, dIx_l, dIx_t, Option.bind_some, if_pos, if_neg, if_true, if_false, Nat.zero_add, decide_true, decide_false, Int.toNat_zero, Int.toNat_one, dAdd_i, dSub_i, not_false_eq_true, ite_true, ite_false, Int.reduceLE, Int.reduceLT, Int.reduceNeg, Int.reduceAdd, Int.reduceSub, Int.reduceToNat, Nat.reduceAdd, Nat.reduceLT, Nat.reduceLeDiff, Int.reduceEq, Nat.reduceEqDiff, Int.reduceMul, ↓reduceIte, Int.cast_ofNat_Int, z_w_ways, b_w_ways, mComp]
  refine call_next N h (by omega) rfl fun r1 s1 h1 d1 => ?_
  have q : dMod (.int r1) (.int m) = some (.int (r1 % m)) := dMod_i (by omega)
  have b0 := Int.emod_nonneg r1 (show (m : Int) ≠ 0 by omega)
  have b1 := Int.emod_lt_of_pos r1 (show 0 < (m : Int) by omega)
  simp -implicitDefEqProofs only [mSeq, mDo, mRet, mRetN, mSet, mOwn, mKill, mAug, gT, gTs, gTup, mAsg, mOwnM, mApp, mExt, isOl, appT, extT, setT, gIx, mOIx, mOLen, mFreeze, mRetO, mFor, wz_bnd, wz_ok, ret, bad, optM, mVar, mNil, mCons, asB, ofB, mNo, mSome, mSl, mIf, mAnd, mOr, mNot, mChain, mTup, mLst, mFz, mCall, mMeth, mNeg, mIsN, mMs, mAndV, mOrV, mBin, mIter, itemsOf, mRange1, mRange2, mEnum, mListOf, mIsi, wz_bor, wz_borT, wz_noEx, wz_bad, runD, mRepl, pickSem, own_ol, own_fr, own_un, lend_nil, lend_ol, lend_fr, lend_un, isT_str, isT_list, isT_tuple, isT_int, isT_bint, Bool.not_true, Bool.not_false, List.getElem?_cons_zero, List.getElem?_cons_succ, List.getElem?_nil, List.set_cons_zero, List.set_cons_succ, List.replicate_succ, List.replicate_zero, List.cons_append, List.nil_append, List.length_cons, List.length_nil, atI_0, atI_1, atI_2, atI_3, atI_4, ixN_30, ixN_31, ixN_32, szl_0, szl_1, szl_2, szl_3, szl_4, szl_5, szl_6, szl_7, szl_8, szl_9, szl_10, szl_11, szl_12, gd, dEq_i, dNe_i, dLt, dLe, dGt, dGe, dIx_l, dIx_t, Option.bind_some, if_pos, if_neg, if_true, if_false, Nat.zero_add, decide_true, decide_false, Int.toNat_zero, Int.toNat_one, dAdd_i, dSub_i, not_false_eq_true, ite_true, ite_false, Int.reduceLE, Int.reduceLT, Int.reduceNeg, Int.reduceAdd, Int.reduceSub, Int.reduceToNat, Nat.reduceAdd, Nat.reduceLT, Nat.reduceLeDiff, Int.reduceEq, Nat.reduceEqDiff, Int.reduceMul, ↓reduceIte, Int.cast_ofNat_Int, q, inR_ok b0 (show r1 % (m : Int) < 2 ^ 62 by omega)]
  refine comp_dr sgD (fun _ => True) (c := 1) (B := 2 ^ 60 - 1) (fun _ => rfl) (by rw [range_len, sizeLine_v]; omega) (fun t ht k s hk hB => ?_) d1 (by rw [range_len]; omega) fun ws s' e1 _ d2 => ?_
  · simp -implicitDefEqProofs only [mSeq, mDo, mRet, mRetN, mSet, mOwn, mKill, mAug, gT, gTs, gTup, mAsg, mOwnM, mApp, mExt, isOl, appT, extT, setT, gIx, mOIx, mOLen, mFreeze, mRetO, mFor, wz_bnd, wz_ok, ret, bad, optM, mVar, mNil, mCons, asB, ofB, mNo, mSome, mSl, mIf, mAnd, mOr, mNot, mChain, mTup, mLst, mFz, mCall, mMeth, mNeg, mIsN, mMs, mAndV, mOrV, mBin, mIter, itemsOf, mRange1, mRange2, mEnum, mListOf, mIsi, wz_bor, wz_borT, wz_noEx, wz_bad, runD, mRepl, pickSem, own_ol, own_fr, own_un, lend_nil, lend_ol, lend_fr, lend_un, isT_str, isT_list, isT_tuple, isT_int, isT_bint, Bool.not_true, Bool.not_false, List.getElem?_cons_zero, List.getElem?_cons_succ, List.getElem?_nil, List.set_cons_zero, List.set_cons_succ, List.replicate_succ, List.replicate_zero, List.cons_append, List.nil_append, List.length_cons, List.length_nil, atI_0, atI_1, atI_2, atI_3, atI_4, ixN_30, ixN_31, ixN_32, szl_0, szl_1, szl_2, szl_3, szl_4, szl_5, szl_6, szl_7, szl_8, szl_9, szl_10, szl_11, szl_12, gd, dEq_i, dNe_i, dLt, dLe, dGt, dGe, dIx_l, dIx_t, Option.bind_some, if_pos, if_neg, if_true, if_false, Nat.zero_add, decide_true, decide_false, Int.toNat_zero, Int.toNat_one, dAdd_i, dSub_i, not_false_eq_true, ite_true, ite_false, Int.reduceLE, Int.reduceLT, Int.reduceNeg, Int.reduceAdd, Int.reduceSub, Int.reduceToNat, Nat.reduceAdd, Nat.reduceLT, Nat.reduceLeDiff, Int.reduceEq, Nat.reduceEqDiff, Int.reduceMul, ↓reduceIte, Int.cast_ofNat_Int, sub01]
    refine call_next N hk (by omega) rfl fun r2 s2 h2 d2 => ?_
    obtain ⟨w, ew⟩ := sg_at r2 h2
    simp -implicitDefEqProofs only [mSeq, mDo, mRet, mRetN, mSet, mOwn, mKill, mAug, gT, gTs, gTup, mAsg, mOwnM, mApp, mExt, isOl, appT, extT, setT, gIx, mOIx, mOLen, mFreeze, mRetO, mFor, wz_bnd, wz_ok, ret, bad, optM, mVar, mNil, mCons, asB, ofB, mNo, mSome, mSl, mIf, mAnd, mOr, mNot, mChain, mTup, mLst, mFz, mCall, mMeth, mNeg, mIsN, mMs, mAndV, mOrV, mBin, mIter, itemsOf, mRange1, mRange2, mEnum, mListOf, mIsi, wz_bor, wz_borT, wz_noEx, wz_bad, runD, mRepl, pickSem, own_ol, own_fr, own_un, lend_nil, lend_ol, lend_fr, lend_un, isT_str, isT_list, isT_tuple, isT_int, isT_bint, Bool.not_true, Bool.not_false, List.getElem?_cons_zero, List.getElem?_cons_succ, List.getElem?_nil, List.set_cons_zero, List.set_cons_succ, List.replicate_succ, List.replicate_zero, List.cons_append, List.nil_append, List.length_cons, List.length_nil, atI_0, atI_1, atI_2, atI_3, atI_4, ixN_30, ixN_31, ixN_32, szl_0, szl_1, szl_2, szl_3, szl_4, szl_5, szl_6, szl_7, szl_8, szl_9, szl_10, szl_11, szl_12, gd, dEq_i, dNe_i, dLt, dLe, dGt, dGe, dIx_l, dIx_t, Option.bind_some, if_pos, if_neg, if_true, if_false, Nat.zero_add, decide_true, decide_false, Int.toNat_zero, Int.toNat_one, dAdd_i, dSub_i, not_false_eq_true, ite_true, ite_false, Int.reduceLE, Int.reduceLT, Int.reduceNeg, Int.reduceAdd, Int.reduceSub, Int.reduceToNat, Nat.reduceAdd, Nat.reduceLT, Nat.reduceLeDiff, Int.reduceEq, Nat.reduceEqDiff, Int.reduceMul, ↓reduceIte, Int.cast_ofNat_Int, m2, ew]
    exact ⟨w, s2, rfl, trivial, rfl, d2⟩
  · rw [range_len] at e1 d2
    simp -implicitDefEqProofs only [mSeq, mDo, mRet, mRetN, mSet, mOwn, mKill, mAug, gT, gTs, gTup, mAsg, mOwnM, mApp, mExt, isOl, appT, extT, setT, gIx, mOIx, mOLen, mFreeze, mRetO, mFor, wz_bnd, wz_ok, ret, bad, optM, mVar, mNil, mCons, asB, ofB, mNo, mSome, mSl, mIf, mAnd, mOr, mNot, mChain, mTup, mLst, mFz, mCall, mMeth, mNeg, mIsN, mMs, mAndV, mOrV, mBin, mIter, itemsOf, mRange1, mRange2, mEnum, mListOf, mIsi, wz_bor, wz_borT, wz_noEx, wz_bad, runD, mRepl, pickSem, own_ol, own_fr, own_un, lend_nil, lend_ol, lend_fr, lend_un, isT_str, isT_list, isT_tuple, isT_int, isT_bint, Bool.not_true, Bool.not_false, List.getElem?_cons_zero, List.getElem?_cons_succ, List.getElem?_nil, List.set_cons_zero, List.set_cons_succ, List.replicate_succ, List.replicate_zero, List.cons_append, List.nil_append, List.length_cons, List.length_nil, atI_0, atI_1, atI_2, atI_3, atI_4, ixN_30, ixN_31, ixN_32, szl_0, szl_1, szl_2, szl_3, szl_4, szl_5, szl_6, szl_7, szl_8, szl_9, szl_10, szl_11, szl_12, gd, dEq_i, dNe_i, dLt, dLe, dGt, dGe, dIx_l, dIx_t, Option.bind_some, if_pos, if_neg, if_true, if_false, Nat.zero_add, decide_true, decide_false, Int.toNat_zero, Int.toNat_one, dAdd_i, dSub_i, not_false_eq_true, ite_true, ite_false, Int.reduceLE, Int.reduceLT, Int.reduceNeg, Int.reduceAdd, Int.reduceSub, Int.reduceToNat, Nat.reduceAdd, Nat.reduceLT, Nat.reduceLeDiff, Int.reduceEq, Nat.reduceEqDiff, Int.reduceMul, ↓reduceIte, Int.cast_ofNat_Int]
    exact ⟨ws, s', rfl, rfl, by omega, d2.mono (by omega)⟩
theorem call_number (N : Nat) {i K : Nat} {ls : LS} {s : SV} {P : D → LS → Prop} (h : Dr K s) (hK : K + 16 < 2 ^ 60) (hi : ls[i]? = some s) (k : ∀ (n : Int) (s' : SV), (0 ≤ n ∧ n < 10 ^ 40) → Dr (K + 9) s' → P (.int n) (ls.set i s')) : wz (mCallD false [0] (z_w_number N) (aSlO i aNil) ls) P :=
  callD_0 hi h.own (wz_imp (number_ok N h hK) fun fl l ⟨r, s', e1, e2, e3, e4⟩ => ⟨.int r, s', e1, e2, e4.own, k r s' e3 e4⟩)
theorem call_ways (N : Nat) {i K : Nat} {m : Nat} {f : M D} {ls : LS} {s : SV} {P : D → LS → Prop} (h : Dr K s) (hm : 0 < m) (hm2 : m ≤ 1000) (hK : K + 2000 < 2 ^ 60) (hf : f ls = .ok (.int m) ls) (hi : ls[i]? = some s)
    (k : ∀ (ws : List Bool) (s' : SV), ws.length < m → Dr (K + 1 + m) s' → P (.list (ws.map sgD)) (ls.set i s')) : wz (mCallD false [0] (z_w_ways N) (aSlO i (aFr f aNil)) ls) P :=
  callD_1 hf hi h.own (wz_imp (ways_ok N h hm hm2 hK) fun fl l ⟨r, s', e1, e2, e3, e4⟩ => ⟨_, s', e1, e2, e4.own, k r s' e3 e4⟩)
/-- a number that is drawn -/
def Nm (n : Int) : Prop := 0 ≤ n ∧ n < 10 ^ 40
/-- what a row, pushes, what was shown, shows are made of -/
structure St where
  n : Int
  w : Bool
  m : Int
def rowD (r : St) : D := .tuple [.int r.n, sgD r.w, .int r.m]
def pushD (r : St) : D := .tuple [.int r.n, sgD r.w]
def showD (r : St) : D := .tuple [sgD r.w, .int r.m]
def Tri (m : Int) : Prop := m = -1 ∨ m = 0 ∨ m = 1
theorem row_ok (N : Nat) {s : SV} {K m : Nat} (h : Dr K s) (hm : 0 < m) (hm2 : m ≤ 100) (hK : K + 5000 < 2 ^ 60) : wz (z_w_row N [s, .fr (.int m)]) fun fl ls => ∃ (rs : List St) (s' : SV), fl = .rt (.list (rs.map rowD)) ∧ ls[0]? = some s' ∧ rs.length < m ∧ (∀ r ∈ rs, Nm r.n ∧ Nm r.m) ∧ Dr (K + 3000) s' := by
  simp -implicitDefEqProofs only [mSeq, mDo, mRet, mRetN, mSet, mOwn, mKill, mAug, gT, gTs, gTup, mAsg, mOwnM, mApp, mExt, isOl, appT, extT, setT, gIx, mOIx, mOLen, mFreeze, mRetO, mFor, wz_bnd, wz_ok, ret, bad, optM, mVar, mNil, mCons, asB, ofB, mNo, mSome, mSl, mIf, mAnd, mOr, mNot, mChain, mTup, mLst, mFz, mCall, mMeth, mNeg, mIsN, mMs, mAndV, mOrV, mBin, mIter, itemsOf, mRange1, mRange2, mEnum, mListOf, mIsi, wz_bor, wz_borT, wz_noEx, wz_bad, runD, mRepl, pickSem, own_ol, own_fr, own_un, lend_nil, lend_ol, lend_fr, lend_un, isT_str, isT_list, isT_tuple, isT_int, isT_bint, Bool.not_true, Bool.not_false, List.getElem?_cons_zero, List.getElem?_cons_succ, List.getElem?_nil, List.set_cons_zero, List.set_cons_succ, List.replicate_succ, List.replicate_zero, List.cons_append, List.nil_append, List.length_cons, List.length_nil, atI_0, atI_1, atI_2, atI_3, atI_4, ixN_30, ixN_31, ixN_32, szl_0, szl_1, szl_2, szl_3, szl_4, szl_5, szl_6, szl_7, szl_8, szl_9, szl_10, szl_11, szl_12, gd, dEq_i, dNe_i, dLt, dLe, dGt, dGe, dIx_l, dIx_t, Option.bind_some, if_pos, if_neg, if_true, if_false, Nat.zero_add, decide_true, decide_false, Int.toNat_zero, Int.toNat_one, dAdd_i, dSub_i, not_false_eq_true, ite_true, ite_false, Int.reduceLE, Int.reduceLT, Int.reduceNeg, Int.reduceAdd, Int.reduceSub, Int.reduceToNat, Nat.reduceAdd, Nat.reduceLT, Nat.reduceLeDiff, Int.reduceEq, Nat.reduceEqDiff, Int.reduceMul, ↓reduceIte, Int.cast_ofNat_Int, z_w_row, b_w_row, mComp]
  refine call_ways N h hm (by omega) (by omega) rfl rfl fun ws s1 hw d1 => ?_
  simp -implicitDefEqProofs only [mSeq, mDo, mRet, mRetN, mSet, mOwn, mKill, mAug, gT, gTs, gTup, mAsg, mOwnM, mApp, mExt, isOl, appT, extT, setT, gIx, mOIx, mOLen, mFreeze, mRetO, mFor, wz_bnd, wz_ok, ret, bad, optM, mVar, mNil, mCons, asB, ofB, mNo, mSome, mSl, mIf, mAnd, mOr, mNot, mChain, mTup, mLst, mFz, mCall, mMeth, mNeg, mIsN, mMs, mAndV, mOrV, mBin, mIter, itemsOf, mRange1, mRange2, mEnum, mListOf, mIsi, wz_bor, wz_borT, wz_noEx, wz_bad, runD, mRepl, pickSem, own_ol, own_fr, own_un, lend_nil, lend_ol, lend_fr, lend_un, isT_str, isT_list, isT_tuple, isT_int, isT_bint, Bool.not_true, Bool.not_false, List.getElem?_cons_zero, List.getElem?_cons_succ, List.getElem?_nil, List.set_cons_zero, List.set_cons_succ, List.replicate_succ, List.replicate_zero, List.cons_append, List.nil_append, List.length_cons, List.length_nil, atI_0, atI_1, atI_2, atI_3, atI_4, ixN_30, ixN_31, ixN_32, szl_0, szl_1, szl_2, szl_3, szl_4, szl_5, szl_6, szl_7, szl_8, szl_9, szl_10, szl_11, szl_12, gd, dEq_i, dNe_i, dLt, dLe, dGt, dGe, dIx_l, dIx_t, Option.bind_some, if_pos, if_neg, if_true, if_false, Nat.zero_add, decide_true, decide_false, Int.toNat_zero, Int.toNat_one, dAdd_i, dSub_i, not_false_eq_true, ite_true, ite_false, Int.reduceLE, Int.reduceLT, Int.reduceNeg, Int.reduceAdd, Int.reduceSub, Int.reduceToNat, Nat.reduceAdd, Nat.reduceLT, Nat.reduceLeDiff, Int.reduceEq, Nat.reduceEqDiff, Int.reduceMul, ↓reduceIte, Int.cast_ofNat_Int]
  refine comp_dr rowD (fun r => Nm r.n ∧ Nm r.m) (c := 18) (B := K + 3000) (fun _ => rfl) (by rw [List.length_map, sizeLine_v]; omega) (fun t ht k s hk hB => ?_) d1 (by rw [List.length_map]; omega) fun rs s' e1 hg d2 => ?_
  · obtain ⟨w, hw, rfl⟩ := List.mem_map.mp ht
    simp -implicitDefEqProofs only [mSeq, mDo, mRet, mRetN, mSet, mOwn, mKill, mAug, gT, gTs, gTup, mAsg, mOwnM, mApp, mExt, isOl, appT, extT, setT, gIx, mOIx, mOLen, mFreeze, mRetO, mFor, wz_bnd, wz_ok, ret, bad, optM, mVar, mNil, mCons, asB, ofB, mNo, mSome, mSl, mIf, mAnd, mOr, mNot, mChain, mTup, mLst, mFz, mCall, mMeth, mNeg, mIsN, mMs, mAndV, mOrV, mBin, mIter, itemsOf, mRange1, mRange2, mEnum, mListOf, mIsi, wz_bor, wz_borT, wz_noEx, wz_bad, runD, mRepl, pickSem, own_ol, own_fr, own_un, lend_nil, lend_ol, lend_fr, lend_un, isT_str, isT_list, isT_tuple, isT_int, isT_bint, Bool.not_true, Bool.not_false, List.getElem?_cons_zero, List.getElem?_cons_succ, List.getElem?_nil, List.set_cons_zero, List.set_cons_succ, List.replicate_succ, List.replicate_zero, List.cons_append, List.nil_append, List.length_cons, List.length_nil, atI_0, atI_1, atI_2, atI_3, atI_4, ixN_30, ixN_31, ixN_32, szl_0, szl_1, szl_2, szl_3, szl_4, szl_5, szl_6, szl_7, szl_8, szl_9, szl_10, szl_11, szl_12, gd, dEq_i, dNe_i, dLt, dLe, dGt, dGe, dIx_l, dIx_t, Option.bind_some, if_pos, if_neg, if_true, if_false, Nat.zero_add, decide_true, decide_false, Int.toNat_zero, Int.toNat_one, dAdd_i, dSub_i, not_false_eq_true, ite_true, ite_false, Int.reduceLE, Int.reduceLT, Int.reduceNeg, Int.reduceAdd, Int.reduceSub, Int.reduceToNat, Nat.reduceAdd, Nat.reduceLT, Nat.reduceLeDiff, Int.reduceEq, Nat.reduceEqDiff, Int.reduceMul, ↓reduceIte, Int.cast_ofNat_Int]
    refine call_number N hk (by omega) rfl fun n1 s2 g1 d2 => ?_
    simp -implicitDefEqProofs only [mSeq, mDo, mRet, mRetN, mSet, mOwn, mKill, mAug, gT, gTs, gTup, mAsg, mOwnM, mApp, mExt, isOl, appT, extT, setT, gIx, mOIx, mOLen, mFreeze, mRetO, mFor, wz_bnd, wz_ok, ret, bad, optM, mVar, mNil, mCons, asB, ofB, mNo, mSome, mSl, mIf, mAnd, mOr, mNot, mChain, mTup, mLst, mFz, mCall, mMeth, mNeg, mIsN, mMs, mAndV, mOrV, mBin, mIter, itemsOf, mRange1, mRange2, mEnum, mListOf, mIsi, wz_bor, wz_borT, wz_noEx, wz_bad, runD, mRepl, pickSem, own_ol, own_fr, own_un, lend_nil, lend_ol, lend_fr, lend_un, isT_str, isT_list, isT_tuple, isT_int, isT_bint, Bool.not_true, Bool.not_false, List.getElem?_cons_zero, List.getElem?_cons_succ, List.getElem?_nil, List.set_cons_zero, List.set_cons_succ, List.replicate_succ, List.replicate_zero, List.cons_append, List.nil_append, List.length_cons, List.length_nil, atI_0, atI_1, atI_2, atI_3, atI_4, ixN_30, ixN_31, ixN_32, szl_0, szl_1, szl_2, szl_3, szl_4, szl_5, szl_6, szl_7, szl_8, szl_9, szl_10, szl_11, szl_12, gd, dEq_i, dNe_i, dLt, dLe, dGt, dGe, dIx_l, dIx_t, Option.bind_some, if_pos, if_neg, if_true, if_false, Nat.zero_add, decide_true, decide_false, Int.toNat_zero, Int.toNat_one, dAdd_i, dSub_i, not_false_eq_true, ite_true, ite_false, Int.reduceLE, Int.reduceLT, Int.reduceNeg, Int.reduceAdd, Int.reduceSub, Int.reduceToNat, Nat.reduceAdd, Nat.reduceLT, Nat.reduceLeDiff, Int.reduceEq, Nat.reduceEqDiff, Int.reduceMul, ↓reduceIte, Int.cast_ofNat_Int]
    refine call_number N d2 (by omega) rfl fun n2 s3 g2 d3 => ?_
    simp -implicitDefEqProofs only [mSeq, mDo, mRet, mRetN, mSet, mOwn, mKill, mAug, gT, gTs, gTup, mAsg, mOwnM, mApp, mExt, isOl, appT, extT, setT, gIx, mOIx, mOLen, mFreeze, mRetO, mFor, wz_bnd, wz_ok, ret, bad, optM, mVar, mNil, mCons, asB, ofB, mNo, mSome, mSl, mIf, mAnd, mOr, mNot, mChain, mTup, mLst, mFz, mCall, mMeth, mNeg, mIsN, mMs, mAndV, mOrV, mBin, mIter, itemsOf, mRange1, mRange2, mEnum, mListOf, mIsi, wz_bor, wz_borT, wz_noEx, wz_bad, runD, mRepl, pickSem, own_ol, own_fr, own_un, lend_nil, lend_ol, lend_fr, lend_un, isT_str, isT_list, isT_tuple, isT_int, isT_bint, Bool.not_true, Bool.not_false, List.getElem?_cons_zero, List.getElem?_cons_succ, List.getElem?_nil, List.set_cons_zero, List.set_cons_succ, List.replicate_succ, List.replicate_zero, List.cons_append, List.nil_append, List.length_cons, List.length_nil, atI_0, atI_1, atI_2, atI_3, atI_4, ixN_30, ixN_31, ixN_32, szl_0, szl_1, szl_2, szl_3, szl_4, szl_5, szl_6, szl_7, szl_8, szl_9, szl_10, szl_11, szl_12, gd, dEq_i, dNe_i, dLt, dLe, dGt, dGe, dIx_l, dIx_t, Option.bind_some, if_pos, if_neg, if_true, if_false, Nat.zero_add, decide_true, decide_false, Int.toNat_zero, Int.toNat_one, dAdd_i, dSub_i, not_false_eq_true, ite_true, ite_false, Int.reduceLE, Int.reduceLT, Int.reduceNeg, Int.reduceAdd, Int.reduceSub, Int.reduceToNat, Nat.reduceAdd, Nat.reduceLT, Nat.reduceLeDiff, Int.reduceEq, Nat.reduceEqDiff, Int.reduceMul, ↓reduceIte, Int.cast_ofNat_Int]
    exact ⟨⟨n1, w, n2⟩, s3, rfl, ⟨g1, g2⟩, rfl, d3.mono (by omega)⟩
  · rw [List.length_map] at e1 d2
    simp -implicitDefEqProofs only [mSeq, mDo, mRet, mRetN, mSet, mOwn, mKill, mAug, gT, gTs, gTup, mAsg, mOwnM, mApp, mExt, isOl, appT, extT, setT, gIx, mOIx, mOLen, mFreeze, mRetO, mFor, wz_bnd, wz_ok, ret, bad, optM, mVar, mNil, mCons, asB, ofB, mNo, mSome, mSl, mIf, mAnd, mOr, mNot, mChain, mTup, mLst, mFz, mCall, mMeth, mNeg, mIsN, mMs, mAndV, mOrV, mBin, mIter, itemsOf, mRange1, mRange2, mEnum, mListOf, mIsi, wz_bor, wz_borT, wz_noEx, wz_bad, runD, mRepl, pickSem, own_ol, own_fr, own_un, lend_nil, lend_ol, lend_fr, lend_un, isT_str, isT_list, isT_tuple, isT_int, isT_bint, Bool.not_true, Bool.not_false, List.getElem?_cons_zero, List.getElem?_cons_succ, List.getElem?_nil, List.set_cons_zero, List.set_cons_succ, List.replicate_succ, List.replicate_zero, List.cons_append, List.nil_append, List.length_cons, List.length_nil, atI_0, atI_1, atI_2, atI_3, atI_4, ixN_30, ixN_31, ixN_32, szl_0, szl_1, szl_2, szl_3, szl_4, szl_5, szl_6, szl_7, szl_8, szl_9, szl_10, szl_11, szl_12, gd, dEq_i, dNe_i, dLt, dLe, dGt, dGe, dIx_l, dIx_t, Option.bind_some, if_pos, if_neg, if_true, if_false, Nat.zero_add, decide_true, decide_false, Int.toNat_zero, Int.toNat_one, dAdd_i, dSub_i, not_false_eq_true, ite_true, ite_false, Int.reduceLE, Int.reduceLT, Int.reduceNeg, Int.reduceAdd, Int.reduceSub, Int.reduceToNat, Nat.reduceAdd, Nat.reduceLT, Nat.reduceLeDiff, Int.reduceEq, Nat.reduceEqDiff, Int.reduceMul, ↓reduceIte, Int.cast_ofNat_Int]
    exact ⟨rs, s', rfl, rfl, by omega, hg, d2.mono (by omega)⟩
theorem pushes_ok (N : Nat) {s : SV} {K m : Nat} (h : Dr K s) (hm : 0 < m) (hm2 : m ≤ 100) (hK : K + 5000 < 2 ^ 60) : wz (z_w_pushes N [s, .fr (.int m)]) fun fl ls => ∃ (rs : List St) (s' : SV), fl = .rt (.list (rs.map pushD)) ∧ ls[0]? = some s' ∧ rs.length < m ∧ (∀ r ∈ rs, Nm r.n) ∧ Dr (K + 3000) s' := by
  simp -implicitDefEqProofs only [mSeq, mDo, mRet, mRetN, mSet, mOwn, mKill, mAug, gT, gTs, gTup, mAsg, mOwnM, mApp, mExt, isOl, appT, extT, setT, gIx, mOIx, mOLen, mFreeze, mRetO, mFor, wz_bnd, wz_ok, ret, bad, optM, mVar, mNil, mCons, asB, ofB, mNo, mSome, mSl, mIf, mAnd, mOr, mNot, mChain, mTup, mLst, mFz, mCall, mMeth, mNeg, mIsN, mMs, mAndV, mOrV, mBin, mIter, itemsOf, mRange1, mRange2, mEnum, mListOf, mIsi, wz_bor, wz_borT, wz_noEx, wz_bad, runD, mRepl, pickSem, own_ol, own_fr, own_un, lend_nil, lend_ol, lend_fr, lend_un, isT_str, isT_list, isT_tuple, isT_int, isT_bint, Bool.not_true, Bool.not_false, List.getElem?_cons_zero, List.getElem?_cons_succ, List.getElem?_nil, List.set_cons_zero, List.set_cons_succ, List.replicate_succ, List.replicate_zero, List.cons_append, List.nil_append, List.length_cons, List.length_nil, atI_0, atI_1, atI_2, atI_3, atI_4, ixN_30, ixN_31, ixN_32, szl_0, szl_1, szl_2, szl_3, szl_4, szl_5, szl_6, szl_7, szl_8, szl_9, szl_10, szl_11, szl_12, gd, dEq_i, dNe_i, dLt, dLe, dGt, dGe, dIx_l, dIx_t, Option.bind_some, if_pos, if_neg, if_true, if_false, Nat.zero_add, decide_true, decide_false, Int.toNat_zero, Int.toNat_one, dAdd_i, dSub_i, not_false_eq_true, ite_true, ite_false, Int.reduceLE, Int.reduceLT, Int.reduceNeg, Int.reduceAdd, Int.reduceSub, Int.reduceToNat, Nat.reduceAdd, Nat.reduceLT, Nat.reduceLeDiff, Int.reduceEq, Nat.reduceEqDiff, Int.reduceMul, ↓reduceIte, Int.cast_ofNat_Int, z_w_pushes, b_w_pushes, mComp]
  refine call_ways N h hm (by omega) (by omega) rfl rfl fun ws s1 hw d1 => ?_
  simp -implicitDefEqProofs only [mSeq, mDo, mRet, mRetN, mSet, mOwn, mKill, mAug, gT, gTs, gTup, mAsg, mOwnM, mApp, mExt, isOl, appT, extT, setT, gIx, mOIx, mOLen, mFreeze, mRetO, mFor, wz_bnd, wz_ok, ret, bad, optM, mVar, mNil, mCons, asB, ofB, mNo, mSome, mSl, mIf, mAnd, mOr, mNot, mChain, mTup, mLst, mFz, mCall, mMeth, mNeg, mIsN, mMs, mAndV, mOrV, mBin, mIter, itemsOf, mRange1, mRange2, mEnum, mListOf, mIsi, wz_bor, wz_borT, wz_noEx, wz_bad, runD, mRepl, pickSem, own_ol, own_fr, own_un, lend_nil, lend_ol, lend_fr, lend_un, isT_str, isT_list, isT_tuple, isT_int, isT_bint, Bool.not_true, Bool.not_false, List.getElem?_cons_zero, List.getElem?_cons_succ, List.getElem?_nil, List.set_cons_zero, List.set_cons_succ, List.replicate_succ, List.replicate_zero, List.cons_append, List.nil_append, List.length_cons, List.length_nil, atI_0, atI_1, atI_2, atI_3, atI_4, ixN_30, ixN_31, ixN_32, szl_0, szl_1, szl_2, szl_3, szl_4, szl_5, szl_6, szl_7, szl_8, szl_9, szl_10, szl_11, szl_12, gd, dEq_i, dNe_i, dLt, dLe, dGt, dGe, dIx_l, dIx_t, Option.bind_some, if_pos, if_neg, if_true, if_false, Nat.zero_add, decide_true, decide_false, Int.toNat_zero, Int.toNat_one, dAdd_i, dSub_i, not_false_eq_true, ite_true, ite_false, Int.reduceLE, Int.reduceLT, Int.reduceNeg, Int.reduceAdd, Int.reduceSub, Int.reduceToNat, Nat.reduceAdd, Nat.reduceLT, Nat.reduceLeDiff, Int.reduceEq, Nat.reduceEqDiff, Int.reduceMul, ↓reduceIte, Int.cast_ofNat_Int]
  refine comp_dr pushD (fun r => Nm r.n) (c := 18) (B := K + 3000) (fun _ => rfl) (by rw [List.length_map, sizeLine_v]; omega) (fun t ht k s hk hB => ?_) d1 (by rw [List.length_map]; omega) fun rs s' e1 hg d2 => ?_
  · obtain ⟨w, hw, rfl⟩ := List.mem_map.mp ht
    simp -implicitDefEqProofs only [mSeq, mDo, mRet, mRetN, mSet, mOwn, mKill, mAug, gT, gTs, gTup, mAsg, mOwnM, mApp, mExt, isOl, appT, extT, setT, gIx, mOIx, mOLen, mFreeze, mRetO, mFor, wz_bnd, wz_ok, ret, bad, optM, mVar, mNil, mCons, asB, ofB, mNo, mSome, mSl, mIf, mAnd, mOr, mNot, mChain, mTup, mLst, mFz, mCall, mMeth, mNeg, mIsN, mMs, mAndV, mOrV, mBin, mIter, itemsOf, mRange1, mRange2, mEnum, mListOf, mIsi, wz_bor, wz_borT, wz_noEx, wz_bad, runD, mRepl, pickSem, own_ol, own_fr, own_un, lend_nil, lend_ol, lend_fr, lend_un, isT_str, isT_list, isT_tuple, isT_int, isT_bint, Bool.not_true, Bool.not_false, List.getElem?_cons_zero, List.getElem?_cons_succ, List.getElem?_nil, List.set_cons_zero, List.set_cons_succ, List.replicate_succ, List.replicate_zero, List.cons_append, List.nil_append, List.length_cons, List.length_nil, atI_0, atI_1, atI_2, atI_3, atI_4, ixN_30, ixN_31, ixN_32, szl_0, szl_1, szl_2, szl_3, szl_4, szl_5, szl_6, szl_7, szl_8, szl_9, szl_10, szl_11, szl_12, gd, dEq_i, dNe_i, dLt, dLe, dGt, dGe, dIx_l, dIx_t, Option.bind_some, if_pos, if_neg, if_true, if_false, Nat.zero_add, decide_true, decide_false, Int.toNat_zero, Int.toNat_one, dAdd_i, dSub_i, not_false_eq_true, ite_true, ite_false, Int.reduceLE, Int.reduceLT, Int.reduceNeg, Int.reduceAdd, Int.reduceSub, Int.reduceToNat, Nat.reduceAdd, Nat.reduceLT, Nat.reduceLeDiff, Int.reduceEq, Nat.reduceEqDiff, Int.reduceMul, ↓reduceIte, Int.cast_ofNat_Int]
    refine call_number N hk (by omega) rfl fun n1 s2 g1 d2 => ?_
    simp -implicitDefEqProofs only [mSeq, mDo, mRet, mRetN, mSet, mOwn, mKill, mAug, gT, gTs, gTup, mAsg, mOwnM, mApp, mExt, isOl, appT, extT, setT, gIx, mOIx, mOLen, mFreeze, mRetO, mFor, wz_bnd, wz_ok, ret, bad, optM, mVar, mNil, mCons, asB, ofB, mNo, mSome, mSl, mIf, mAnd, mOr, mNot, mChain, mTup, mLst, mFz, mCall, mMeth, mNeg, mIsN, mMs, mAndV, mOrV, mBin, mIter, itemsOf, mRange1, mRange2, mEnum, mListOf, mIsi, wz_bor, wz_borT, wz_noEx, wz_bad, runD, mRepl, pickSem, own_ol, own_fr, own_un, lend_nil, lend_ol, lend_fr, lend_un, isT_str, isT_list, isT_tuple, isT_int, isT_bint, Bool.not_true, Bool.not_false, List.getElem?_cons_zero, List.getElem?_cons_succ, List.getElem?_nil, List.set_cons_zero, List.set_cons_succ, List.replicate_succ, List.replicate_zero, List.cons_append, List.nil_append, List.length_cons, List.length_nil, atI_0, atI_1, atI_2, atI_3, atI_4, ixN_30, ixN_31, ixN_32, szl_0, szl_1, szl_2, szl_3, szl_4, szl_5, szl_6, szl_7, szl_8, szl_9, szl_10, szl_11, szl_12, gd, dEq_i, dNe_i, dLt, dLe, dGt, dGe, dIx_l, dIx_t, Option.bind_some, if_pos, if_neg, if_true, if_false, Nat.zero_add, decide_true, decide_false, Int.toNat_zero, Int.toNat_one, dAdd_i, dSub_i, not_false_eq_true, ite_true, ite_false, Int.reduceLE, Int.reduceLT, Int.reduceNeg, Int.reduceAdd, Int.reduceSub, Int.reduceToNat, Nat.reduceAdd, Nat.reduceLT, Nat.reduceLeDiff, Int.reduceEq, Nat.reduceEqDiff, Int.reduceMul, ↓reduceIte, Int.cast_ofNat_Int]
    exact ⟨⟨n1, w, 0⟩, s2, rfl, g1, rfl, d2.mono (by omega)⟩
  · rw [List.length_map] at e1 d2
    simp -implicitDefEqProofs only [mSeq, mDo, mRet, mRetN, mSet, mOwn, mKill, mAug, gT, gTs, gTup, mAsg, mOwnM, mApp, mExt, isOl, appT, extT, setT, gIx, mOIx, mOLen, mFreeze, mRetO, mFor, wz_bnd, wz_ok, ret, bad, optM, mVar, mNil, mCons, asB, ofB, mNo, mSome, mSl, mIf, mAnd, mOr, mNot, mChain, mTup, mLst, mFz, mCall, mMeth, mNeg, mIsN, mMs, mAndV, mOrV, mBin, mIter, itemsOf, mRange1, mRange2, mEnum, mListOf, mIsi, wz_bor, wz_borT, wz_noEx, wz_bad, runD, mRepl, pickSem, own_ol, own_fr, own_un, lend_nil, lend_ol, lend_fr, lend_un, isT_str, isT_list, isT_tuple, isT_int, isT_bint, Bool.not_true, Bool.not_false, List.getElem?_cons_zero, List.getElem?_cons_succ, List.getElem?_nil, List.set_cons_zero, List.set_cons_succ, List.replicate_succ, List.replicate_zero, List.cons_append, List.nil_append, List.length_cons, List.length_nil, atI_0, atI_1, atI_2, atI_3, atI_4, ixN_30, ixN_31, ixN_32, szl_0, szl_1, szl_2, szl_3, szl_4, szl_5, szl_6, szl_7, szl_8, szl_9, szl_10, szl_11, szl_12, gd, dEq_i, dNe_i, dLt, dLe, dGt, dGe, dIx_l, dIx_t, Option.bind_some, if_pos, if_neg, if_true, if_false, Nat.zero_add, decide_true, decide_false, Int.toNat_zero, Int.toNat_one, dAdd_i, dSub_i, not_false_eq_true, ite_true, ite_false, Int.reduceLE, Int.reduceLT, Int.reduceNeg, Int.reduceAdd, Int.reduceSub, Int.reduceToNat, Nat.reduceAdd, Nat.reduceLT, Nat.reduceLeDiff, Int.reduceEq, Nat.reduceEqDiff, Int.reduceMul, ↓reduceIte, Int.cast_ofNat_Int]
    exact ⟨rs, s', rfl, rfl, by omega, hg, d2.mono (by omega)⟩
theorem tri_mod (r : Int) (h : 0 ≤ r) : Tri (r % 3 - 1) := by unfold Tri; omega
theorem seen_ok (N : Nat) {s : SV} {K m : Nat} (h : Dr K s) (hm : 0 < m) (hm2 : m ≤ 100) (hK : K + 5000 < 2 ^ 60) : wz (z_w_seen N [s, .fr (.int m)]) fun fl ls => ∃ (rs : List St) (s' : SV), fl = .rt (.list (rs.map rowD)) ∧ ls[0]? = some s' ∧ rs.length < m ∧ (∀ r ∈ rs, Nm r.n ∧ Tri r.m) ∧ Dr (K + 3000) s' := by
  simp -implicitDefEqProofs only [mSeq, mDo, mRet, mRetN, mSet, mOwn, mKill, mAug, gT, gTs, gTup, mAsg, mOwnM, mApp, mExt, isOl, appT, extT, setT, gIx, mOIx, mOLen, mFreeze, mRetO, mFor, wz_bnd, wz_ok, ret, bad, optM, mVar, mNil, mCons, asB, ofB, mNo, mSome, mSl, mIf, mAnd, mOr, mNot, mChain, mTup, mLst, mFz, mCall, mMeth, mNeg, mIsN, mMs, mAndV, mOrV, mBin, mIter, itemsOf, mRange1, mRange2, mEnum, mListOf, mIsi, wz_bor, wz_borT, wz_noEx, wz_bad, runD, mRepl, pickSem, own_ol, own_fr, own_un, lend_nil, lend_ol, lend_fr, lend_un, isT_str, isT_list, isT_tuple, isT_int, isT_bint, Bool.not_true, Bool.not_false, List.getElem?_cons_zero, List.getElem?_cons_succ, List.getElem?_nil, List.set_cons_zero, List.set_cons_succ, List.replicate_succ, List.replicate_zero, List.cons_append, List.nil_append, List.length_cons, List.length_nil, atI_0, atI_1, atI_2, atI_3, atI_4, ixN_30, ixN_31, ixN_32, szl_0, szl_1, szl_2, szl_3, szl_4, szl_5, szl_6, szl_7, szl_8, szl_9, szl_10, szl_11, szl_12, gd, dEq_i, dNe_i, dLt, dLe, dGt, dGe, dIx_l, dIx_t, Option.bind_some, if_pos, if_neg, if_true, if_false, Nat.zero_add, decide_true, decide_false, Int.toNat_zero, Int.toNat_one, dAdd_i, dSub_i, not_false_eq_true, ite_true, ite_false, Int.reduceLE, Int.reduceLT, Int.reduceNeg, Int.reduceAdd, Int.reduceSub, Int.reduceToNat, Nat.reduceAdd, Nat.reduceLT, Nat.reduceLeDiff, Int.reduceEq, Nat.reduceEqDiff, Int.reduceMul, ↓reduceIte, Int.cast_ofNat_Int, z_w_seen, b_w_seen, mComp]
  refine call_ways N h hm (by omega) (by omega) rfl rfl fun ws s1 hw d1 => ?_
  simp -implicitDefEqProofs only [mSeq, mDo, mRet, mRetN, mSet, mOwn, mKill, mAug, gT, gTs, gTup, mAsg, mOwnM, mApp, mExt, isOl, appT, extT, setT, gIx, mOIx, mOLen, mFreeze, mRetO, mFor, wz_bnd, wz_ok, ret, bad, optM, mVar, mNil, mCons, asB, ofB, mNo, mSome, mSl, mIf, mAnd, mOr, mNot, mChain, mTup, mLst, mFz, mCall, mMeth, mNeg, mIsN, mMs, mAndV, mOrV, mBin, mIter, itemsOf, mRange1, mRange2, mEnum, mListOf, mIsi, wz_bor, wz_borT, wz_noEx, wz_bad, runD, mRepl, pickSem, own_ol, own_fr, own_un, lend_nil, lend_ol, lend_fr, lend_un, isT_str, isT_list, isT_tuple, isT_int, isT_bint, Bool.not_true, Bool.not_false, List.getElem?_cons_zero, List.getElem?_cons_succ, List.getElem?_nil, List.set_cons_zero, List.set_cons_succ, List.replicate_succ, List.replicate_zero, List.cons_append, List.nil_append, List.length_cons, List.length_nil, atI_0, atI_1, atI_2, atI_3, atI_4, ixN_30, ixN_31, ixN_32, szl_0, szl_1, szl_2, szl_3, szl_4, szl_5, szl_6, szl_7, szl_8, szl_9, szl_10, szl_11, szl_12, gd, dEq_i, dNe_i, dLt, dLe, dGt, dGe, dIx_l, dIx_t, Option.bind_some, if_pos, if_neg, if_true, if_false, Nat.zero_add, decide_true, decide_false, Int.toNat_zero, Int.toNat_one, dAdd_i, dSub_i, not_false_eq_true, ite_true, ite_false, Int.reduceLE, Int.reduceLT, Int.reduceNeg, Int.reduceAdd, Int.reduceSub, Int.reduceToNat, Nat.reduceAdd, Nat.reduceLT, Nat.reduceLeDiff, Int.reduceEq, Nat.reduceEqDiff, Int.reduceMul, ↓reduceIte, Int.cast_ofNat_Int]
  refine comp_dr rowD (fun r => Nm r.n ∧ Tri r.m) (c := 18) (B := K + 3000) (fun _ => rfl) (by rw [List.length_map, sizeLine_v]; omega) (fun t ht k s hk hB => ?_) d1 (by rw [List.length_map]; omega) fun rs s' e1 hg d2 => ?_
  · obtain ⟨w, hw, rfl⟩ := List.mem_map.mp ht
    simp -implicitDefEqProofs only [mSeq, mDo, mRet, mRetN, mSet, mOwn, mKill, mAug, gT, gTs, gTup, mAsg, mOwnM, mApp, mExt, isOl, appT, extT, setT, gIx, mOIx, mOLen, mFreeze, mRetO, mFor, wz_bnd, wz_ok, ret, bad, optM, mVar, mNil, mCons, asB, ofB, mNo, mSome, mSl, mIf, mAnd, mOr, mNot, mChain, mTup, mLst, mFz, mCall, mMeth, mNeg, mIsN, mMs, mAndV, mOrV, mBin, mIter, itemsOf, mRange1, mRange2, mEnum, mListOf, mIsi, wz_bor, wz_borT, wz_noEx, wz_bad, runD, mRepl, pickSem, own_ol, own_fr, own_un, lend_nil, lend_ol, lend_fr, lend_un, isT_str, isT_list, isT_tuple, isT_int, isT_bint, Bool.not_true, Bool.not_false, List.getElem?_cons_zero, List.getElem?_cons_succ, List.getElem?_nil, List.set_cons_zero, List.set_cons_succ, List.replicate_succ, List.replicate_zero, List.cons_append, List.nil_append, List.length_cons, List.length_nil, atI_0, atI_1, atI_2, atI_3, atI_4, ixN_30, ixN_31, ixN_32, szl_0, szl_1, szl_2, szl_3, szl_4, szl_5, szl_6, szl_7, szl_8, szl_9, szl_10, szl_11, szl_12, gd, dEq_i, dNe_i, dLt, dLe, dGt, dGe, dIx_l, dIx_t, Option.bind_some, if_pos, if_neg, if_true, if_false, Nat.zero_add, decide_true, decide_false, Int.toNat_zero, Int.toNat_one, dAdd_i, dSub_i, not_false_eq_true, ite_true, ite_false, Int.reduceLE, Int.reduceLT, Int.reduceNeg, Int.reduceAdd, Int.reduceSub, Int.reduceToNat, Nat.reduceAdd, Nat.reduceLT, Nat.reduceLeDiff, Int.reduceEq, Nat.reduceEqDiff, Int.reduceMul, ↓reduceIte, Int.cast_ofNat_Int]
    refine call_number N hk (by omega) rfl fun n1 s2 g1 d2 => ?_
    simp -implicitDefEqProofs only [mSeq, mDo, mRet, mRetN, mSet, mOwn, mKill, mAug, gT, gTs, gTup, mAsg, mOwnM, mApp, mExt, isOl, appT, extT, setT, gIx, mOIx, mOLen, mFreeze, mRetO, mFor, wz_bnd, wz_ok, ret, bad, optM, mVar, mNil, mCons, asB, ofB, mNo, mSome, mSl, mIf, mAnd, mOr, mNot, mChain, mTup, mLst, mFz, mCall, mMeth, mNeg, mIsN, mMs, mAndV, mOrV, mBin, mIter, itemsOf, mRange1, mRange2, mEnum, mListOf, mIsi, wz_bor, wz_borT, wz_noEx, wz_bad, runD, mRepl, pickSem, own_ol, own_fr, own_un, lend_nil, lend_ol, lend_fr, lend_un, isT_str, isT_list, isT_tuple, isT_int, isT_bint, Bool.not_true, Bool.not_false, List.getElem?_cons_zero, List.getElem?_cons_succ, List.getElem?_nil, List.set_cons_zero, List.set_cons_succ, List.replicate_succ, List.replicate_zero, List.cons_append, List.nil_append, List.length_cons, List.length_nil, atI_0, atI_1, atI_2, atI_3, atI_4, ixN_30, ixN_31, ixN_32, szl_0, szl_1, szl_2, szl_3, szl_4, szl_5, szl_6, szl_7, szl_8, szl_9, szl_10, szl_11, szl_12, gd, dEq_i, dNe_i, dLt, dLe, dGt, dGe, dIx_l, dIx_t, Option.bind_some, if_pos, if_neg, if_true, if_false, Nat.zero_add, decide_true, decide_false, Int.toNat_zero, Int.toNat_one, dAdd_i, dSub_i, not_false_eq_true, ite_true, ite_false, Int.reduceLE, Int.reduceLT, Int.reduceNeg, Int.reduceAdd, Int.reduceSub, Int.reduceToNat, Nat.reduceAdd, Nat.reduceLT, Nat.reduceLeDiff, Int.reduceEq, Nat.reduceEqDiff, Int.reduceMul, ↓reduceIte, Int.cast_ofNat_Int]
    refine call_next N d2 (by omega) rfl fun n2 s3 g2 d3 => ?_
    simp -implicitDefEqProofs only [mSeq, mDo, mRet, mRetN, mSet, mOwn, mKill, mAug, gT, gTs, gTup, mAsg, mOwnM, mApp, mExt, isOl, appT, extT, setT, gIx, mOIx, mOLen, mFreeze, mRetO, mFor, wz_bnd, wz_ok, ret, bad, optM, mVar, mNil, mCons, asB, ofB, mNo, mSome, mSl, mIf, mAnd, mOr, mNot, mChain, mTup, mLst, mFz, mCall, mMeth, mNeg, mIsN, mMs, mAndV, mOrV, mBin, mIter, itemsOf, mRange1, mRange2, mEnum, mListOf, mIsi, wz_bor, wz_borT, wz_noEx, wz_bad, runD, mRepl, pickSem, own_ol, own_fr, own_un, lend_nil, lend_ol, lend_fr, lend_un, isT_str, isT_list, isT_tuple, isT_int, isT_bint, Bool.not_true, Bool.not_false, List.getElem?_cons_zero, List.getElem?_cons_succ, List.getElem?_nil, List.set_cons_zero, List.set_cons_succ, List.replicate_succ, List.replicate_zero, List.cons_append, List.nil_append, List.length_cons, List.length_nil, atI_0, atI_1, atI_2, atI_3, atI_4, ixN_30, ixN_31, ixN_32, szl_0, szl_1, szl_2, szl_3, szl_4, szl_5, szl_6, szl_7, szl_8, szl_9, szl_10, szl_11, szl_12, gd, dEq_i, dNe_i, dLt, dLe, dGt, dGe, dIx_l, dIx_t, Option.bind_some, if_pos, if_neg, if_true, if_false, Nat.zero_add, decide_true, decide_false, Int.toNat_zero, Int.toNat_one, dAdd_i, dSub_i, not_false_eq_true, ite_true, ite_false, Int.reduceLE, Int.reduceLT, Int.reduceNeg, Int.reduceAdd, Int.reduceSub, Int.reduceToNat, Nat.reduceAdd, Nat.reduceLT, Nat.reduceLeDiff, Int.reduceEq, Nat.reduceEqDiff, Int.reduceMul, ↓reduceIte, Int.cast_ofNat_Int, m3]
    exact ⟨⟨n1, w, n2 % 3 - 1⟩, s3, rfl, ⟨g1, tri_mod n2 g2⟩, rfl, d3.mono (by omega)⟩
  · rw [List.length_map] at e1 d2
    simp -implicitDefEqProofs only [mSeq, mDo, mRet, mRetN, mSet, mOwn, mKill, mAug, gT, gTs, gTup, mAsg, mOwnM, mApp, mExt, isOl, appT, extT, setT, gIx, mOIx, mOLen, mFreeze, mRetO, mFor, wz_bnd, wz_ok, ret, bad, optM, mVar, mNil, mCons, asB, ofB, mNo, mSome, mSl, mIf, mAnd, mOr, mNot, mChain, mTup, mLst, mFz, mCall, mMeth, mNeg, mIsN, mMs, mAndV, mOrV, mBin, mIter, itemsOf, mRange1, mRange2, mEnum, mListOf, mIsi, wz_bor, wz_borT, wz_noEx, wz_bad, runD, mRepl, pickSem, own_ol, own_fr, own_un, lend_nil, lend_ol, lend_fr, lend_un, isT_str, isT_list, isT_tuple, isT_int, isT_bint, Bool.not_true, Bool.not_false, List.getElem?_cons_zero, List.getElem?_cons_succ, List.getElem?_nil, List.set_cons_zero, List.set_cons_succ, List.replicate_succ, List.replicate_zero, List.cons_append, List.nil_append, List.length_cons, List.length_nil, atI_0, atI_1, atI_2, atI_3, atI_4, ixN_30, ixN_31, ixN_32, szl_0, szl_1, szl_2, szl_3, szl_4, szl_5, szl_6, szl_7, szl_8, szl_9, szl_10, szl_11, szl_12, gd, dEq_i, dNe_i, dLt, dLe, dGt, dGe, dIx_l, dIx_t, Option.bind_some, if_pos, if_neg, if_true, if_false, Nat.zero_add, decide_true, decide_false, Int.toNat_zero, Int.toNat_one, dAdd_i, dSub_i, not_false_eq_true, ite_true, ite_false, Int.reduceLE, Int.reduceLT, Int.reduceNeg, Int.reduceAdd, Int.reduceSub, Int.reduceToNat, Nat.reduceAdd, Nat.reduceLT, Nat.reduceLeDiff, Int.reduceEq, Nat.reduceEqDiff, Int.reduceMul, ↓reduceIte, Int.cast_ofNat_Int]
    exact ⟨rs, s', rfl, rfl, by omega, hg, d2.mono (by omega)⟩
theorem shows_ok (N : Nat) {s : SV} {K m : Nat} (h : Dr K s) (hm : 0 < m) (hm2 : m ≤ 100) (hK : K + 5000 < 2 ^ 60) : wz (z_w_shows N [s, .fr (.int m)]) fun fl ls => ∃ (rs : List St) (s' : SV), fl = .rt (.list (rs.map showD)) ∧ ls[0]? = some s' ∧ rs.length < m ∧ (∀ r ∈ rs, Tri r.m) ∧ Dr (K + 3000) s' := by
  simp -implicitDefEqProofs only [mSeq, mDo, mRet, mRetN, mSet, mOwn, mKill, mAug, gT, gTs, gTup, mAsg, mOwnM, mApp, mExt, isOl, appT, extT, setT, gIx, mOIx, mOLen, mFreeze, mRetO, mFor, wz_bnd, wz_ok, ret, bad, optM, mVar, mNil, mCons, asB, ofB, mNo, mSome, mSl, mIf, mAnd, mOr, mNot, mChain, mTup, mLst, mFz, mCall, mMeth, mNeg, mIsN, mMs, mAndV, mOrV, mBin, mIter, itemsOf, mRange1, mRange2, mEnum, mListOf, mIsi, wz_bor, wz_borT, wz_noEx, wz_bad, runD, mRepl, pickSem, own_ol, own_fr, own_un, lend_nil, lend_ol, lend_fr, lend_un, isT_str, isT_list, isT_tuple, isT_int, isT_bint, Bool.not_true, Bool.not_false, List.getElem?_cons_zero, List.getElem?_cons_succ, List.getElem?_nil, List.set_cons_zero, List.set_cons_succ, List.replicate_succ, List.replicate_zero, List.cons_append, List.nil_append, List.length_cons, List.length_nil, atI_0, atI_1, atI_2, atI_3, atI_4, ixN_30, ixN_31, ixN_32, szl_0, szl_1, szl_2, szl_3, szl_4, szl_5, szl_6, szl_7, szl_8, szl_9, szl_10, szl_11, szl_12, gd, dEq_i, dNe_i, dLt, dLe, dGt, dGe, dIx_l, dIx_t, Option.bind_some, if_pos, if_neg, if_true, if_false, Nat.zero_add, decide_true, decide_false, Int.toNat_zero, Int.toNat_one, dAdd_i, dSub_i, not_false_eq_true, ite_true, ite_false, Int.reduceLE, Int.reduceLT, Int.reduceNeg, Int.reduceAdd, Int.reduceSub, Int.reduceToNat, Nat.reduceAdd, Nat.reduceLT, Nat.reduceLeDiff, Int.reduceEq, Nat.reduceEqDiff, Int.reduceMul, ↓reduceIte, Int.cast_ofNat_Int, z_w_shows, b_w_shows, mComp]
  refine call_ways N h hm (by omega) (by omega) rfl rfl fun ws s1 hw d1 => ?_
  simp -implicitDefEqProofs only [mSeq, mDo, mRet, mRetN, mSet, mOwn, mKill, mAug, gT, gTs, gTup, mAsg, mOwnM, mApp, mExt, isOl, appT, extT, setT, gIx, mOIx, mOLen, mFreeze, mRetO, mFor, wz_bnd, wz_ok, ret, bad, optM, mVar, mNil, mCons, asB, ofB, mNo, mSome, mSl, mIf, mAnd, mOr, mNot, mChain, mTup, mLst, mFz, mCall, mMeth, mNeg, mIsN, mMs, mAndV, mOrV, mBin, mIter, itemsOf, mRange1, mRange2, mEnum, mListOf, mIsi, wz_bor, wz_borT, wz_noEx, wz_bad, runD, mRepl, pickSem, own_ol, own_fr, own_un, lend_nil, lend_ol, lend_fr, lend_un, isT_str, isT_list, isT_tuple, isT_int, isT_bint, Bool.not_true, Bool.not_false, List.getElem?_cons_zero, List.getElem?_cons_succ, List.getElem?_nil, List.set_cons_zero, List.set_cons_succ, List.replicate_succ, List.replicate_zero, List.cons_append, List.nil_append, List.length_cons, List.length_nil, atI_0, atI_1, atI_2, atI_3, atI_4, ixN_30, ixN_31, ixN_32, szl_0, szl_1, szl_2, szl_3, szl_4, szl_5, szl_6, szl_7, szl_8, szl_9, szl_10, szl_11, szl_12, gd, dEq_i, dNe_i, dLt, dLe, dGt, dGe, dIx_l, dIx_t, Option.bind_some, if_pos, if_neg, if_true, if_false, Nat.zero_add, decide_true, decide_false, Int.toNat_zero, Int.toNat_one, dAdd_i, dSub_i, not_false_eq_true, ite_true, ite_false, Int.reduceLE, Int.reduceLT, Int.reduceNeg, Int.reduceAdd, Int.reduceSub, Int.reduceToNat, Nat.reduceAdd, Nat.reduceLT, Nat.reduceLeDiff, Int.reduceEq, Nat.reduceEqDiff, Int.reduceMul, ↓reduceIte, Int.cast_ofNat_Int]
  refine comp_dr showD (fun r => Tri r.m) (c := 18) (B := K + 3000) (fun _ => rfl) (by rw [List.length_map, sizeLine_v]; omega) (fun t ht k s hk hB => ?_) d1 (by rw [List.length_map]; omega) fun rs s' e1 hg d2 => ?_
  · obtain ⟨w, hw, rfl⟩ := List.mem_map.mp ht
    simp -implicitDefEqProofs only [mSeq, mDo, mRet, mRetN, mSet, mOwn, mKill, mAug, gT, gTs, gTup, mAsg, mOwnM, mApp, mExt, isOl, appT, extT, setT, gIx, mOIx, mOLen, mFreeze, mRetO, mFor, wz_bnd, wz_ok, ret, bad, optM, mVar, mNil, mCons, asB, ofB, mNo, mSome, mSl, mIf, mAnd, mOr, mNot, mChain, mTup, mLst, mFz, mCall, mMeth, mNeg, mIsN, mMs, mAndV, mOrV, mBin, mIter, itemsOf, mRange1, mRange2, mEnum, mListOf, mIsi, wz_bor, wz_borT, wz_noEx, wz_bad, runD, mRepl, pickSem, own_ol, own_fr, own_un, lend_nil, lend_ol, lend_fr, lend_un, isT_str, isT_list, isT_tuple, isT_int, isT_bint, Bool.not_true, Bool.not_false, List.getElem?_cons_zero, List.getElem?_cons_succ, List.getElem?_nil, List.set_cons_zero, List.set_cons_succ, List.replicate_succ, List.replicate_zero, List.cons_append, List.nil_append, List.length_cons, List.length_nil, atI_0, atI_1, atI_2, atI_3, atI_4, ixN_30, ixN_31, ixN_32, szl_0, szl_1, szl_2, szl_3, szl_4, szl_5, szl_6, szl_7, szl_8, szl_9, szl_10, szl_11, szl_12, gd, dEq_i, dNe_i, dLt, dLe, dGt, dGe, dIx_l, dIx_t, Option.bind_some, if_pos, if_neg, if_true, if_false, Nat.zero_add, decide_true, decide_false, Int.toNat_zero, Int.toNat_one, dAdd_i, dSub_i, not_false_eq_true, ite_true, ite_false, Int.reduceLE, Int.reduceLT, Int.reduceNeg, Int.reduceAdd, Int.reduceSub, Int.reduceToNat, Nat.reduceAdd, Nat.reduceLT, Nat.reduceLeDiff, Int.reduceEq, Nat.reduceEqDiff, Int.reduceMul, ↓reduceIte, Int.cast_ofNat_Int]
    refine call_next N hk (by omega) rfl fun n2 s3 g2 d3 => ?_
    simp -implicitDefEqProofs only [mSeq, mDo, mRet, mRetN, mSet, mOwn, mKill, mAug, gT, gTs, gTup, mAsg, mOwnM, mApp, mExt, isOl, appT, extT, setT, gIx, mOIx, mOLen, mFreeze, mRetO, mFor, wz_bnd, wz_ok, ret, bad, optM, mVar, mNil, mCons, asB, ofB, mNo, mSome, mSl, mIf, mAnd, mOr, mNot, mChain, mTup, mLst, mFz, mCall, mMeth, mNeg, mIsN, mMs, mAndV, mOrV, mBin, mIter, itemsOf, mRange1, mRange2, mEnum, mListOf, mIsi, wz_bor, wz_borT, wz_noEx, wz_bad, runD, mRepl, pickSem, own_ol, own_fr, own_un, lend_nil, lend_ol, lend_fr, lend_un, isT_str, isT_list, isT_tuple, isT_int, isT_bint, Bool.not_true, Bool.not_false, List.getElem?_cons_zero, List.getElem?_cons_succ, List.getElem?_nil, List.set_cons_zero, List.set_cons_succ, List.replicate_succ, List.replicate_zero, List.cons_append, List.nil_append, List.length_cons, List.length_nil, atI_0, atI_1, atI_2, atI_3, atI_4, ixN_30, ixN_31, ixN_32, szl_0, szl_1, szl_2, szl_3, szl_4, szl_5, szl_6, szl_7, szl_8, szl_9, szl_10, szl_11, szl_12, gd, dEq_i, dNe_i, dLt, dLe, dGt, dGe, dIx_l, dIx_t, Option.bind_some, if_pos, if_neg, if_true, if_false, Nat.zero_add, decide_true, decide_false, Int.toNat_zero, Int.toNat_one, dAdd_i, dSub_i, not_false_eq_true, ite_true, ite_false, Int.reduceLE, Int.reduceLT, Int.reduceNeg, Int.reduceAdd, Int.reduceSub, Int.reduceToNat, Nat.reduceAdd, Nat.reduceLT, Nat.reduceLeDiff, Int.reduceEq, Nat.reduceEqDiff, Int.reduceMul, ↓reduceIte, Int.cast_ofNat_Int, m3]
    exact ⟨⟨0, w, n2 % 3 - 1⟩, s3, rfl, tri_mod n2 g2, rfl, d3.mono (by omega)⟩
  · rw [List.length_map] at e1 d2
    simp -implicitDefEqProofs only [mSeq, mDo, mRet, mRetN, mSet, mOwn, mKill, mAug, gT, gTs, gTup, mAsg, mOwnM, mApp, mExt, isOl, appT, extT, setT, gIx, mOIx, mOLen, mFreeze, mRetO, mFor, wz_bnd, wz_ok, ret, bad, optM, mVar, mNil, mCons, asB, ofB, mNo, mSome, mSl, mIf, mAnd, mOr, mNot, mChain, mTup, mLst, mFz, mCall, mMeth, mNeg, mIsN, mMs, mAndV, mOrV, mBin, mIter, itemsOf, mRange1, mRange2, mEnum, mListOf, mIsi, wz_bor, wz_borT, wz_noEx, wz_bad, runD, mRepl, pickSem, own_ol, own_fr, own_un, lend_nil, lend_ol, lend_fr, lend_un, isT_str, isT_list, isT_tuple, isT_int, isT_bint, Bool.not_true, Bool.not_false, List.getElem?_cons_zero, List.getElem?_cons_succ, List.getElem?_nil, List.set_cons_zero, List.set_cons_succ, List.replicate_succ, List.replicate_zero, List.cons_append, List.nil_append, List.length_cons, List.length_nil, atI_0, atI_1, atI_2, atI_3, atI_4, ixN_30, ixN_31, ixN_32, szl_0, szl_1, szl_2, szl_3, szl_4, szl_5, szl_6, szl_7, szl_8, szl_9, szl_10, szl_11, szl_12, gd, dEq_i, dNe_i, dLt, dLe, dGt, dGe, dIx_l, dIx_t, Option.bind_some, if_pos, if_neg, if_true, if_false, Nat.zero_add, decide_true, decide_false, Int.toNat_zero, Int.toNat_one, dAdd_i, dSub_i, not_false_eq_true, ite_true, ite_false, Int.reduceLE, Int.reduceLT, Int.reduceNeg, Int.reduceAdd, Int.reduceSub, Int.reduceToNat, Nat.reduceAdd, Nat.reduceLT, Nat.reduceLeDiff, Int.reduceEq, Nat.reduceEqDiff, Int.reduceMul, ↓reduceIte, Int.cast_ofNat_Int]
    exact ⟨rs, s', rfl, rfl, by omega, hg, d2.mono (by omega)⟩
theorem call_rows {sem : List SV → R Fl} {enc : St → D} {G : St → Prop} (hs : ∀ {s : SV} {K m : Nat}, Dr K s → 0 < m → m ≤ 100 → K + 5000 < 2 ^ 60 → wz (sem [s, .fr (.int m)]) fun fl ls => ∃ (rs : List St) (s' : SV), fl = .rt (.list (rs.map enc)) ∧ ls[0]? = some s' ∧ rs.length < m ∧ (∀ r ∈ rs, G r) ∧ Dr (K + 3000) s')
    {i K : Nat} {m : Nat} {f : M D} {ls : LS} {s : SV} {P : D → LS → Prop} (h : Dr K s) (hm : 0 < m) (hm2 : m ≤ 100) (hK : K + 5000 < 2 ^ 60) (hf : f ls = .ok (.int m) ls) (hi : ls[i]? = some s)
    (k : ∀ (rs : List St) (s' : SV), rs.length < m → (∀ r ∈ rs, G r) → Dr (K + 3000) s' → P (.list (rs.map enc)) (ls.set i s')) : wz (mCallD false [0] sem (aSlO i (aFr f aNil)) ls) P :=
  callD_1 hf hi h.own (wz_imp (hs h hm hm2 hK) fun fl l ⟨rs, s', e1, e2, e3, e4, e5⟩ => ⟨_, s', e1, e2, e5.own, k rs s' e3 e4 e5⟩)
theorem p18 : dPow (.int 10) (.int 18) = some (.int (10 ^ 18)) := by rfl
theorem p60 : dPow (.int 10) (.int 60) = some (.int (10 ^ 60)) := by rfl
theorem p3000 : dPow (.int (10 ^ 60)) (.int 50) = some (.int ((10 ^ 60) ^ 50)) := by rfl
theorem p9000 : dPow (.int ((10 ^ 60) ^ 50)) (.int 3) = some (.int (((10 ^ 60) ^ 50) ^ 3)) := by rfl
theorem draws_ok (N : Nat) (c : Int) : wz (z_w_draws N [.fr (.int c)]) fun fl _ => ∃ s, fl = .ro s ∧ Dr 0 s := by
  have q : dMod (.int c) (.int (((10 ^ 60) ^ 50) ^ 3)) = some (.int (c % (((10 ^ 60) ^ 50) ^ 3))) := dMod_i (Int.pow_pos (Int.pow_pos (Int.pow_pos (by decide))))
  simp -implicitDefEqProofs only [mSeq, mDo, mRet, mRetN, mSet, mOwn, mKill, mAug, gT, gTs, gTup, mAsg, mOwnM, mApp, mExt, isOl, appT, extT, setT, gIx, mOIx, mOLen, mFreeze, mRetO, mFor, wz_bnd, wz_ok, ret, bad, optM, mVar, mNil, mCons, asB, ofB, mNo, mSome, mSl, mIf, mAnd, mOr, mNot, mChain, mTup, mLst, mFz, mCall, mMeth, mNeg, mIsN, mMs, mAndV, mOrV, mBin, mIter, itemsOf, mRange1, mRange2, mEnum, mListOf, mIsi, wz_bor, wz_borT, wz_noEx, wz_bad, runD, mRepl, pickSem, own_ol, own_fr, own_un, lend_nil, lend_ol, lend_fr, lend_un, isT_str, isT_list, isT_tuple, isT_int, isT_bint, Bool.not_true, Bool.not_false, List.getElem?_cons_zero, List.getElem?_cons_succ, List.getElem?_nil, List.set_cons_zero, List.set_cons_succ, List.replicate_succ, List.replicate_zero, List.cons_append, List.nil_append, List.length_cons, List.length_nil, atI_0, atI_1, atI_2, atI_3, atI_4, ixN_30, ixN_31, ixN_32, szl_0, szl_1, szl_2, szl_3, szl_4, szl_5, szl_6, szl_7, szl_8, szl_9, szl_10, szl_11, szl_12, gd, dEq_i, dNe_i, dLt, dLe, dGt, dGe, dIx_l, dIx_t, Option.bind_some, if_pos, if_neg, if_true, if_false, Nat.zero_add, decide_true, decide_false, Int.toNat_zero, Int.toNat_one, dAdd_i, dSub_i, not_false_eq_true, ite_true, ite_false, Int.reduceLE, Int.reduceLT, Int.reduceNeg, Int.reduceAdd, Int.reduceSub, Int.reduceToNat, Nat.reduceAdd, Nat.reduceLT, Nat.reduceLeDiff, Int.reduceEq, Nat.reduceEqDiff, Int.reduceMul, ↓reduceIte, Int.cast_ofNat_Int, z_w_draws, b_w_draws, p18]
  by_cases h : c < 10 ^ 18
  · simp -implicitDefEqProofs only [mSeq, mDo, mRet, mRetN, mSet, mOwn, mKill, mAug, gT, gTs, gTup, mAsg, mOwnM, mApp, mExt, isOl, appT, extT, setT, gIx, mOIx, mOLen, mFreeze, mRetO, mFor, wz_bnd, wz_ok, ret, bad, optM, mVar, mNil, mCons, asB, ofB, mNo, mSome, mSl, mIf, mAnd, mOr, mNot, mChain, mTup, mLst, mFz, mCall, mMeth, mNeg, mIsN, mMs, mAndV, mOrV, mBin, mIter, itemsOf, mRange1, mRange2, mEnum, mListOf, mIsi, wz_bor, wz_borT, wz_noEx, wz_bad, runD, mRepl, pickSem, own_ol, own_fr, own_un, lend_nil, lend_ol, lend_fr, lend_un, isT_str, isT_list, isT_tuple, isT_int, isT_bint, Bool.not_true, Bool.not_false, List.getElem?_cons_zero, List.getElem?_cons_succ, List.getElem?_nil, List.set_cons_zero, List.set_cons_succ, List.replicate_succ, List.replicate_zero, List.cons_append, List.nil_append, List.length_cons, List.length_nil, atI_0, atI_1, atI_2, atI_3, atI_4, ixN_30, ixN_31, ixN_32, szl_0, szl_1, szl_2, szl_3, szl_4, szl_5, szl_6, szl_7, szl_8, szl_9, szl_10, szl_11, szl_12, gd, dEq_i, dNe_i, dLt, dLe, dGt, dGe, dIx_l, dIx_t, Option.bind_some, if_pos, if_neg, if_true, if_false, Nat.zero_add, decide_true, decide_false, Int.toNat_zero, Int.toNat_one, dAdd_i, dSub_i, not_false_eq_true, ite_true, ite_false, Int.reduceLE, Int.reduceLT, Int.reduceNeg, Int.reduceAdd, Int.reduceSub, Int.reduceToNat, Nat.reduceAdd, Nat.reduceLT, Nat.reduceLeDiff, Int.reduceEq, Nat.reduceEqDiff, Int.reduceMul, ↓reduceIte, Int.cast_ofNat_Int, h]
    exact ⟨_, rfl, c, 0, false, rfl, Nat.le_refl _⟩
  · simp -implicitDefEqProofs only [mSeq, mDo, mRet, mRetN, mSet, mOwn, mKill, mAug, gT, gTs, gTup, mAsg, mOwnM, mApp, mExt, isOl, appT, extT, setT, gIx, mOIx, mOLen, mFreeze, mRetO, mFor, wz_bnd, wz_ok, ret, bad, optM, mVar, mNil, mCons, asB, ofB, mNo, mSome, mSl, mIf, mAnd, mOr, mNot, mChain, mTup, mLst, mFz, mCall, mMeth, mNeg, mIsN, mMs, mAndV, mOrV, mBin, mIter, itemsOf, mRange1, mRange2, mEnum, mListOf, mIsi, wz_bor, wz_borT, wz_noEx, wz_bad, runD, mRepl, pickSem, own_ol, own_fr, own_un, lend_nil, lend_ol, lend_fr, lend_un, isT_str, isT_list, isT_tuple, isT_int, isT_bint, Bool.not_true, Bool.not_false, List.getElem?_cons_zero, List.getElem?_cons_succ, List.getElem?_nil, List.set_cons_zero, List.set_cons_succ, List.replicate_succ, List.replicate_zero, List.cons_append, List.nil_append, List.length_cons, List.length_nil, atI_0, atI_1, atI_2, atI_3, atI_4, ixN_30, ixN_31, ixN_32, szl_0, szl_1, szl_2, szl_3, szl_4, szl_5, szl_6, szl_7, szl_8, szl_9, szl_10, szl_11, szl_12, gd, dEq_i, dNe_i, dLt, dLe, dGt, dGe, dIx_l, dIx_t, Option.bind_some, if_pos, if_neg, if_true, if_false, Nat.zero_add, decide_true, decide_false, Int.toNat_zero, Int.toNat_one, dAdd_i, dSub_i, not_false_eq_true, ite_true, ite_false, Int.reduceLE, Int.reduceLT, Int.reduceNeg, Int.reduceAdd, Int.reduceSub, Int.reduceToNat, Nat.reduceAdd, Nat.reduceLT, Nat.reduceLeDiff, Int.reduceEq, Nat.reduceEqDiff, Int.reduceMul, ↓reduceIte, Int.cast_ofNat_Int, h, p60, p3000, p9000, q]
    exact ⟨_, rfl, _, 0, true, rfl, Nat.le_refl _⟩
/-! ### texts -/
def numS (n : Int) : Str := toString n
def sgS (w : Bool) : Str := if w then "+" else "-"
theorem nm_log {n : Int} (h : Nm n) : n.natAbs.log2 < 1920 := by
  obtain ⟨h0, h1⟩ := h
  by_cases e : n.natAbs = 0
  · rw [e]; decide
  · refine (Nat.log2_lt e).mpr ?_
    have : n.natAbs < 10 ^ 40 := by omega
    exact Nat.lt_of_lt_of_le this (Nat.le_of_lt (Nat.lt_of_lt_of_le (show 10 ^ 40 < 2 ^ 200 by decide) (Nat.pow_le_pow_right (by decide) (by decide))))
theorem tri_log {n : Int} (h : Tri n) : n.natAbs.log2 < 1920 := by rcases h with rfl | rfl | rfl <;> decide
theorem str_nm {n : Int} (h : Nm n) : dStr [.int n] = some (.str (numS n)) := gd_t _ (decide_eq_true (nm_log h))
theorem str_tri {n : Int} (h : Tri n) : dStr [.int n] = some (.str (numS n)) := gd_t _ (decide_eq_true (tri_log h))
theorem numL_nm {n : Int} (h : 0 ≤ n) : TL.tl (numS n) = TL.numL n.toNat := by
  have := TL.tl_num n.toNat
  rw [Int.toNat_of_nonneg h] at this
  exact this
theorem len_nm {n : Int} (h : Nm n) : (numS n).length ≤ 40 := by
  rw [TL.len_tl, numL_nm h.1]
  refine TL.numL_len (by decide) ?_
  have := h.2
  have h0 := h.1
  have : ((10 : Nat) ^ 40 : Nat) = 10000000000000000000000000000000000000000 := by decide
  have : ((10 : Int) ^ 40) = 10000000000000000000000000000000000000000 := by decide
  omega
theorem len_sg (w : Bool) : (sgS w).length = 1 := by cases w <;> rfl
theorem len_tri {n : Int} (h : Tri n) : (numS n).length ≤ 2 := by rcases h with rfl | rfl | rfl <;> decide
theorem len_app (x y : Str) : (x ++ y).length = x.length + y.length := by rw [TL.len_tl, TL.len_tl, TL.len_tl, TL.tl_append, List.length_append]
theorem add_str {x y : Str} (h : x.length + y.length ≤ 10000) : dAdd (.str x) (.str y) = some (.str (x ++ y)) := gd_t _ (decide_eq_true (by rw [sizeLine_v]; omega))
theorem ix_pm (w : Bool) : dIx (.str "+-") (.int (if decide (sgI w < 0) then 1 else 0)) = some (.str (sgS w)) := by cases w <;> rfl
theorem ix_mp (w : Bool) : dIx (.str "-+") (.int (if decide (sgI w = 1) then 1 else 0)) = some (.str (sgS w)) := by cases w <;> rfl
theorem int_b (b : Bool) : dInt [.bool b] = some (.int (if b then 1 else 0)) := rfl
theorem sl22 (a b : D) : dSl (.tuple [a, b]) (some 2) none = some (.tuple []) := rfl
theorem sl32 (a b c : D) : dSl (.tuple [a, b, c]) (some 2) none = some (.tuple [c]) := rfl
theorem sl3p (a b c : D) : dSl (.tuple [a, b, c]) none (some 2) = some (.tuple [a, b]) := rfl
theorem join_0 (x : Str) : sJoin (.str x) [.list []] = some (.str Str.empty) := by
  have e : strsOf [] = some [] := rfl
  unfold sJoin
  simp only [e]
  rw [TL.join_eq]
  exact gd_t _ (decide_eq_true (by simp))
theorem join_1 {x y : Str} (h : y.length ≤ 1000) (hx : x.length = 0) : sJoin (.str x) [.list [.str y]] = some (.str y) := by
  have e : strsOf [.str y] = some [y] := rfl
  unfold sJoin
  simp only [e]
  rw [TL.join_eq]
  refine gd_t _ (decide_eq_true ?_)
  simp [hx]
  omega
theorem app_empty (x : Str) : x ++ Str.empty = x := TL.ext_tl (by rw [TL.tl_append]; exact List.append_nil _)
def stepS (r : St) : Str := numS r.n ++ sgS r.w
def deedS (r : St) : Str := numS r.n ++ sgS r.w ++ numS r.m
theorem len_step {r : St} (h : Nm r.n) : (stepS r).length ≤ 41 := by
  have := len_nm h
  have := len_sg r.w
  unfold stepS
  rw [len_app]
  omega
theorem len_deed {r : St} (h : Nm r.n) (h2 : (numS r.m).length ≤ 40) : (deedS r).length ≤ 81 := by
  have := len_nm h
  have := len_sg r.w
  unfold deedS
  rw [len_app, len_app]
  omega
theorem step_text_p (N : Nat) {r : St} (h : Nm r.n) : wz (z_w_step_text N [.fr (pushD r)]) fun fl _ => fl = .rt (.str (stepS r)) := by
  have l1 := len_nm h
  have l2 := len_sg r.w
  have a1 : dAdd (.str (numS r.n)) (.str (sgS r.w)) = some (.str (stepS r)) := add_str (by omega)
  have a2 : dAdd (.str (stepS r)) (.str Str.empty) = some (.str (stepS r)) := by
    rw [add_str (by have := len_step h; have e : Str.empty.length = 0 := rfl; omega), app_empty]
  simp -implicitDefEqProofs only [mSeq, mDo, mRet, mRetN, mSet, mOwn, mKill, mAug, gT, gTs, gTup, mAsg, mOwnM, mApp, mExt, isOl, appT, extT, setT, gIx, mOIx, mOLen, mFreeze, mRetO, mFor, wz_bnd, wz_ok, ret, bad, optM, mVar, mNil, mCons, asB, ofB, mNo, mSome, mSl, mIf, mAnd, mOr, mNot, mChain, mTup, mLst, mFz, mCall, mMeth, mNeg, mIsN, mMs, mAndV, mOrV, mBin, mIter, itemsOf, mRange1, mRange2, mEnum, mListOf, mIsi, wz_run, wz_bor, wz_borT, wz_noEx, wz_bad, aNil, aFr, aSlO, argSV, argSVs, slAt, backD, flD, flN, mCallD, mCallN, runD, mRepl, pickSem, mIxCallD, mIxCallN, own_ol, own_fr, own_un, lend_nil, lend_ol, lend_fr, lend_un, isT_str, isT_list, isT_tuple, isT_int, isT_bint, Bool.not_true, Bool.not_false, List.getElem?_cons_zero, List.getElem?_cons_succ, List.getElem?_nil, List.set_cons_zero, List.set_cons_succ, List.replicate_succ, List.replicate_zero, List.cons_append, List.nil_append, List.length_cons, List.length_nil, atI_0, atI_1, atI_2, atI_3, atI_4, ixN_30, ixN_31, ixN_32, szl_0, szl_1, szl_2, szl_3, szl_4, szl_5, szl_6, szl_7, szl_8, szl_9, szl_10, szl_11, szl_12, gd, dEq_i, dNe_i, dLt, dLe, dGt, dGe, dIx_l, dIx_t, Option.bind_some, if_pos, if_neg, if_true, if_false, Nat.zero_add, decide_true, decide_false, Int.toNat_zero, Int.toNat_one, dAdd_i, dSub_i, not_false_eq_true, ite_true, ite_false, Int.reduceLE, Int.reduceLT, Int.reduceNeg, Int.reduceAdd, Int.reduceSub, Int.reduceToNat, Nat.reduceAdd, Nat.reduceLT, Nat.reduceLeDiff, Int.reduceEq, Nat.reduceEqDiff, Int.reduceMul, ↓reduceIte, Int.cast_ofNat_Int, z_w_step_text, b_w_step_text, pushD, sgD, str_nm h, mComp, int_b, ix_pm, a1, sl22, wz_cn, killS, join_0, a2]
theorem step_text_d (N : Nat) {r : St} (h : Nm r.n) (h2 : dStr [.int r.m] = some (.str (numS r.m))) (h3 : (numS r.m).length ≤ 40) : wz (z_w_step_text N [.fr (rowD r)]) fun fl _ => fl = .rt (.str (deedS r)) := by
  have l1 := len_nm h
  have l2 := len_sg r.w
  have l3 := len_step h
  have a1 : dAdd (.str (numS r.n)) (.str (sgS r.w)) = some (.str (stepS r)) := add_str (by omega)
  have a2 : dAdd (.str (stepS r)) (.str (numS r.m)) = some (.str (deedS r)) := add_str (by omega)
  simp -implicitDefEqProofs only [mSeq, mDo, mRet, mRetN, mSet, mOwn, mKill, mAug, gT, gTs, gTup, mAsg, mOwnM, mApp, mExt, isOl, appT, extT, setT, gIx, mOIx, mOLen, mFreeze, mRetO, mFor, wz_bnd, wz_ok, ret, bad, optM, mVar, mNil, mCons, asB, ofB, mNo, mSome, mSl, mIf, mAnd, mOr, mNot, mChain, mTup, mLst, mFz, mCall, mMeth, mNeg, mIsN, mMs, mAndV, mOrV, mBin, mIter, itemsOf, mRange1, mRange2, mEnum, mListOf, mIsi, wz_run, wz_bor, wz_borT, wz_noEx, wz_bad, aNil, aFr, aSlO, argSV, argSVs, slAt, backD, flD, flN, mCallD, mCallN, runD, mRepl, pickSem, mIxCallD, mIxCallN, own_ol, own_fr, own_un, lend_nil, lend_ol, lend_fr, lend_un, isT_str, isT_list, isT_tuple, isT_int, isT_bint, Bool.not_true, Bool.not_false, List.getElem?_cons_zero, List.getElem?_cons_succ, List.getElem?_nil, List.set_cons_zero, List.set_cons_succ, List.replicate_succ, List.replicate_zero, List.cons_append, List.nil_append, List.length_cons, List.length_nil, atI_0, atI_1, atI_2, atI_3, atI_4, ixN_30, ixN_31, ixN_32, szl_0, szl_1, szl_2, szl_3, szl_4, szl_5, szl_6, szl_7, szl_8, szl_9, szl_10, szl_11, szl_12, gd, dEq_i, dNe_i, dLt, dLe, dGt, dGe, dIx_l, dIx_t, Option.bind_some, if_pos, if_neg, if_true, if_false, Nat.zero_add, decide_true, decide_false, Int.toNat_zero, Int.toNat_one, dAdd_i, dSub_i, not_false_eq_true, ite_true, ite_false, Int.reduceLE, Int.reduceLT, Int.reduceNeg, Int.reduceAdd, Int.reduceSub, Int.reduceToNat, Nat.reduceAdd, Nat.reduceLT, Nat.reduceLeDiff, Int.reduceEq, Nat.reduceEqDiff, Int.reduceMul, ↓reduceIte, Int.cast_ofNat_Int, z_w_step_text, b_w_step_text, rowD, sgD, str_nm h, h2, mComp, int_b, ix_pm, a1, sl32, wz_cc, wz_cn, wz_compT, killS, join_1 (show (numS r.m).length ≤ 1000 by omega) (show Str.length (Str.ofString "") = 0 from rfl), a2, lt_size (show 0 < 16777216 by decide), true_and]
theorem way_shown_ok (N : Nat) (w : Bool) : wz (z_way_shown N [.fr (.int (sgI w))]) fun fl l => fl = .rt (.str (sgS w)) := by
  simp -implicitDefEqProofs only [mSeq, mDo, mRet, mRetN, mSet, mOwn, mKill, mAug, gT, gTs, gTup, mAsg, mOwnM, mApp, mExt, isOl, appT, extT, setT, gIx, mOIx, mOLen, mFreeze, mRetO, mFor, wz_bnd, wz_ok, ret, bad, optM, mVar, mNil, mCons, asB, ofB, mNo, mSome, mSl, mIf, mAnd, mOr, mNot, mChain, mTup, mLst, mFz, mCall, mMeth, mNeg, mIsN, mMs, mAndV, mOrV, mBin, mIter, itemsOf, mRange1, mRange2, mEnum, mListOf, mIsi, wz_run, wz_bor, wz_borT, wz_noEx, wz_bad, aNil, aFr, aSlO, argSV, argSVs, slAt, backD, flD, flN, mCallD, mCallN, runD, mRepl, pickSem, mIxCallD, mIxCallN, own_ol, own_fr, own_un, lend_nil, lend_ol, lend_fr, lend_un, isT_str, isT_list, isT_tuple, isT_int, isT_bint, Bool.not_true, Bool.not_false, List.getElem?_cons_zero, List.getElem?_cons_succ, List.getElem?_nil, List.set_cons_zero, List.set_cons_succ, List.replicate_succ, List.replicate_zero, List.cons_append, List.nil_append, List.length_cons, List.length_nil, atI_0, atI_1, atI_2, atI_3, atI_4, ixN_30, ixN_31, ixN_32, szl_0, szl_1, szl_2, szl_3, szl_4, szl_5, szl_6, szl_7, szl_8, szl_9, szl_10, szl_11, szl_12, gd, dEq_i, dNe_i, dLt, dLe, dGt, dGe, dIx_l, dIx_t, Option.bind_some, if_pos, if_neg, if_true, if_false, Nat.zero_add, decide_true, decide_false, Int.toNat_zero, Int.toNat_one, dAdd_i, dSub_i, not_false_eq_true, ite_true, ite_false, Int.reduceLE, Int.reduceLT, Int.reduceNeg, Int.reduceAdd, Int.reduceSub, Int.reduceToNat, Nat.reduceAdd, Nat.reduceLT, Nat.reduceLeDiff, Int.reduceEq, Nat.reduceEqDiff, Int.reduceMul, ↓reduceIte, Int.cast_ofNat_Int, z_way_shown, b_way_shown, int_b, ix_mp]
theorem step_shown_p (N : Nat) {r : St} (h : Nm r.n) : wz (z_step_shown N [.fr (pushD r)]) fun fl _ => fl = .rt (.str (stepS r)) := by
  have l1 := len_nm h
  have l2 := len_sg r.w
  have a1 : dAdd (.str (numS r.n)) (.str (sgS r.w)) = some (.str (stepS r)) := add_str (by omega)
  have a2 : dAdd (.str (stepS r)) (.str Str.empty) = some (.str (stepS r)) := by
    rw [add_str (by have := len_step h; have e : Str.empty.length = 0 := rfl; omega), app_empty]
  simp -implicitDefEqProofs only [mSeq, mDo, mRet, mRetN, mSet, mOwn, mKill, mAug, gT, gTs, gTup, mAsg, mOwnM, mApp, mExt, isOl, appT, extT, setT, gIx, mOIx, mOLen, mFreeze, mRetO, mFor, wz_bnd, wz_ok, ret, bad, optM, mVar, mNil, mCons, asB, ofB, mNo, mSome, mSl, mIf, mAnd, mOr, mNot, mChain, mTup, mLst, mFz, mCall, mMeth, mNeg, mIsN, mMs, mAndV, mOrV, mBin, mIter, itemsOf, mRange1, mRange2, mEnum, mListOf, mIsi, wz_run, wz_bor, wz_borT, wz_noEx, wz_bad, aNil, aFr, aSlO, argSV, argSVs, slAt, backD, flD, flN, mCallD, mCallN, runD, mRepl, pickSem, mIxCallD, mIxCallN, own_ol, own_fr, own_un, lend_nil, lend_ol, lend_fr, lend_un, isT_str, isT_list, isT_tuple, isT_int, isT_bint, Bool.not_true, Bool.not_false, List.getElem?_cons_zero, List.getElem?_cons_succ, List.getElem?_nil, List.set_cons_zero, List.set_cons_succ, List.replicate_succ, List.replicate_zero, List.cons_append, List.nil_append, List.length_cons, List.length_nil, atI_0, atI_1, atI_2, atI_3, atI_4, ixN_30, ixN_31, ixN_32, szl_0, szl_1, szl_2, szl_3, szl_4, szl_5, szl_6, szl_7, szl_8, szl_9, szl_10, szl_11, szl_12, gd, dEq_i, dNe_i, dLt, dLe, dGt, dGe, dIx_l, dIx_t, Option.bind_some, if_pos, if_neg, if_true, if_false, Nat.zero_add, decide_true, decide_false, Int.toNat_zero, Int.toNat_one, dAdd_i, dSub_i, not_false_eq_true, ite_true, ite_false, Int.reduceLE, Int.reduceLT, Int.reduceNeg, Int.reduceAdd, Int.reduceSub, Int.reduceToNat, Nat.reduceAdd, Nat.reduceLT, Nat.reduceLeDiff, Int.reduceEq, Nat.reduceEqDiff, Int.reduceMul, ↓reduceIte, Int.cast_ofNat_Int, z_step_shown, b_step_shown, pushD, sgD, str_nm h, mComp, List.all_nil]
  refine wz_imp (way_shown_ok N r.w) fun fl l e => ?_
  subst e
  simp -implicitDefEqProofs only [mSeq, mDo, mRet, mRetN, mSet, mOwn, mKill, mAug, gT, gTs, gTup, mAsg, mOwnM, mApp, mExt, isOl, appT, extT, setT, gIx, mOIx, mOLen, mFreeze, mRetO, mFor, wz_bnd, wz_ok, ret, bad, optM, mVar, mNil, mCons, asB, ofB, mNo, mSome, mSl, mIf, mAnd, mOr, mNot, mChain, mTup, mLst, mFz, mCall, mMeth, mNeg, mIsN, mMs, mAndV, mOrV, mBin, mIter, itemsOf, mRange1, mRange2, mEnum, mListOf, mIsi, wz_run, wz_bor, wz_borT, wz_noEx, wz_bad, aNil, aFr, aSlO, argSV, argSVs, slAt, backD, flD, flN, mCallD, mCallN, runD, mRepl, pickSem, mIxCallD, mIxCallN, own_ol, own_fr, own_un, lend_nil, lend_ol, lend_fr, lend_un, isT_str, isT_list, isT_tuple, isT_int, isT_bint, Bool.not_true, Bool.not_false, List.getElem?_cons_zero, List.getElem?_cons_succ, List.getElem?_nil, List.set_cons_zero, List.set_cons_succ, List.replicate_succ, List.replicate_zero, List.cons_append, List.nil_append, List.length_cons, List.length_nil, atI_0, atI_1, atI_2, atI_3, atI_4, ixN_30, ixN_31, ixN_32, szl_0, szl_1, szl_2, szl_3, szl_4, szl_5, szl_6, szl_7, szl_8, szl_9, szl_10, szl_11, szl_12, gd, dEq_i, dNe_i, dLt, dLe, dGt, dGe, dIx_l, dIx_t, Option.bind_some, if_pos, if_neg, if_true, if_false, Nat.zero_add, decide_true, decide_false, Int.toNat_zero, Int.toNat_one, dAdd_i, dSub_i, not_false_eq_true, ite_true, ite_false, Int.reduceLE, Int.reduceLT, Int.reduceNeg, Int.reduceAdd, Int.reduceSub, Int.reduceToNat, Nat.reduceAdd, Nat.reduceLT, Nat.reduceLeDiff, Int.reduceEq, Nat.reduceEqDiff, Int.reduceMul, ↓reduceIte, Int.cast_ofNat_Int, a1, sl22, wz_cn, killS, join_0, a2]
theorem step_shown_d (N : Nat) {r : St} (h : Nm r.n) (h2 : dStr [.int r.m] = some (.str (numS r.m))) (h3 : (numS r.m).length ≤ 40) : wz (z_step_shown N [.fr (rowD r)]) fun fl _ => fl = .rt (.str (deedS r)) := by
  have l1 := len_nm h
  have l2 := len_sg r.w
  have l3 := len_step h
  have a1 : dAdd (.str (numS r.n)) (.str (sgS r.w)) = some (.str (stepS r)) := add_str (by omega)
  have a2 : dAdd (.str (stepS r)) (.str (numS r.m)) = some (.str (deedS r)) := add_str (by omega)
  simp -implicitDefEqProofs only [mSeq, mDo, mRet, mRetN, mSet, mOwn, mKill, mAug, gT, gTs, gTup, mAsg, mOwnM, mApp, mExt, isOl, appT, extT, setT, gIx, mOIx, mOLen, mFreeze, mRetO, mFor, wz_bnd, wz_ok, ret, bad, optM, mVar, mNil, mCons, asB, ofB, mNo, mSome, mSl, mIf, mAnd, mOr, mNot, mChain, mTup, mLst, mFz, mCall, mMeth, mNeg, mIsN, mMs, mAndV, mOrV, mBin, mIter, itemsOf, mRange1, mRange2, mEnum, mListOf, mIsi, wz_run, wz_bor, wz_borT, wz_noEx, wz_bad, aNil, aFr, aSlO, argSV, argSVs, slAt, backD, flD, flN, mCallD, mCallN, runD, mRepl, pickSem, mIxCallD, mIxCallN, own_ol, own_fr, own_un, lend_nil, lend_ol, lend_fr, lend_un, isT_str, isT_list, isT_tuple, isT_int, isT_bint, Bool.not_true, Bool.not_false, List.getElem?_cons_zero, List.getElem?_cons_succ, List.getElem?_nil, List.set_cons_zero, List.set_cons_succ, List.replicate_succ, List.replicate_zero, List.cons_append, List.nil_append, List.length_cons, List.length_nil, atI_0, atI_1, atI_2, atI_3, atI_4, ixN_30, ixN_31, ixN_32, szl_0, szl_1, szl_2, szl_3, szl_4, szl_5, szl_6, szl_7, szl_8, szl_9, szl_10, szl_11, szl_12, gd, dEq_i, dNe_i, dLt, dLe, dGt, dGe, dIx_l, dIx_t, Option.bind_some, if_pos, if_neg, if_true, if_false, Nat.zero_add, decide_true, decide_false, Int.toNat_zero, Int.toNat_one, dAdd_i, dSub_i, not_false_eq_true, ite_true, ite_false, Int.reduceLE, Int.reduceLT, Int.reduceNeg, Int.reduceAdd, Int.reduceSub, Int.reduceToNat, Nat.reduceAdd, Nat.reduceLT, Nat.reduceLeDiff, Int.reduceEq, Nat.reduceEqDiff, Int.reduceMul, ↓reduceIte, Int.cast_ofNat_Int, z_step_shown, b_step_shown, rowD, sgD, str_nm h, h2, mComp, List.all_nil]
  refine wz_imp (way_shown_ok N r.w) fun fl l e => ?_
  subst e
  simp -implicitDefEqProofs only [mSeq, mDo, mRet, mRetN, mSet, mOwn, mKill, mAug, gT, gTs, gTup, mAsg, mOwnM, mApp, mExt, isOl, appT, extT, setT, gIx, mOIx, mOLen, mFreeze, mRetO, mFor, wz_bnd, wz_ok, ret, bad, optM, mVar, mNil, mCons, asB, ofB, mNo, mSome, mSl, mIf, mAnd, mOr, mNot, mChain, mTup, mLst, mFz, mCall, mMeth, mNeg, mIsN, mMs, mAndV, mOrV, mBin, mIter, itemsOf, mRange1, mRange2, mEnum, mListOf, mIsi, wz_run, wz_bor, wz_borT, wz_noEx, wz_bad, aNil, aFr, aSlO, argSV, argSVs, slAt, backD, flD, flN, mCallD, mCallN, runD, mRepl, pickSem, mIxCallD, mIxCallN, own_ol, own_fr, own_un, lend_nil, lend_ol, lend_fr, lend_un, isT_str, isT_list, isT_tuple, isT_int, isT_bint, Bool.not_true, Bool.not_false, List.getElem?_cons_zero, List.getElem?_cons_succ, List.getElem?_nil, List.set_cons_zero, List.set_cons_succ, List.replicate_succ, List.replicate_zero, List.cons_append, List.nil_append, List.length_cons, List.length_nil, atI_0, atI_1, atI_2, atI_3, atI_4, ixN_30, ixN_31, ixN_32, szl_0, szl_1, szl_2, szl_3, szl_4, szl_5, szl_6, szl_7, szl_8, szl_9, szl_10, szl_11, szl_12, gd, dEq_i, dNe_i, dLt, dLe, dGt, dGe, dIx_l, dIx_t, Option.bind_some, if_pos, if_neg, if_true, if_false, Nat.zero_add, decide_true, decide_false, Int.toNat_zero, Int.toNat_one, dAdd_i, dSub_i, not_false_eq_true, ite_true, ite_false, Int.reduceLE, Int.reduceLT, Int.reduceNeg, Int.reduceAdd, Int.reduceSub, Int.reduceToNat, Nat.reduceAdd, Nat.reduceLT, Nat.reduceLeDiff, Int.reduceEq, Nat.reduceEqDiff, Int.reduceMul, ↓reduceIte, Int.cast_ofNat_Int, a1, h2, sl32, wz_cc, wz_cn, wz_compT, killS, join_1 (show (numS r.m).length ≤ 1000 by omega) (show Str.length (Str.ofString "") = 0 from rfl), a2, lt_size (show 0 < 16777216 by decide), true_and]
end Tz
namespace Tz
open PySem PySem.Spec PyProof.Rows L2
/-! ### lists of words -/
def okS (x : Str) : Prop := ∀ c ∈ TL.tl x, c < 62
theorem okS_app {x y : Str} (h : okS x) (k : okS y) : okS (x ++ y) := fun c hc => by
  rw [TL.tl_append] at hc
  rcases List.mem_append.mp hc with q | q
  · exact h c q
  · exact k c q
theorem strOk_of {x : Str} (h : okS x) : PyData.canLay0 (.str x) = true := by
  show x.cps.all (· < 0x110000) = true
  rw [← Array.all_toList]
  refine List.all_eq_true.mpr fun c hc => decide_eq_true ?_
  have := h c hc
  omega
theorem lay_list {xs : List D} (h : ∀ x ∈ xs, PyData.canLay0 x = true) : PyData.canLayAll0 xs = true := by
  induction xs with
  | nil => rfl
  | cons x xs ih =>
    show (PyData.canLay0 x && PyData.canLayAll0 xs) = true
    rw [h x (List.mem_cons_self ..), ih fun y hy => h y (List.mem_cons_of_mem _ hy)]
    rfl
theorem depth_list {xs : List D} {k : Nat} (h : ∀ x ∈ xs, PyData.depth x ≤ k) : PyData.depthAll xs ≤ k := by
  induction xs with
  | nil => exact Nat.zero_le _
  | cons x xs ih =>
    show max (PyData.depth x) (PyData.depthAll xs) ≤ k
    have h1 := h x (List.mem_cons_self ..)
    have h2 := ih fun y hy => h y (List.mem_cons_of_mem _ hy)
    omega
theorem shaped_list {xs : List D} (h : ∀ x ∈ xs, PyData.canLay0 x = true) (k : ∀ x ∈ xs, PyData.depth x ≤ 10) : SeqAt.shaped (.list xs) = true := by
  unfold SeqAt.shaped
  have h1 : PyData.canLay0 (.list xs) = true := lay_list h
  have h2 : PyData.depth (.list xs) ≤ 64 := by
    show PyData.depthAll xs + 1 ≤ 64
    have := depth_list k
    omega
  rw [h1, decide_eq_true h2]
  rfl
def listS (ws : List Str) : Str := match ws with
  | [] => "none"
  | _ => Txt.join " " ws
theorem strs_map (ws : List Str) : strsOf (ws.map PyData.str) = some ws := by
  induction ws with
  | nil => rfl
  | cons w ws ih =>
    show (strsOf (ws.map PyData.str)).map (w :: ·) = some (w :: ws)
    rw [ih]
    rfl
/-- words as they stand in a text here -/
def Words (ws : List Str) : Prop := ws.length ≤ 1000 ∧ ∀ w ∈ ws, w.length ≤ 100 ∧ okS w ∧ 32 ∉ TL.tl w ∧ TL.tl w ≠ []
theorem sum_le {ws : List Str} {k : Nat} (h : ∀ w ∈ ws, w.length ≤ k) : (ws.map (·.length)).sum ≤ ws.length * k := by
  induction ws with
  | nil => simp
  | cons w ws ih =>
    have h1 := h w (List.mem_cons_self ..)
    have h2 := ih fun y hy => h y (List.mem_cons_of_mem _ hy)
    rw [List.map_cons, List.sum_cons, List.length_cons, Nat.succ_mul]
    omega
theorem words_join {ws : List Str} (h : Words ws) : sJoin (.str " ") [.list (ws.map .str)] = some (.str (Txt.join " " ws)) := by
  unfold sJoin
  simp only [strs_map]
  refine gd_t _ (decide_eq_true ?_)
  have h1 := sum_le (k := 100) fun w hw => (h.2 w hw).1
  have h2 := h.1
  have h3 : Str.length (Str.ofString " ") = 1 := rfl
  have h4 : ws.length * 100 ≤ 1000 * 100 := Nat.mul_le_mul_right _ h2
  rw [h3]
  omega
theorem join_len (x : Str) : ∀ ws : List Str, (Txt.join x ws).length ≤ (ws.map (·.length)).sum + ws.length * x.length
  | [] => by rw [TL.join_eq]; exact Nat.zero_le _
  | [w] => by
    rw [TL.join_eq]
    show w.length ≤ _
    simp
  | w :: v :: ws => by
    have ih := join_len x (v :: ws)
    rw [TL.join_eq] at ih ⊢
    show (w ++ x ++ Str.join x (v :: ws)).length ≤ _
    rw [len_app, len_app, List.map_cons, List.sum_cons, List.length_cons, Nat.succ_mul]
    omega
theorem shaped_words {ws : List Str} (h : Words ws) : SeqAt.shaped (.list (ws.map PyData.str)) = true :=
  shaped_list (fun x hx => by obtain ⟨w, hw, rfl⟩ := List.mem_map.mp hx; exact strOk_of (h.2 w hw).2.1) fun x hx => by obtain ⟨w, hw, rfl⟩ := List.mem_map.mp hx; exact Nat.zero_le _
theorem eq_nil {ws : List Str} (h : Words ws) : dEq (.list (ws.map PyData.str)) (.list []) = some (.bool ws.isEmpty) := by
  unfold dEq
  rw [shaped_words h]
  cases ws <;> rfl
theorem none_0 : dMul (.str "none") (.int (if false = true then 1 else 0)) = some (.str Str.empty) := by rfl
theorem none_1 : dMul (.str "none") (.int (if true = true then 1 else 0)) = some (.str "none") := by rfl
theorem list_text_ok (N : Nat) {ws : List Str} (h : Words ws) : wz (z_w_list_text N [.fr (.list (ws.map .str))]) fun fl _ => fl = .rt (.str (listS ws)) := by
  have h1 := sum_le (k := 100) fun w hw => (h.2 w hw).1
  have h2 := h.1
  have h4 : ws.length * 100 ≤ 1000 * 100 := Nat.mul_le_mul_right _ h2
  have h3 := join_len " " ws
  have e1 : Str.length (Str.ofString " ") = 1 := rfl
  rw [e1] at h3
  cases ws with
  | nil =>
    have j : sJoin (.str " ") [.list []] = some (.str Str.empty) := join_0 _
    have e : dEq (.list []) (.list []) = some (.bool true) := by rfl
    have a : dAdd (.str Str.empty) (.str "none") = some (.str "none") := by rfl
    simp -implicitDefEqProofs only [mSeq, mDo, mRet, mRetN, mSet, mOwn, mKill, mAug, gT, gTs, gTup, mAsg, mOwnM, mApp, mExt, isOl, appT, extT, setT, gIx, mOIx, mOLen, mFreeze, mRetO, mFor, wz_bnd, wz_ok, ret, bad, optM, mVar, mNil, mCons, asB, ofB, mNo, mSome, mSl, mIf, mAnd, mOr, mNot, mChain, mTup, mLst, mFz, mCall, mMeth, mNeg, mIsN, mMs, mAndV, mOrV, mBin, mIter, itemsOf, mRange1, mRange2, mEnum, mListOf, mIsi, wz_run, wz_bor, wz_borT, wz_noEx, wz_bad, aNil, aFr, aSlO, argSV, argSVs, slAt, backD, flD, flN, mCallD, mCallN, runD, mRepl, pickSem, mIxCallD, mIxCallN, own_ol, own_fr, own_un, lend_nil, lend_ol, lend_fr, lend_un, isT_str, isT_list, isT_tuple, isT_int, isT_bint, Bool.not_true, Bool.not_false, List.getElem?_cons_zero, List.getElem?_cons_succ, List.getElem?_nil, List.set_cons_zero, List.set_cons_succ, List.replicate_succ, List.replicate_zero, List.cons_append, List.nil_append, List.length_cons, List.length_nil, atI_0, atI_1, atI_2, atI_3, atI_4, ixN_30, ixN_31, ixN_32, szl_0, szl_1, szl_2, szl_3, szl_4, szl_5, szl_6, szl_7, szl_8, szl_9, szl_10, szl_11, szl_12, gd, dEq_i, dNe_i, dLt, dLe, dGt, dGe, dIx_l, dIx_t, Option.bind_some, if_pos, if_neg, if_true, if_false, Nat.zero_add, decide_true, decide_false, Int.toNat_zero, Int.toNat_one, dAdd_i, dSub_i, not_false_eq_true, ite_true, ite_false, Int.reduceLE, Int.reduceLT, Int.reduceNeg, Int.reduceAdd, Int.reduceSub, Int.reduceToNat, Nat.reduceAdd, Nat.reduceLT, Nat.reduceLeDiff, Int.reduceEq, Nat.reduceEqDiff, Int.reduceMul, ↓reduceIte, Int.cast_ofNat_Int, z_w_list_text, b_w_list_text, List.map_nil, j, e, int_b, none_1, a]
    rfl
  | cons w ws =>
    have j := words_join h
    have e := eq_nil h
    have a : dAdd (.str (Txt.join " " (w :: ws))) (.str Str.empty) = some (.str (Txt.join " " (w :: ws))) := by
      have a1 : dAdd (.str (Txt.join " " (w :: ws))) (.str Str.empty) = some (.str (Txt.join " " (w :: ws) ++ Str.empty)) := gd_t _ (decide_eq_true (by
        have e2 : Str.empty.length = 0 := rfl
        rw [sizeLine_v, e2]
        omega))
      rw [a1, app_empty]
    simp -implicitDefEqProofs only [mSeq, mDo, mRet, mRetN, mSet, mOwn, mKill, mAug, gT, gTs, gTup, mAsg, mOwnM, mApp, mExt, isOl, appT, extT, setT, gIx, mOIx, mOLen, mFreeze, mRetO, mFor, wz_bnd, wz_ok, ret, bad, optM, mVar, mNil, mCons, asB, ofB, mNo, mSome, mSl, mIf, mAnd, mOr, mNot, mChain, mTup, mLst, mFz, mCall, mMeth, mNeg, mIsN, mMs, mAndV, mOrV, mBin, mIter, itemsOf, mRange1, mRange2, mEnum, mListOf, mIsi, wz_run, wz_bor, wz_borT, wz_noEx, wz_bad, aNil, aFr, aSlO, argSV, argSVs, slAt, backD, flD, flN, mCallD, mCallN, runD, mRepl, pickSem, mIxCallD, mIxCallN, own_ol, own_fr, own_un, lend_nil, lend_ol, lend_fr, lend_un, isT_str, isT_list, isT_tuple, isT_int, isT_bint, Bool.not_true, Bool.not_false, List.getElem?_cons_zero, List.getElem?_cons_succ, List.getElem?_nil, List.set_cons_zero, List.set_cons_succ, List.replicate_succ, List.replicate_zero, List.cons_append, List.nil_append, List.length_cons, List.length_nil, atI_0, atI_1, atI_2, atI_3, atI_4, ixN_30, ixN_31, ixN_32, szl_0, szl_1, szl_2, szl_3, szl_4, szl_5, szl_6, szl_7, szl_8, szl_9, szl_10, szl_11, szl_12, gd, dEq_i, dNe_i, dLt, dLe, dGt, dGe, dIx_l, dIx_t, Option.bind_some, if_pos, if_neg, if_true, if_false, Nat.zero_add, decide_true, decide_false, Int.toNat_zero, Int.toNat_one, dAdd_i, dSub_i, not_false_eq_true, ite_true, ite_false, Int.reduceLE, Int.reduceLT, Int.reduceNeg, Int.reduceAdd, Int.reduceSub, Int.reduceToNat, Nat.reduceAdd, Nat.reduceLT, Nat.reduceLeDiff, Int.reduceEq, Nat.reduceEqDiff, Int.reduceMul, ↓reduceIte, Int.cast_ofNat_Int, z_w_list_text, b_w_list_text, j, e, int_b, List.isEmpty_cons, none_0, a]
    rfl
theorem listed_ok (N : Nat) {ws : List Str} (h : Words ws) : wz (z_listed N [.fr (.list (ws.map .str))]) fun fl _ => fl = .rt (.str (listS ws)) := by
  have e := eq_nil h
  cases ws with
  | nil =>
    simp -implicitDefEqProofs only [mSeq, mDo, mRet, mRetN, mSet, mOwn, mKill, mAug, gT, gTs, gTup, mAsg, mOwnM, mApp, mExt, isOl, appT, extT, setT, gIx, mOIx, mOLen, mFreeze, mRetO, mFor, wz_bnd, wz_ok, ret, bad, optM, mVar, mNil, mCons, asB, ofB, mNo, mSome, mSl, mIf, mAnd, mOr, mNot, mChain, mTup, mLst, mFz, mCall, mMeth, mNeg, mIsN, mMs, mAndV, mOrV, mBin, mIter, itemsOf, mRange1, mRange2, mEnum, mListOf, mIsi, wz_run, wz_bor, wz_borT, wz_noEx, wz_bad, aNil, aFr, aSlO, argSV, argSVs, slAt, backD, flD, flN, mCallD, mCallN, runD, mRepl, pickSem, mIxCallD, mIxCallN, own_ol, own_fr, own_un, lend_nil, lend_ol, lend_fr, lend_un, isT_str, isT_list, isT_tuple, isT_int, isT_bint, Bool.not_true, Bool.not_false, List.getElem?_cons_zero, List.getElem?_cons_succ, List.getElem?_nil, List.set_cons_zero, List.set_cons_succ, List.replicate_succ, List.replicate_zero, List.cons_append, List.nil_append, List.length_cons, List.length_nil, atI_0, atI_1, atI_2, atI_3, atI_4, ixN_30, ixN_31, ixN_32, szl_0, szl_1, szl_2, szl_3, szl_4, szl_5, szl_6, szl_7, szl_8, szl_9, szl_10, szl_11, szl_12, gd, dEq_i, dNe_i, dLt, dLe, dGt, dGe, dIx_l, dIx_t, Option.bind_some, if_pos, if_neg, if_true, if_false, Nat.zero_add, decide_true, decide_false, Int.toNat_zero, Int.toNat_one, dAdd_i, dSub_i, not_false_eq_true, ite_true, ite_false, Int.reduceLE, Int.reduceLT, Int.reduceNeg, Int.reduceAdd, Int.reduceSub, Int.reduceToNat, Nat.reduceAdd, Nat.reduceLT, Nat.reduceLeDiff, Int.reduceEq, Nat.reduceEqDiff, Int.reduceMul, ↓reduceIte, Int.cast_ofNat_Int, z_listed, b_listed, e, List.isEmpty_nil]
    rfl
  | cons w ws =>
    simp -implicitDefEqProofs only [mSeq, mDo, mRet, mRetN, mSet, mOwn, mKill, mAug, gT, gTs, gTup, mAsg, mOwnM, mApp, mExt, isOl, appT, extT, setT, gIx, mOIx, mOLen, mFreeze, mRetO, mFor, wz_bnd, wz_ok, ret, bad, optM, mVar, mNil, mCons, asB, ofB, mNo, mSome, mSl, mIf, mAnd, mOr, mNot, mChain, mTup, mLst, mFz, mCall, mMeth, mNeg, mIsN, mMs, mAndV, mOrV, mBin, mIter, itemsOf, mRange1, mRange2, mEnum, mListOf, mIsi, wz_run, wz_bor, wz_borT, wz_noEx, wz_bad, aNil, aFr, aSlO, argSV, argSVs, slAt, backD, flD, flN, mCallD, mCallN, runD, mRepl, pickSem, mIxCallD, mIxCallN, own_ol, own_fr, own_un, lend_nil, lend_ol, lend_fr, lend_un, isT_str, isT_list, isT_tuple, isT_int, isT_bint, Bool.not_true, Bool.not_false, List.getElem?_cons_zero, List.getElem?_cons_succ, List.getElem?_nil, List.set_cons_zero, List.set_cons_succ, List.replicate_succ, List.replicate_zero, List.cons_append, List.nil_append, List.length_cons, List.length_nil, atI_0, atI_1, atI_2, atI_3, atI_4, ixN_30, ixN_31, ixN_32, szl_0, szl_1, szl_2, szl_3, szl_4, szl_5, szl_6, szl_7, szl_8, szl_9, szl_10, szl_11, szl_12, gd, dEq_i, dNe_i, dLt, dLe, dGt, dGe, dIx_l, dIx_t, Option.bind_some, if_pos, if_neg, if_true, if_false, Nat.zero_add, decide_true, decide_false, Int.toNat_zero, Int.toNat_one, dAdd_i, dSub_i, not_false_eq_true, ite_true, ite_false, Int.reduceLE, Int.reduceLT, Int.reduceNeg, Int.reduceAdd, Int.reduceSub, Int.reduceToNat, Nat.reduceAdd, Nat.reduceLT, Nat.reduceLeDiff, Int.reduceEq, Nat.reduceEqDiff, Int.reduceMul, ↓reduceIte, Int.cast_ofNat_Int, z_listed, b_listed, words_join h, e, List.isEmpty_cons]
    rfl
theorem callF_1 {sem : List SV → R Fl} {f : M D} {ls : LS} {P : D → LS → Prop} (h : wz (f ls) fun d l => wz (sem [.fr d]) fun fl _ => ∃ t, fl = .rt t ∧ P t l) : wz (mCallD false [] sem (aFr f aNil) ls) P := by
  simp -implicitDefEqProofs only [mSeq, mDo, mRet, mRetN, mSet, mOwn, mKill, mAug, gT, gTs, gTup, mAsg, mOwnM, mApp, mExt, isOl, appT, extT, setT, gIx, mOIx, mOLen, mFreeze, mRetO, mFor, wz_bnd, wz_ok, ret, bad, optM, mVar, mNil, mCons, asB, ofB, mNo, mSome, mSl, mIf, mAnd, mOr, mNot, mChain, mTup, mLst, mFz, mCall, mMeth, mNeg, mIsN, mMs, mAndV, mOrV, mBin, mIter, itemsOf, mRange1, mRange2, mEnum, mListOf, mIsi, wz_run, wz_bor, wz_borT, wz_noEx, wz_bad, aNil, aFr, aSlO, argSV, argSVs, slAt, backD, flD, flN, mCallD, mCallN, runD, mRepl, pickSem, mIxCallD, mIxCallN, own_ol, own_fr, own_un, lend_nil, lend_ol, lend_fr, lend_un, isT_str, isT_list, isT_tuple, isT_int, isT_bint, Bool.not_true, Bool.not_false, List.getElem?_cons_zero, List.getElem?_cons_succ, List.getElem?_nil, List.set_cons_zero, List.set_cons_succ, List.replicate_succ, List.replicate_zero, List.cons_append, List.nil_append, List.length_cons, List.length_nil, atI_0, atI_1, atI_2, atI_3, atI_4, ixN_30, ixN_31, ixN_32, szl_0, szl_1, szl_2, szl_3, szl_4, szl_5, szl_6, szl_7, szl_8, szl_9, szl_10, szl_11, szl_12, gd, dEq_i, dNe_i, dLt, dLe, dGt, dGe, dIx_l, dIx_t, Option.bind_some, if_pos, if_neg, if_true, if_false, Nat.zero_add, decide_true, decide_false, Int.toNat_zero, Int.toNat_one, dAdd_i, dSub_i, not_false_eq_true, ite_true, ite_false, Int.reduceLE, Int.reduceLT, Int.reduceNeg, Int.reduceAdd, Int.reduceSub, Int.reduceToNat, Nat.reduceAdd, Nat.reduceLT, Nat.reduceLeDiff, Int.reduceEq, Nat.reduceEqDiff, Int.reduceMul, ↓reduceIte, Int.cast_ofNat_Int, List.all_nil]
  refine wz_imp h fun d l k => ?_
  refine wz_imp k fun fl l2 ⟨t, e, p⟩ => ?_
  subst e
  simp -implicitDefEqProofs only [mSeq, mDo, mRet, mRetN, mSet, mOwn, mKill, mAug, gT, gTs, gTup, mAsg, mOwnM, mApp, mExt, isOl, appT, extT, setT, gIx, mOIx, mOLen, mFreeze, mRetO, mFor, wz_bnd, wz_ok, ret, bad, optM, mVar, mNil, mCons, asB, ofB, mNo, mSome, mSl, mIf, mAnd, mOr, mNot, mChain, mTup, mLst, mFz, mCall, mMeth, mNeg, mIsN, mMs, mAndV, mOrV, mBin, mIter, itemsOf, mRange1, mRange2, mEnum, mListOf, mIsi, wz_run, wz_bor, wz_borT, wz_noEx, wz_bad, aNil, aFr, aSlO, argSV, argSVs, slAt, backD, flD, flN, mCallD, mCallN, runD, mRepl, pickSem, mIxCallD, mIxCallN, own_ol, own_fr, own_un, lend_nil, lend_ol, lend_fr, lend_un, isT_str, isT_list, isT_tuple, isT_int, isT_bint, Bool.not_true, Bool.not_false, List.getElem?_cons_zero, List.getElem?_cons_succ, List.getElem?_nil, List.set_cons_zero, List.set_cons_succ, List.replicate_succ, List.replicate_zero, List.cons_append, List.nil_append, List.length_cons, List.length_nil, atI_0, atI_1, atI_2, atI_3, atI_4, ixN_30, ixN_31, ixN_32, szl_0, szl_1, szl_2, szl_3, szl_4, szl_5, szl_6, szl_7, szl_8, szl_9, szl_10, szl_11, szl_12, gd, dEq_i, dNe_i, dLt, dLe, dGt, dGe, dIx_l, dIx_t, Option.bind_some, if_pos, if_neg, if_true, if_false, Nat.zero_add, decide_true, decide_false, Int.toNat_zero, Int.toNat_one, dAdd_i, dSub_i, not_false_eq_true, ite_true, ite_false, Int.reduceLE, Int.reduceLT, Int.reduceNeg, Int.reduceAdd, Int.reduceSub, Int.reduceToNat, Nat.reduceAdd, Nat.reduceLT, Nat.reduceLeDiff, Int.reduceEq, Nat.reduceEqDiff, Int.reduceMul, ↓reduceIte, Int.cast_ofNat_Int]
  exact p
theorem callP_1 {sem : List SV → R Fl} {f : M D} {d t : D} {ls : LS} {P : D → LS → Prop} (hf : f ls = .ok d ls) (h : wz (sem [.fr d]) fun fl _ => fl = .rt t) (p : P t ls) : wz (mCallD false [] sem (aFr f aNil) ls) P :=
  callF_1 (by
    rw [hf]
    show wz (sem [.fr d]) fun fl _ => ∃ t, fl = .rt t ∧ P t ls
    exact wz_imp h fun fl l e => ⟨t, e, p⟩)
theorem steps_text_ok (N : Nat) {rs : List St} {enc : St → D} {out : St → Str} (hs : ∀ r ∈ rs, wz (z_w_step_text N [.fr (enc r)]) fun fl _ => fl = .rt (.str (out r))) (hw : Words (rs.map out)) : wz (z_w_steps_text N [.fr (.list (rs.map enc))]) fun fl _ => fl = .rt (.str (listS (rs.map out))) := by
  have hl : rs.length ≤ sizeLine := by have := hw.1; rw [List.length_map] at this; rw [sizeLine_v]; omega
  have key : wz (z_w_list_text N [.fr (.list (rs.map fun r => .str (out r)))]) fun fl _ => fl = .rt (.str (listS (rs.map out))) := by
    have := list_text_ok N hw
    rw [List.map_map] at this
    exact this
  simp -implicitDefEqProofs only [mSeq, mDo, mRet, mRetN, mSet, mOwn, mKill, mAug, gT, gTs, gTup, mAsg, mOwnM, mApp, mExt, isOl, appT, extT, setT, gIx, mOIx, mOLen, mFreeze, mRetO, mFor, wz_bnd, wz_ok, ret, bad, optM, mVar, mNil, mCons, asB, ofB, mNo, mSome, mSl, mIf, mAnd, mOr, mNot, mChain, mTup, mLst, mFz, mCall, mMeth, mNeg, mIsN, mMs, mAndV, mOrV, mBin, mIter, itemsOf, mRange1, mRange2, mEnum, mListOf, mIsi, wz_bor, wz_borT, wz_noEx, wz_bad, runD, mRepl, pickSem, own_ol, own_fr, own_un, lend_nil, lend_ol, lend_fr, lend_un, isT_str, isT_list, isT_tuple, isT_int, isT_bint, Bool.not_true, Bool.not_false, List.getElem?_cons_zero, List.getElem?_cons_succ, List.getElem?_nil, List.set_cons_zero, List.set_cons_succ, List.replicate_succ, List.replicate_zero, List.cons_append, List.nil_append, List.length_cons, List.length_nil, atI_0, atI_1, atI_2, atI_3, atI_4, ixN_30, ixN_31, ixN_32, szl_0, szl_1, szl_2, szl_3, szl_4, szl_5, szl_6, szl_7, szl_8, szl_9, szl_10, szl_11, szl_12, gd, dEq_i, dNe_i, dLt, dLe, dGt, dGe, dIx_l, dIx_t, Option.bind_some, if_pos, if_neg, if_true, if_false, Nat.zero_add, decide_true, decide_false, Int.toNat_zero, Int.toNat_one, dAdd_i, dSub_i, not_false_eq_true, ite_true, ite_false, Int.reduceLE, Int.reduceLT, Int.reduceNeg, Int.reduceAdd, Int.reduceSub, Int.reduceToNat, Nat.reduceAdd, Nat.reduceLT, Nat.reduceLeDiff, Int.reduceEq, Nat.reduceEqDiff, Int.reduceMul, ↓reduceIte, Int.cast_ofNat_Int, z_w_steps_text, b_w_steps_text]
  refine callF_1 ?_
  simp -implicitDefEqProofs only [mSeq, mDo, mRet, mRetN, mSet, mOwn, mKill, mAug, gT, gTs, gTup, mAsg, mOwnM, mApp, mExt, isOl, appT, extT, setT, gIx, mOIx, mOLen, mFreeze, mRetO, mFor, wz_bnd, wz_ok, ret, bad, optM, mVar, mNil, mCons, asB, ofB, mNo, mSome, mSl, mIf, mAnd, mOr, mNot, mChain, mTup, mLst, mFz, mCall, mMeth, mNeg, mIsN, mMs, mAndV, mOrV, mBin, mIter, itemsOf, mRange1, mRange2, mEnum, mListOf, mIsi, wz_bor, wz_borT, wz_noEx, wz_bad, runD, mRepl, pickSem, own_ol, own_fr, own_un, lend_nil, lend_ol, lend_fr, lend_un, isT_str, isT_list, isT_tuple, isT_int, isT_bint, Bool.not_true, Bool.not_false, List.getElem?_cons_zero, List.getElem?_cons_succ, List.getElem?_nil, List.set_cons_zero, List.set_cons_succ, List.replicate_succ, List.replicate_zero, List.cons_append, List.nil_append, List.length_cons, List.length_nil, atI_0, atI_1, atI_2, atI_3, atI_4, ixN_30, ixN_31, ixN_32, szl_0, szl_1, szl_2, szl_3, szl_4, szl_5, szl_6, szl_7, szl_8, szl_9, szl_10, szl_11, szl_12, gd, dEq_i, dNe_i, dLt, dLe, dGt, dGe, dIx_l, dIx_t, Option.bind_some, if_pos, if_neg, if_true, if_false, Nat.zero_add, decide_true, decide_false, Int.toNat_zero, Int.toNat_one, dAdd_i, dSub_i, not_false_eq_true, ite_true, ite_false, Int.reduceLE, Int.reduceLT, Int.reduceNeg, Int.reduceAdd, Int.reduceSub, Int.reduceToNat, Nat.reduceAdd, Nat.reduceLT, Nat.reduceLeDiff, Int.reduceEq, Nat.reduceEqDiff, Int.reduceMul, ↓reduceIte, Int.cast_ofNat_Int, mComp]
  refine comp_enc enc (fun r => .str (out r)) rfl hl (fun r hr => ?_) ?_
  · simp -implicitDefEqProofs only [mSeq, mDo, mRet, mRetN, mSet, mOwn, mKill, mAug, gT, gTs, gTup, mAsg, mOwnM, mApp, mExt, isOl, appT, extT, setT, gIx, mOIx, mOLen, mFreeze, mRetO, mFor, wz_bnd, wz_ok, ret, bad, optM, mVar, mNil, mCons, asB, ofB, mNo, mSome, mSl, mIf, mAnd, mOr, mNot, mChain, mTup, mLst, mFz, mCall, mMeth, mNeg, mIsN, mMs, mAndV, mOrV, mBin, mIter, itemsOf, mRange1, mRange2, mEnum, mListOf, mIsi, wz_bor, wz_borT, wz_noEx, wz_bad, runD, mRepl, pickSem, own_ol, own_fr, own_un, lend_nil, lend_ol, lend_fr, lend_un, isT_str, isT_list, isT_tuple, isT_int, isT_bint, Bool.not_true, Bool.not_false, List.getElem?_cons_zero, List.getElem?_cons_succ, List.getElem?_nil, List.set_cons_zero, List.set_cons_succ, List.replicate_succ, List.replicate_zero, List.cons_append, List.nil_append, List.length_cons, List.length_nil, atI_0, atI_1, atI_2, atI_3, atI_4, ixN_30, ixN_31, ixN_32, szl_0, szl_1, szl_2, szl_3, szl_4, szl_5, szl_6, szl_7, szl_8, szl_9, szl_10, szl_11, szl_12, gd, dEq_i, dNe_i, dLt, dLe, dGt, dGe, dIx_l, dIx_t, Option.bind_some, if_pos, if_neg, if_true, if_false, Nat.zero_add, decide_true, decide_false, Int.toNat_zero, Int.toNat_one, dAdd_i, dSub_i, not_false_eq_true, ite_true, ite_false, Int.reduceLE, Int.reduceLT, Int.reduceNeg, Int.reduceAdd, Int.reduceSub, Int.reduceToNat, Nat.reduceAdd, Nat.reduceLT, Nat.reduceLeDiff, Int.reduceEq, Nat.reduceEqDiff, Int.reduceMul, ↓reduceIte, Int.cast_ofNat_Int, killS]
    exact callP_1 rfl (hs r hr) ⟨rfl, rfl⟩
  · exact wz_imp key fun fl l e => ⟨_, e, rfl⟩
def seenS (r : St) : Str := stepS r ++ "=" ++ numS r.m
def showS (r : St) : Str := sgS r.w ++ "=" ++ numS r.m
theorem len_eqS : Str.length (Str.ofString "=") = 1 := rfl
theorem len_seen {r : St} (h : Nm r.n) (h2 : Tri r.m) : (seenS r).length ≤ 50 := by
  have := len_step h
  have := len_tri h2
  have := len_eqS
  unfold seenS
  rw [len_app, len_app]
  omega
theorem len_show {r : St} (h2 : Tri r.m) : (showS r).length ≤ 10 := by
  have := len_sg r.w
  have := len_tri h2
  have := len_eqS
  unfold showS
  rw [len_app, len_app]
  omega
theorem seen_text_ok (N : Nat) {rs : List St} (hg : ∀ r ∈ rs, Nm r.n ∧ Tri r.m) (hw : Words (rs.map seenS)) : wz (z_w_seen_text N [.fr (.list (rs.map rowD))]) fun fl _ => fl = .rt (.str (listS (rs.map seenS))) := by
  have hl : rs.length ≤ sizeLine := by have := hw.1; rw [List.length_map] at this; rw [sizeLine_v]; omega
  have key : wz (z_w_list_text N [.fr (.list (rs.map fun r => .str (seenS r)))]) fun fl _ => fl = .rt (.str (listS (rs.map seenS))) := by
    have := list_text_ok N hw
    rw [List.map_map] at this
    exact this
  simp -implicitDefEqProofs only [mSeq, mDo, mRet, mRetN, mSet, mOwn, mKill, mAug, gT, gTs, gTup, mAsg, mOwnM, mApp, mExt, isOl, appT, extT, setT, gIx, mOIx, mOLen, mFreeze, mRetO, mFor, wz_bnd, wz_ok, ret, bad, optM, mVar, mNil, mCons, asB, ofB, mNo, mSome, mSl, mIf, mAnd, mOr, mNot, mChain, mTup, mLst, mFz, mCall, mMeth, mNeg, mIsN, mMs, mAndV, mOrV, mBin, mIter, itemsOf, mRange1, mRange2, mEnum, mListOf, mIsi, wz_bor, wz_borT, wz_noEx, wz_bad, runD, mRepl, pickSem, own_ol, own_fr, own_un, lend_nil, lend_ol, lend_fr, lend_un, isT_str, isT_list, isT_tuple, isT_int, isT_bint, Bool.not_true, Bool.not_false, List.getElem?_cons_zero, List.getElem?_cons_succ, List.getElem?_nil, List.set_cons_zero, List.set_cons_succ, List.replicate_succ, List.replicate_zero, List.cons_append, List.nil_append, List.length_cons, List.length_nil, atI_0, atI_1, atI_2, atI_3, atI_4, ixN_30, ixN_31, ixN_32, szl_0, szl_1, szl_2, szl_3, szl_4, szl_5, szl_6, szl_7, szl_8, szl_9, szl_10, szl_11, szl_12, gd, dEq_i, dNe_i, dLt, dLe, dGt, dGe, dIx_l, dIx_t, Option.bind_some, if_pos, if_neg, if_true, if_false, Nat.zero_add, decide_true, decide_false, Int.toNat_zero, Int.toNat_one, dAdd_i, dSub_i, not_false_eq_true, ite_true, ite_false, Int.reduceLE, Int.reduceLT, Int.reduceNeg, Int.reduceAdd, Int.reduceSub, Int.reduceToNat, Nat.reduceAdd, Nat.reduceLT, Nat.reduceLeDiff, Int.reduceEq, Nat.reduceEqDiff, Int.reduceMul, ↓reduceIte, Int.cast_ofNat_Int, z_w_seen_text, b_w_seen_text]
  refine callF_1 ?_
  simp -implicitDefEqProofs only [mSeq, mDo, mRet, mRetN, mSet, mOwn, mKill, mAug, gT, gTs, gTup, mAsg, mOwnM, mApp, mExt, isOl, appT, extT, setT, gIx, mOIx, mOLen, mFreeze, mRetO, mFor, wz_bnd, wz_ok, ret, bad, optM, mVar, mNil, mCons, asB, ofB, mNo, mSome, mSl, mIf, mAnd, mOr, mNot, mChain, mTup, mLst, mFz, mCall, mMeth, mNeg, mIsN, mMs, mAndV, mOrV, mBin, mIter, itemsOf, mRange1, mRange2, mEnum, mListOf, mIsi, wz_bor, wz_borT, wz_noEx, wz_bad, runD, mRepl, pickSem, own_ol, own_fr, own_un, lend_nil, lend_ol, lend_fr, lend_un, isT_str, isT_list, isT_tuple, isT_int, isT_bint, Bool.not_true, Bool.not_false, List.getElem?_cons_zero, List.getElem?_cons_succ, List.getElem?_nil, List.set_cons_zero, List.set_cons_succ, List.replicate_succ, List.replicate_zero, List.cons_append, List.nil_append, List.length_cons, List.length_nil, atI_0, atI_1, atI_2, atI_3, atI_4, ixN_30, ixN_31, ixN_32, szl_0, szl_1, szl_2, szl_3, szl_4, szl_5, szl_6, szl_7, szl_8, szl_9, szl_10, szl_11, szl_12, gd, dEq_i, dNe_i, dLt, dLe, dGt, dGe, dIx_l, dIx_t, Option.bind_some, if_pos, if_neg, if_true, if_false, Nat.zero_add, decide_true, decide_false, Int.toNat_zero, Int.toNat_one, dAdd_i, dSub_i, not_false_eq_true, ite_true, ite_false, Int.reduceLE, Int.reduceLT, Int.reduceNeg, Int.reduceAdd, Int.reduceSub, Int.reduceToNat, Nat.reduceAdd, Nat.reduceLT, Nat.reduceLeDiff, Int.reduceEq, Nat.reduceEqDiff, Int.reduceMul, ↓reduceIte, Int.cast_ofNat_Int, mComp]
  refine comp_enc rowD (fun r => .str (seenS r)) rfl hl (fun r hr => ?_) ?_
  · obtain ⟨h1, h2⟩ := hg r hr
    have l1 := len_step h1
    have l2 := len_tri h2
    have l3 := len_seen h1 h2
    have a1 : dAdd (.str (stepS r)) (.str "=") = some (.str (stepS r ++ "=")) := add_str (by rw [len_eqS]; omega)
    have a2 : dAdd (.str (stepS r ++ "=")) (.str (numS r.m)) = some (.str (seenS r)) := add_str (by rw [len_app, len_eqS]; omega)
    simp -implicitDefEqProofs only [mSeq, mDo, mRet, mRetN, mSet, mOwn, mKill, mAug, gT, gTs, gTup, mAsg, mOwnM, mApp, mExt, isOl, appT, extT, setT, gIx, mOIx, mOLen, mFreeze, mRetO, mFor, wz_bnd, wz_ok, ret, bad, optM, mVar, mNil, mCons, asB, ofB, mNo, mSome, mSl, mIf, mAnd, mOr, mNot, mChain, mTup, mLst, mFz, mCall, mMeth, mNeg, mIsN, mMs, mAndV, mOrV, mBin, mIter, itemsOf, mRange1, mRange2, mEnum, mListOf, mIsi, wz_bor, wz_borT, wz_noEx, wz_bad, runD, mRepl, pickSem, own_ol, own_fr, own_un, lend_nil, lend_ol, lend_fr, lend_un, isT_str, isT_list, isT_tuple, isT_int, isT_bint, Bool.not_true, Bool.not_false, List.getElem?_cons_zero, List.getElem?_cons_succ, List.getElem?_nil, List.set_cons_zero, List.set_cons_succ, List.replicate_succ, List.replicate_zero, List.cons_append, List.nil_append, List.length_cons, List.length_nil, atI_0, atI_1, atI_2, atI_3, atI_4, ixN_30, ixN_31, ixN_32, szl_0, szl_1, szl_2, szl_3, szl_4, szl_5, szl_6, szl_7, szl_8, szl_9, szl_10, szl_11, szl_12, gd, dEq_i, dNe_i, dLt, dLe, dGt, dGe, dIx_l, dIx_t, Option.bind_some, if_pos, if_neg, if_true, if_false, Nat.zero_add, decide_true, decide_false, Int.toNat_zero, Int.toNat_one, dAdd_i, dSub_i, not_false_eq_true, ite_true, ite_false, Int.reduceLE, Int.reduceLT, Int.reduceNeg, Int.reduceAdd, Int.reduceSub, Int.reduceToNat, Nat.reduceAdd, Nat.reduceLT, Nat.reduceLeDiff, Int.reduceEq, Nat.reduceEqDiff, Int.reduceMul, ↓reduceIte, Int.cast_ofNat_Int, killS]
    refine callF_1 ?_
    simp -implicitDefEqProofs only [mSeq, mDo, mRet, mRetN, mSet, mOwn, mKill, mAug, gT, gTs, gTup, mAsg, mOwnM, mApp, mExt, isOl, appT, extT, setT, gIx, mOIx, mOLen, mFreeze, mRetO, mFor, wz_bnd, wz_ok, ret, bad, optM, mVar, mNil, mCons, asB, ofB, mNo, mSome, mSl, mIf, mAnd, mOr, mNot, mChain, mTup, mLst, mFz, mCall, mMeth, mNeg, mIsN, mMs, mAndV, mOrV, mBin, mIter, itemsOf, mRange1, mRange2, mEnum, mListOf, mIsi, wz_bor, wz_borT, wz_noEx, wz_bad, runD, mRepl, pickSem, own_ol, own_fr, own_un, lend_nil, lend_ol, lend_fr, lend_un, isT_str, isT_list, isT_tuple, isT_int, isT_bint, Bool.not_true, Bool.not_false, List.getElem?_cons_zero, List.getElem?_cons_succ, List.getElem?_nil, List.set_cons_zero, List.set_cons_succ, List.replicate_succ, List.replicate_zero, List.cons_append, List.nil_append, List.length_cons, List.length_nil, atI_0, atI_1, atI_2, atI_3, atI_4, ixN_30, ixN_31, ixN_32, szl_0, szl_1, szl_2, szl_3, szl_4, szl_5, szl_6, szl_7, szl_8, szl_9, szl_10, szl_11, szl_12, gd, dEq_i, dNe_i, dLt, dLe, dGt, dGe, dIx_l, dIx_t, Option.bind_some, if_pos, if_neg, if_true, if_false, Nat.zero_add, decide_true, decide_false, Int.toNat_zero, Int.toNat_one, dAdd_i, dSub_i, not_false_eq_true, ite_true, ite_false, Int.reduceLE, Int.reduceLT, Int.reduceNeg, Int.reduceAdd, Int.reduceSub, Int.reduceToNat, Nat.reduceAdd, Nat.reduceLT, Nat.reduceLeDiff, Int.reduceEq, Nat.reduceEqDiff, Int.reduceMul, ↓reduceIte, Int.cast_ofNat_Int, rowD, sl3p]
    refine wz_imp (step_text_p N h1) fun fl l e => ⟨_, e, ?_⟩
    simp -implicitDefEqProofs only [mSeq, mDo, mRet, mRetN, mSet, mOwn, mKill, mAug, gT, gTs, gTup, mAsg, mOwnM, mApp, mExt, isOl, appT, extT, setT, gIx, mOIx, mOLen, mFreeze, mRetO, mFor, wz_bnd, wz_ok, ret, bad, optM, mVar, mNil, mCons, asB, ofB, mNo, mSome, mSl, mIf, mAnd, mOr, mNot, mChain, mTup, mLst, mFz, mCall, mMeth, mNeg, mIsN, mMs, mAndV, mOrV, mBin, mIter, itemsOf, mRange1, mRange2, mEnum, mListOf, mIsi, wz_bor, wz_borT, wz_noEx, wz_bad, runD, mRepl, pickSem, own_ol, own_fr, own_un, lend_nil, lend_ol, lend_fr, lend_un, isT_str, isT_list, isT_tuple, isT_int, isT_bint, Bool.not_true, Bool.not_false, List.getElem?_cons_zero, List.getElem?_cons_succ, List.getElem?_nil, List.set_cons_zero, List.set_cons_succ, List.replicate_succ, List.replicate_zero, List.cons_append, List.nil_append, List.length_cons, List.length_nil, atI_0, atI_1, atI_2, atI_3, atI_4, ixN_30, ixN_31, ixN_32, szl_0, szl_1, szl_2, szl_3, szl_4, szl_5, szl_6, szl_7, szl_8, szl_9, szl_10, szl_11, szl_12, gd, dEq_i, dNe_i, dLt, dLe, dGt, dGe, dIx_l, dIx_t, Option.bind_some, if_pos, if_neg, if_true, if_false, Nat.zero_add, decide_true, decide_false, Int.toNat_zero, Int.toNat_one, dAdd_i, dSub_i, not_false_eq_true, ite_true, ite_false, Int.reduceLE, Int.reduceLT, Int.reduceNeg, Int.reduceAdd, Int.reduceSub, Int.reduceToNat, Nat.reduceAdd, Nat.reduceLT, Nat.reduceLeDiff, Int.reduceEq, Nat.reduceEqDiff, Int.reduceMul, ↓reduceIte, Int.cast_ofNat_Int, a1, str_tri h2, a2]
    trivial
  · exact wz_imp key fun fl l e => ⟨_, e, rfl⟩
theorem shows_text_ok (N : Nat) {rs : List St} (hg : ∀ r ∈ rs, Tri r.m) (hw : Words (rs.map showS)) : wz (z_w_shows_text N [.fr (.list (rs.map showD))]) fun fl _ => fl = .rt (.str (listS (rs.map showS))) := by
  have hl : rs.length ≤ sizeLine := by have := hw.1; rw [List.length_map] at this; rw [sizeLine_v]; omega
  have key : wz (z_w_list_text N [.fr (.list (rs.map fun r => .str (showS r)))]) fun fl _ => fl = .rt (.str (listS (rs.map showS))) := by
    have := list_text_ok N hw
    rw [List.map_map] at this
    exact this
  simp -implicitDefEqProofs only [mSeq, mDo, mRet, mRetN, mSet, mOwn, mKill, mAug, gT, gTs, gTup, mAsg, mOwnM, mApp, mExt, isOl, appT, extT, setT, gIx, mOIx, mOLen, mFreeze, mRetO, mFor, wz_bnd, wz_ok, ret, bad, optM, mVar, mNil, mCons, asB, ofB, mNo, mSome, mSl, mIf, mAnd, mOr, mNot, mChain, mTup, mLst, mFz, mCall, mMeth, mNeg, mIsN, mMs, mAndV, mOrV, mBin, mIter, itemsOf, mRange1, mRange2, mEnum, mListOf, mIsi, wz_bor, wz_borT, wz_noEx, wz_bad, runD, mRepl, pickSem, own_ol, own_fr, own_un, lend_nil, lend_ol, lend_fr, lend_un, isT_str, isT_list, isT_tuple, isT_int, isT_bint, Bool.not_true, Bool.not_false, List.getElem?_cons_zero, List.getElem?_cons_succ, List.getElem?_nil, List.set_cons_zero, List.set_cons_succ, List.replicate_succ, List.replicate_zero, List.cons_append, List.nil_append, List.length_cons, List.length_nil, atI_0, atI_1, atI_2, atI_3, atI_4, ixN_30, ixN_31, ixN_32, szl_0, szl_1, szl_2, szl_3, szl_4, szl_5, szl_6, szl_7, szl_8, szl_9, szl_10, szl_11, szl_12, gd, dEq_i, dNe_i, dLt, dLe, dGt, dGe, dIx_l, dIx_t, Option.bind_some, if_pos, if_neg, if_true, if_false, Nat.zero_add, decide_true, decide_false, Int.toNat_zero, Int.toNat_one, dAdd_i, dSub_i, not_false_eq_true, ite_true, ite_false, Int.reduceLE, Int.reduceLT, Int.reduceNeg, Int.reduceAdd, Int.reduceSub, Int.reduceToNat, Nat.reduceAdd, Nat.reduceLT, Nat.reduceLeDiff, Int.reduceEq, Nat.reduceEqDiff, Int.reduceMul, ↓reduceIte, Int.cast_ofNat_Int, z_w_shows_text, b_w_shows_text]
  refine callF_1 ?_
  simp -implicitDefEqProofs only [mSeq, mDo, mRet, mRetN, mSet, mOwn, mKill, mAug, gT, gTs, gTup, mAsg, mOwnM, mApp, mExt, isOl, appT, extT, setT, gIx, mOIx, mOLen, mFreeze, mRetO, mFor, wz_bnd, wz_ok, ret, bad, optM, mVar, mNil, mCons, asB, ofB, mNo, mSome, mSl, mIf, mAnd, mOr, mNot, mChain, mTup, mLst, mFz, mCall, mMeth, mNeg, mIsN, mMs, mAndV, mOrV, mBin, mIter, itemsOf, mRange1, mRange2, mEnum, mListOf, mIsi, wz_bor, wz_borT, wz_noEx, wz_bad, runD, mRepl, pickSem, own_ol, own_fr, own_un, lend_nil, lend_ol, lend_fr, lend_un, isT_str, isT_list, isT_tuple, isT_int, isT_bint, Bool.not_true, Bool.not_false, List.getElem?_cons_zero, List.getElem?_cons_succ, List.getElem?_nil, List.set_cons_zero, List.set_cons_succ, List.replicate_succ, List.replicate_zero, List.cons_append, List.nil_append, List.length_cons, List.length_nil, atI_0, atI_1, atI_2, atI_3, atI_4, ixN_30, ixN_31, ixN_32, szl_0, szl_1, szl_2, szl_3, szl_4, szl_5, szl_6, szl_7, szl_8, szl_9, szl_10, szl_11, szl_12, gd, dEq_i, dNe_i, dLt, dLe, dGt, dGe, dIx_l, dIx_t, Option.bind_some, if_pos, if_neg, if_true, if_false, Nat.zero_add, decide_true, decide_false, Int.toNat_zero, Int.toNat_one, dAdd_i, dSub_i, not_false_eq_true, ite_true, ite_false, Int.reduceLE, Int.reduceLT, Int.reduceNeg, Int.reduceAdd, Int.reduceSub, Int.reduceToNat, Nat.reduceAdd, Nat.reduceLT, Nat.reduceLeDiff, Int.reduceEq, Nat.reduceEqDiff, Int.reduceMul, ↓reduceIte, Int.cast_ofNat_Int, mComp]
  refine comp_enc showD (fun r => .str (showS r)) rfl hl (fun r hr => ?_) ?_
  · have h2 := hg r hr
    have l1 := len_sg r.w
    have l2 := len_tri h2
    have l3 := len_show h2
    have a1 : dAdd (.str (sgS r.w)) (.str "=") = some (.str (sgS r.w ++ "=")) := add_str (by rw [len_eqS]; omega)
    have a2 : dAdd (.str (sgS r.w ++ "=")) (.str (numS r.m)) = some (.str (showS r)) := add_str (by rw [len_app, len_eqS]; omega)
    simp -implicitDefEqProofs only [mSeq, mDo, mRet, mRetN, mSet, mOwn, mKill, mAug, gT, gTs, gTup, mAsg, mOwnM, mApp, mExt, isOl, appT, extT, setT, gIx, mOIx, mOLen, mFreeze, mRetO, mFor, wz_bnd, wz_ok, ret, bad, optM, mVar, mNil, mCons, asB, ofB, mNo, mSome, mSl, mIf, mAnd, mOr, mNot, mChain, mTup, mLst, mFz, mCall, mMeth, mNeg, mIsN, mMs, mAndV, mOrV, mBin, mIter, itemsOf, mRange1, mRange2, mEnum, mListOf, mIsi, wz_run, wz_bor, wz_borT, wz_noEx, wz_bad, aNil, aFr, aSlO, argSV, argSVs, slAt, backD, flD, flN, mCallD, mCallN, runD, mRepl, pickSem, mIxCallD, mIxCallN, own_ol, own_fr, own_un, lend_nil, lend_ol, lend_fr, lend_un, isT_str, isT_list, isT_tuple, isT_int, isT_bint, Bool.not_true, Bool.not_false, List.getElem?_cons_zero, List.getElem?_cons_succ, List.getElem?_nil, List.set_cons_zero, List.set_cons_succ, List.replicate_succ, List.replicate_zero, List.cons_append, List.nil_append, List.length_cons, List.length_nil, atI_0, atI_1, atI_2, atI_3, atI_4, ixN_30, ixN_31, ixN_32, szl_0, szl_1, szl_2, szl_3, szl_4, szl_5, szl_6, szl_7, szl_8, szl_9, szl_10, szl_11, szl_12, gd, dEq_i, dNe_i, dLt, dLe, dGt, dGe, dIx_l, dIx_t, Option.bind_some, if_pos, if_neg, if_true, if_false, Nat.zero_add, decide_true, decide_false, Int.toNat_zero, Int.toNat_one, dAdd_i, dSub_i, not_false_eq_true, ite_true, ite_false, Int.reduceLE, Int.reduceLT, Int.reduceNeg, Int.reduceAdd, Int.reduceSub, Int.reduceToNat, Nat.reduceAdd, Nat.reduceLT, Nat.reduceLeDiff, Int.reduceEq, Nat.reduceEqDiff, Int.reduceMul, ↓reduceIte, Int.cast_ofNat_Int, killS, showD, sgD, decide_true, int_b, ix_pm, a1, str_tri h2, a2]
    trivial
  · exact wz_imp key fun fl l e => ⟨_, e, rfl⟩
/-- what the program shows: a list of words put together -/
theorem show_of (N : Nat) {rs : List St} {enc : St → D} {out : St → Str} {fi : M (List D)} {g : D → M Unit} {fe : M D} {ks : List Nat} {L : LS} (hw : Words (rs.map out)) (hk : killS ks L = L) (hfi : fi L = .ok (rs.map enc) L)
    (h : ∀ r, r ∈ rs → wz (g (enc r) L) fun _ l => wz (fe l) fun x l => x = .str (out r) ∧ killS ks l = L) : wz (mRet (mCallD false [] (z_listed N) (aFr (mFz (mComp ks fi g (ret true) fe)) aNil)) L) fun fl _ => fl = .rt (.str (listS (rs.map out))) := by
  have hl : rs.length ≤ sizeLine := by have := hw.1; rw [List.length_map] at this; rw [sizeLine_v]; omega
  have key : wz (z_listed N [.fr (.list (rs.map fun r => .str (out r)))]) fun fl _ => fl = .rt (.str (listS (rs.map out))) := by
    have := listed_ok N hw
    rw [List.map_map] at this
    exact this
  simp -implicitDefEqProofs only [mSeq, mDo, mRet, mRetN, mSet, mOwn, mKill, mAug, gT, gTs, gTup, mAsg, mOwnM, mApp, mExt, isOl, appT, extT, setT, gIx, mOIx, mOLen, mFreeze, mRetO, mFor, wz_bnd, wz_ok, ret, bad, optM, mVar, mNil, mCons, asB, ofB, mNo, mSome, mSl, mIf, mAnd, mOr, mNot, mChain, mTup, mLst, mFz, mCall, mMeth, mNeg, mIsN, mMs, mAndV, mOrV, mBin, mIter, itemsOf, mRange1, mRange2, mEnum, mListOf, mIsi, wz_bor, wz_borT, wz_noEx, wz_bad, runD, mRepl, pickSem, own_ol, own_fr, own_un, lend_nil, lend_ol, lend_fr, lend_un, isT_str, isT_list, isT_tuple, isT_int, isT_bint, Bool.not_true, Bool.not_false, List.getElem?_cons_zero, List.getElem?_cons_succ, List.getElem?_nil, List.set_cons_zero, List.set_cons_succ, List.replicate_succ, List.replicate_zero, List.cons_append, List.nil_append, List.length_cons, List.length_nil, atI_0, atI_1, atI_2, atI_3, atI_4, ixN_30, ixN_31, ixN_32, szl_0, szl_1, szl_2, szl_3, szl_4, szl_5, szl_6, szl_7, szl_8, szl_9, szl_10, szl_11, szl_12, gd, dEq_i, dNe_i, dLt, dLe, dGt, dGe, dIx_l, dIx_t, Option.bind_some, if_pos, if_neg, if_true, if_false, Nat.zero_add, decide_true, decide_false, Int.toNat_zero, Int.toNat_one, dAdd_i, dSub_i, not_false_eq_true, ite_true, ite_false, Int.reduceLE, Int.reduceLT, Int.reduceNeg, Int.reduceAdd, Int.reduceSub, Int.reduceToNat, Nat.reduceAdd, Nat.reduceLT, Nat.reduceLeDiff, Int.reduceEq, Nat.reduceEqDiff, Int.reduceMul, ↓reduceIte, Int.cast_ofNat_Int]
  refine callF_1 ?_
  simp -implicitDefEqProofs only [mSeq, mDo, mRet, mRetN, mSet, mOwn, mKill, mAug, gT, gTs, gTup, mAsg, mOwnM, mApp, mExt, isOl, appT, extT, setT, gIx, mOIx, mOLen, mFreeze, mRetO, mFor, wz_bnd, wz_ok, ret, bad, optM, mVar, mNil, mCons, asB, ofB, mNo, mSome, mSl, mIf, mAnd, mOr, mNot, mChain, mTup, mLst, mFz, mCall, mMeth, mNeg, mIsN, mMs, mAndV, mOrV, mBin, mIter, itemsOf, mRange1, mRange2, mEnum, mListOf, mIsi, wz_bor, wz_borT, wz_noEx, wz_bad, runD, mRepl, pickSem, own_ol, own_fr, own_un, lend_nil, lend_ol, lend_fr, lend_un, isT_str, isT_list, isT_tuple, isT_int, isT_bint, Bool.not_true, Bool.not_false, List.getElem?_cons_zero, List.getElem?_cons_succ, List.getElem?_nil, List.set_cons_zero, List.set_cons_succ, List.replicate_succ, List.replicate_zero, List.cons_append, List.nil_append, List.length_cons, List.length_nil, atI_0, atI_1, atI_2, atI_3, atI_4, ixN_30, ixN_31, ixN_32, szl_0, szl_1, szl_2, szl_3, szl_4, szl_5, szl_6, szl_7, szl_8, szl_9, szl_10, szl_11, szl_12, gd, dEq_i, dNe_i, dLt, dLe, dGt, dGe, dIx_l, dIx_t, Option.bind_some, if_pos, if_neg, if_true, if_false, Nat.zero_add, decide_true, decide_false, Int.toNat_zero, Int.toNat_one, dAdd_i, dSub_i, not_false_eq_true, ite_true, ite_false, Int.reduceLE, Int.reduceLT, Int.reduceNeg, Int.reduceAdd, Int.reduceSub, Int.reduceToNat, Nat.reduceAdd, Nat.reduceLT, Nat.reduceLeDiff, Int.reduceEq, Nat.reduceEqDiff, Int.reduceMul, ↓reduceIte, Int.cast_ofNat_Int, mComp, hfi]
  refine comp_enc enc (fun r => .str (out r)) hk hl h ?_
  exact wz_imp key fun fl l e => ⟨_, e, rfl⟩
theorem show_row_ok (N : Nat) {rs : List St} (hg : ∀ r ∈ rs, Nm r.n ∧ Nm r.m) (hw : Words (rs.map deedS)) : wz (z_show_row N [.fr (.list (rs.map rowD))]) fun fl _ => fl = .rt (.str (listS (rs.map deedS))) := by
  unfold z_show_row runD b_show_row
  refine show_of N (enc := rowD) (out := deedS) hw rfl rfl fun r hr => ?_
  obtain ⟨h1, h2⟩ := hg r hr
  simp -implicitDefEqProofs only [mSeq, mDo, mRet, mRetN, mSet, mOwn, mKill, mAug, gT, gTs, gTup, mAsg, mOwnM, mApp, mExt, isOl, appT, extT, setT, gIx, mOIx, mOLen, mFreeze, mRetO, mFor, wz_bnd, wz_ok, ret, bad, optM, mVar, mNil, mCons, asB, ofB, mNo, mSome, mSl, mIf, mAnd, mOr, mNot, mChain, mTup, mLst, mFz, mCall, mMeth, mNeg, mIsN, mMs, mAndV, mOrV, mBin, mIter, itemsOf, mRange1, mRange2, mEnum, mListOf, mIsi, wz_bor, wz_borT, wz_noEx, wz_bad, runD, mRepl, pickSem, own_ol, own_fr, own_un, lend_nil, lend_ol, lend_fr, lend_un, isT_str, isT_list, isT_tuple, isT_int, isT_bint, Bool.not_true, Bool.not_false, List.getElem?_cons_zero, List.getElem?_cons_succ, List.getElem?_nil, List.set_cons_zero, List.set_cons_succ, List.replicate_succ, List.replicate_zero, List.cons_append, List.nil_append, List.length_cons, List.length_nil, atI_0, atI_1, atI_2, atI_3, atI_4, ixN_30, ixN_31, ixN_32, szl_0, szl_1, szl_2, szl_3, szl_4, szl_5, szl_6, szl_7, szl_8, szl_9, szl_10, szl_11, szl_12, gd, dEq_i, dNe_i, dLt, dLe, dGt, dGe, dIx_l, dIx_t, Option.bind_some, if_pos, if_neg, if_true, if_false, Nat.zero_add, decide_true, decide_false, Int.toNat_zero, Int.toNat_one, dAdd_i, dSub_i, not_false_eq_true, ite_true, ite_false, Int.reduceLE, Int.reduceLT, Int.reduceNeg, Int.reduceAdd, Int.reduceSub, Int.reduceToNat, Nat.reduceAdd, Nat.reduceLT, Nat.reduceLeDiff, Int.reduceEq, Nat.reduceEqDiff, Int.reduceMul, ↓reduceIte, Int.cast_ofNat_Int, killS]
  exact callP_1 rfl (step_shown_d N h1 (str_nm h2) (len_nm h2)) ⟨rfl, rfl⟩
theorem show_pushes_ok (N : Nat) {rs : List St} (hg : ∀ r ∈ rs, Nm r.n) (hw : Words (rs.map stepS)) : wz (z_show_pushes N [.fr (.list (rs.map pushD))]) fun fl _ => fl = .rt (.str (listS (rs.map stepS))) := by
  unfold z_show_pushes runD b_show_pushes
  refine show_of N (enc := pushD) (out := stepS) hw rfl rfl fun r hr => ?_
  simp -implicitDefEqProofs only [mSeq, mDo, mRet, mRetN, mSet, mOwn, mKill, mAug, gT, gTs, gTup, mAsg, mOwnM, mApp, mExt, isOl, appT, extT, setT, gIx, mOIx, mOLen, mFreeze, mRetO, mFor, wz_bnd, wz_ok, ret, bad, optM, mVar, mNil, mCons, asB, ofB, mNo, mSome, mSl, mIf, mAnd, mOr, mNot, mChain, mTup, mLst, mFz, mCall, mMeth, mNeg, mIsN, mMs, mAndV, mOrV, mBin, mIter, itemsOf, mRange1, mRange2, mEnum, mListOf, mIsi, wz_bor, wz_borT, wz_noEx, wz_bad, runD, mRepl, pickSem, own_ol, own_fr, own_un, lend_nil, lend_ol, lend_fr, lend_un, isT_str, isT_list, isT_tuple, isT_int, isT_bint, Bool.not_true, Bool.not_false, List.getElem?_cons_zero, List.getElem?_cons_succ, List.getElem?_nil, List.set_cons_zero, List.set_cons_succ, List.replicate_succ, List.replicate_zero, List.cons_append, List.nil_append, List.length_cons, List.length_nil, atI_0, atI_1, atI_2, atI_3, atI_4, ixN_30, ixN_31, ixN_32, szl_0, szl_1, szl_2, szl_3, szl_4, szl_5, szl_6, szl_7, szl_8, szl_9, szl_10, szl_11, szl_12, gd, dEq_i, dNe_i, dLt, dLe, dGt, dGe, dIx_l, dIx_t, Option.bind_some, if_pos, if_neg, if_true, if_false, Nat.zero_add, decide_true, decide_false, Int.toNat_zero, Int.toNat_one, dAdd_i, dSub_i, not_false_eq_true, ite_true, ite_false, Int.reduceLE, Int.reduceLT, Int.reduceNeg, Int.reduceAdd, Int.reduceSub, Int.reduceToNat, Nat.reduceAdd, Nat.reduceLT, Nat.reduceLeDiff, Int.reduceEq, Nat.reduceEqDiff, Int.reduceMul, ↓reduceIte, Int.cast_ofNat_Int, killS]
  exact callP_1 rfl (step_shown_p N (hg r hr)) ⟨rfl, rfl⟩
theorem show_shown_ok (N : Nat) {rs : List St} (hg : ∀ r ∈ rs, Nm r.n ∧ Tri r.m) (hw : Words (rs.map seenS)) : wz (z_show_shown N [.fr (.list (rs.map rowD))]) fun fl _ => fl = .rt (.str (listS (rs.map seenS))) := by
  unfold z_show_shown runD b_show_shown
  refine show_of N (enc := rowD) (out := seenS) hw rfl rfl fun r hr => ?_
  obtain ⟨h1, h2⟩ := hg r hr
  have l0 := len_nm h1
  have l00 := len_sg r.w
  have l1 := len_step h1
  have l2 := len_tri h2
  have l3 := len_seen h1 h2
  have a0 : dAdd (.str (numS r.n)) (.str (sgS r.w)) = some (.str (stepS r)) := add_str (by omega)
  have a1 : dAdd (.str (stepS r)) (.str "=") = some (.str (stepS r ++ "=")) := add_str (by rw [len_eqS]; omega)
  have a2 : dAdd (.str (stepS r ++ "=")) (.str (numS r.m)) = some (.str (seenS r)) := add_str (by rw [len_app, len_eqS]; omega)
  simp -implicitDefEqProofs only [mSeq, mDo, mRet, mRetN, mSet, mOwn, mKill, mAug, gT, gTs, gTup, mAsg, mOwnM, mApp, mExt, isOl, appT, extT, setT, gIx, mOIx, mOLen, mFreeze, mRetO, mFor, wz_bnd, wz_ok, ret, bad, optM, mVar, mNil, mCons, asB, ofB, mNo, mSome, mSl, mIf, mAnd, mOr, mNot, mChain, mTup, mLst, mFz, mCall, mMeth, mNeg, mIsN, mMs, mAndV, mOrV, mBin, mIter, itemsOf, mRange1, mRange2, mEnum, mListOf, mIsi, wz_bor, wz_borT, wz_noEx, wz_bad, runD, mRepl, pickSem, own_ol, own_fr, own_un, lend_nil, lend_ol, lend_fr, lend_un, isT_str, isT_list, isT_tuple, isT_int, isT_bint, Bool.not_true, Bool.not_false, List.getElem?_cons_zero, List.getElem?_cons_succ, List.getElem?_nil, List.set_cons_zero, List.set_cons_succ, List.replicate_succ, List.replicate_zero, List.cons_append, List.nil_append, List.length_cons, List.length_nil, atI_0, atI_1, atI_2, atI_3, atI_4, ixN_30, ixN_31, ixN_32, szl_0, szl_1, szl_2, szl_3, szl_4, szl_5, szl_6, szl_7, szl_8, szl_9, szl_10, szl_11, szl_12, gd, dEq_i, dNe_i, dLt, dLe, dGt, dGe, dIx_l, dIx_t, Option.bind_some, if_pos, if_neg, if_true, if_false, Nat.zero_add, decide_true, decide_false, Int.toNat_zero, Int.toNat_one, dAdd_i, dSub_i, not_false_eq_true, ite_true, ite_false, Int.reduceLE, Int.reduceLT, Int.reduceNeg, Int.reduceAdd, Int.reduceSub, Int.reduceToNat, Nat.reduceAdd, Nat.reduceLT, Nat.reduceLeDiff, Int.reduceEq, Nat.reduceEqDiff, Int.reduceMul, ↓reduceIte, Int.cast_ofNat_Int, killS, rowD, sgD, decide_true, str_nm h1]
  refine callP_1 rfl (way_shown_ok N r.w) ?_
  simp -implicitDefEqProofs only [mSeq, mDo, mRet, mRetN, mSet, mOwn, mKill, mAug, gT, gTs, gTup, mAsg, mOwnM, mApp, mExt, isOl, appT, extT, setT, gIx, mOIx, mOLen, mFreeze, mRetO, mFor, wz_bnd, wz_ok, ret, bad, optM, mVar, mNil, mCons, asB, ofB, mNo, mSome, mSl, mIf, mAnd, mOr, mNot, mChain, mTup, mLst, mFz, mCall, mMeth, mNeg, mIsN, mMs, mAndV, mOrV, mBin, mIter, itemsOf, mRange1, mRange2, mEnum, mListOf, mIsi, wz_bor, wz_borT, wz_noEx, wz_bad, runD, mRepl, pickSem, own_ol, own_fr, own_un, lend_nil, lend_ol, lend_fr, lend_un, isT_str, isT_list, isT_tuple, isT_int, isT_bint, Bool.not_true, Bool.not_false, List.getElem?_cons_zero, List.getElem?_cons_succ, List.getElem?_nil, List.set_cons_zero, List.set_cons_succ, List.replicate_succ, List.replicate_zero, List.cons_append, List.nil_append, List.length_cons, List.length_nil, atI_0, atI_1, atI_2, atI_3, atI_4, ixN_30, ixN_31, ixN_32, szl_0, szl_1, szl_2, szl_3, szl_4, szl_5, szl_6, szl_7, szl_8, szl_9, szl_10, szl_11, szl_12, gd, dEq_i, dNe_i, dLt, dLe, dGt, dGe, dIx_l, dIx_t, Option.bind_some, if_pos, if_neg, if_true, if_false, Nat.zero_add, decide_true, decide_false, Int.toNat_zero, Int.toNat_one, dAdd_i, dSub_i, not_false_eq_true, ite_true, ite_false, Int.reduceLE, Int.reduceLT, Int.reduceNeg, Int.reduceAdd, Int.reduceSub, Int.reduceToNat, Nat.reduceAdd, Nat.reduceLT, Nat.reduceLeDiff, Int.reduceEq, Nat.reduceEqDiff, Int.reduceMul, ↓reduceIte, Int.cast_ofNat_Int, a0, a1, str_tri h2, a2]
  trivial
theorem show_shows_ok (N : Nat) {rs : List St} (hg : ∀ r ∈ rs, Tri r.m) (hw : Words (rs.map showS)) : wz (z_show_shows N [.fr (.list (rs.map showD))]) fun fl _ => fl = .rt (.str (listS (rs.map showS))) := by
  unfold z_show_shows runD b_show_shows
  refine show_of N (enc := showD) (out := showS) hw rfl rfl fun r hr => ?_
  have h2 := hg r hr
  have l1 := len_sg r.w
  have l2 := len_tri h2
  have l3 := len_show h2
  have a1 : dAdd (.str (sgS r.w)) (.str "=") = some (.str (sgS r.w ++ "=")) := add_str (by rw [len_eqS]; omega)
  have a2 : dAdd (.str (sgS r.w ++ "=")) (.str (numS r.m)) = some (.str (showS r)) := add_str (by rw [len_app, len_eqS]; omega)
  simp -implicitDefEqProofs only [mSeq, mDo, mRet, mRetN, mSet, mOwn, mKill, mAug, gT, gTs, gTup, mAsg, mOwnM, mApp, mExt, isOl, appT, extT, setT, gIx, mOIx, mOLen, mFreeze, mRetO, mFor, wz_bnd, wz_ok, ret, bad, optM, mVar, mNil, mCons, asB, ofB, mNo, mSome, mSl, mIf, mAnd, mOr, mNot, mChain, mTup, mLst, mFz, mCall, mMeth, mNeg, mIsN, mMs, mAndV, mOrV, mBin, mIter, itemsOf, mRange1, mRange2, mEnum, mListOf, mIsi, wz_bor, wz_borT, wz_noEx, wz_bad, runD, mRepl, pickSem, own_ol, own_fr, own_un, lend_nil, lend_ol, lend_fr, lend_un, isT_str, isT_list, isT_tuple, isT_int, isT_bint, Bool.not_true, Bool.not_false, List.getElem?_cons_zero, List.getElem?_cons_succ, List.getElem?_nil, List.set_cons_zero, List.set_cons_succ, List.replicate_succ, List.replicate_zero, List.cons_append, List.nil_append, List.length_cons, List.length_nil, atI_0, atI_1, atI_2, atI_3, atI_4, ixN_30, ixN_31, ixN_32, szl_0, szl_1, szl_2, szl_3, szl_4, szl_5, szl_6, szl_7, szl_8, szl_9, szl_10, szl_11, szl_12, gd, dEq_i, dNe_i, dLt, dLe, dGt, dGe, dIx_l, dIx_t, Option.bind_some, if_pos, if_neg, if_true, if_false, Nat.zero_add, decide_true, decide_false, Int.toNat_zero, Int.toNat_one, dAdd_i, dSub_i, not_false_eq_true, ite_true, ite_false, Int.reduceLE, Int.reduceLT, Int.reduceNeg, Int.reduceAdd, Int.reduceSub, Int.reduceToNat, Nat.reduceAdd, Nat.reduceLT, Nat.reduceLeDiff, Int.reduceEq, Nat.reduceEqDiff, Int.reduceMul, ↓reduceIte, Int.cast_ofNat_Int, killS, showD, sgD, decide_true]
  refine callP_1 rfl (way_shown_ok N r.w) ?_
  simp -implicitDefEqProofs only [mSeq, mDo, mRet, mRetN, mSet, mOwn, mKill, mAug, gT, gTs, gTup, mAsg, mOwnM, mApp, mExt, isOl, appT, extT, setT, gIx, mOIx, mOLen, mFreeze, mRetO, mFor, wz_bnd, wz_ok, ret, bad, optM, mVar, mNil, mCons, asB, ofB, mNo, mSome, mSl, mIf, mAnd, mOr, mNot, mChain, mTup, mLst, mFz, mCall, mMeth, mNeg, mIsN, mMs, mAndV, mOrV, mBin, mIter, itemsOf, mRange1, mRange2, mEnum, mListOf, mIsi, wz_bor, wz_borT, wz_noEx, wz_bad, runD, mRepl, pickSem, own_ol, own_fr, own_un, lend_nil, lend_ol, lend_fr, lend_un, isT_str, isT_list, isT_tuple, isT_int, isT_bint, Bool.not_true, Bool.not_false, List.getElem?_cons_zero, List.getElem?_cons_succ, List.getElem?_nil, List.set_cons_zero, List.set_cons_succ, List.replicate_succ, List.replicate_zero, List.cons_append, List.nil_append, List.length_cons, List.length_nil, atI_0, atI_1, atI_2, atI_3, atI_4, ixN_30, ixN_31, ixN_32, szl_0, szl_1, szl_2, szl_3, szl_4, szl_5, szl_6, szl_7, szl_8, szl_9, szl_10, szl_11, szl_12, gd, dEq_i, dNe_i, dLt, dLe, dGt, dGe, dIx_l, dIx_t, Option.bind_some, if_pos, if_neg, if_true, if_false, Nat.zero_add, decide_true, decide_false, Int.toNat_zero, Int.toNat_one, dAdd_i, dSub_i, not_false_eq_true, ite_true, ite_false, Int.reduceLE, Int.reduceLT, Int.reduceNeg, Int.reduceAdd, Int.reduceSub, Int.reduceToNat, Nat.reduceAdd, Nat.reduceLT, Nat.reduceLeDiff, Int.reduceEq, Nat.reduceEqDiff, Int.reduceMul, ↓reduceIte, Int.cast_ofNat_Int, a1, str_tri h2, a2]
  trivial
end Tz
namespace Tz
open PySem PySem.Spec PyProof.Rows L2
/-! ### reading -/
theorem shaped_str {x : Str} (h : okS x) : SeqAt.shaped (.str x) = true := by
  unfold SeqAt.shaped
  rw [strOk_of h]
  rfl
theorem eq_str {x y : Str} (h : okS x) (k : SeqAt.shaped (.str y) = true) : dEq (.str x) (.str y) = some (.bool (x == y)) := by
  unfold dEq
  rw [shaped_str h, k]
  rfl
theorem ne_str {x y : Str} (h : okS x) (k : SeqAt.shaped (.str y) = true) : dNe (.str x) (.str y) = some (.bool (!(x == y))) := by
  unfold dNe
  rw [shaped_str h, k]
  rfl
theorem okS_join : ∀ {ws : List Str}, (∀ w ∈ ws, okS w) → okS (Txt.join " " ws)
  | [], _ => fun c hc => by rw [TL.join_eq] at hc; cases hc
  | [w], h => by rw [TL.join_eq]; exact h w (List.mem_cons_self ..)
  | w :: v :: ws, h => by
    have ih := okS_join (ws := v :: ws) fun z hz => h z (List.mem_cons_of_mem _ hz)
    rw [TL.join_eq] at ih ⊢
    show okS (w ++ " " ++ Str.join " " (v :: ws))
    refine okS_app (okS_app (h w (List.mem_cons_self ..)) fun c hc => ?_) ih
    have : c = 32 := by simpa [TL.tl_ofString] using hc
    omega
theorem okS_list {ws : List Str} (h : Words ws) (hn : ws ≠ []) : okS (listS ws) := by
  cases ws with
  | nil => exact absurd rfl hn
  | cons w ws => exact okS_join fun z hz => (h.2 z hz).2.1
theorem sh_none : SeqAt.shaped (.str (Str.ofString "none")) = true := by decide +kernel
theorem eq_self (x : Str) (k : SeqAt.shaped (.str x) = true) : dEq (.str x) (.str x) = some (.bool true) := by
  unfold dEq
  rw [k]
  show some (PyData.bool (x == x)) = _
  rw [beq_self_eq_true]
theorem ne_none {x : Str} (h : okS x) : (x == Str.ofString "none") = false := by
  refine beq_eq_false_iff_ne.mpr fun e => ?_
  subst e
  have := h 110 (by rw [TL.tl_ofString]; decide)
  omega
theorem words_in_ok (N : Nat) {ws : List Str} (h : Words ws) : wz (z_words_in N [.fr (.str (listS ws))]) fun fl _ => fl = .rt (.list (ws.map .str)) := by
  cases ws with
  | nil =>
    have e : dEq (.str (listS [])) (.str "none") = some (.bool true) := eq_self _ sh_none
    simp -implicitDefEqProofs only [mSeq, mDo, mRet, mRetN, mSet, mOwn, mKill, mAug, gT, gTs, gTup, mAsg, mOwnM, mApp, mExt, isOl, appT, extT, setT, gIx, mOIx, mOLen, mFreeze, mRetO, mFor, wz_bnd, wz_ok, ret, bad, optM, mVar, mNil, mCons, asB, ofB, mNo, mSome, mSl, mIf, mAnd, mOr, mNot, mChain, mTup, mLst, mFz, mCall, mMeth, mNeg, mIsN, mMs, mAndV, mOrV, mBin, mIter, itemsOf, mRange1, mRange2, mEnum, mListOf, mIsi, wz_run, wz_bor, wz_borT, wz_noEx, wz_bad, aNil, aFr, aSlO, argSV, argSVs, slAt, backD, flD, flN, mCallD, mCallN, runD, mRepl, pickSem, mIxCallD, mIxCallN, own_ol, own_fr, own_un, lend_nil, lend_ol, lend_fr, lend_un, isT_str, isT_list, isT_tuple, isT_int, isT_bint, Bool.not_true, Bool.not_false, List.getElem?_cons_zero, List.getElem?_cons_succ, List.getElem?_nil, List.set_cons_zero, List.set_cons_succ, List.replicate_succ, List.replicate_zero, List.cons_append, List.nil_append, List.length_cons, List.length_nil, atI_0, atI_1, atI_2, atI_3, atI_4, ixN_30, ixN_31, ixN_32, szl_0, szl_1, szl_2, szl_3, szl_4, szl_5, szl_6, szl_7, szl_8, szl_9, szl_10, szl_11, szl_12, gd, dEq_i, dNe_i, dLt, dLe, dGt, dGe, dIx_l, dIx_t, Option.bind_some, if_pos, if_neg, if_true, if_false, Nat.zero_add, decide_true, decide_false, Int.toNat_zero, Int.toNat_one, dAdd_i, dSub_i, not_false_eq_true, ite_true, ite_false, Int.reduceLE, Int.reduceLT, Int.reduceNeg, Int.reduceAdd, Int.reduceSub, Int.reduceToNat, Nat.reduceAdd, Nat.reduceLT, Nat.reduceLeDiff, Int.reduceEq, Nat.reduceEqDiff, Int.reduceMul, ↓reduceIte, Int.cast_ofNat_Int, z_words_in, b_words_in, e]
    rfl
  | cons w ws =>
    have ok := okS_list h (by simp)
    have e := eq_str ok sh_none
    rw [ne_none ok] at e
    have h1 := sum_le (k := 100) fun w hw => (h.2 w hw).1
    have h2 := h.1
    have h4 : (w :: ws).length * 100 ≤ 1000 * 100 := Nat.mul_le_mul_right _ h2
    have h3 := join_len " " (w :: ws)
    have e1 : Str.length (Str.ofString " ") = 1 := rfl
    rw [e1] at h3
    have j : sSplit (.str (listS (w :: ws))) [.str " "] = some (.list ((w :: ws).map .str)) := by
      have q : Txt.split (Txt.join " " (w :: ws)) " " = w :: ws := TL.split_join (s := 32) (S := []) (by rw [TL.tl_ofString]; rfl) (by decide +kernel) (by simp) fun p hp => (h.2 p hp).2.2.1
      show gd (!((Str.ofString " ").length == 0) && decide ((Txt.join " " (w :: ws)).length + 2 ≤ sizeLine)) (PyData.list ((Txt.split (Txt.join " " (w :: ws)) " ").map PyData.str)) = _
      rw [q]
      refine gd_t _ ?_
      rw [e1, decide_eq_true (by rw [sizeLine_v]; omega)]
      rfl
    simp -implicitDefEqProofs only [mSeq, mDo, mRet, mRetN, mSet, mOwn, mKill, mAug, gT, gTs, gTup, mAsg, mOwnM, mApp, mExt, isOl, appT, extT, setT, gIx, mOIx, mOLen, mFreeze, mRetO, mFor, wz_bnd, wz_ok, ret, bad, optM, mVar, mNil, mCons, asB, ofB, mNo, mSome, mSl, mIf, mAnd, mOr, mNot, mChain, mTup, mLst, mFz, mCall, mMeth, mNeg, mIsN, mMs, mAndV, mOrV, mBin, mIter, itemsOf, mRange1, mRange2, mEnum, mListOf, mIsi, wz_run, wz_bor, wz_borT, wz_noEx, wz_bad, aNil, aFr, aSlO, argSV, argSVs, slAt, backD, flD, flN, mCallD, mCallN, runD, mRepl, pickSem, mIxCallD, mIxCallN, own_ol, own_fr, own_un, lend_nil, lend_ol, lend_fr, lend_un, isT_str, isT_list, isT_tuple, isT_int, isT_bint, Bool.not_true, Bool.not_false, List.getElem?_cons_zero, List.getElem?_cons_succ, List.getElem?_nil, List.set_cons_zero, List.set_cons_succ, List.replicate_succ, List.replicate_zero, List.cons_append, List.nil_append, List.length_cons, List.length_nil, atI_0, atI_1, atI_2, atI_3, atI_4, ixN_30, ixN_31, ixN_32, szl_0, szl_1, szl_2, szl_3, szl_4, szl_5, szl_6, szl_7, szl_8, szl_9, szl_10, szl_11, szl_12, gd, dEq_i, dNe_i, dLt, dLe, dGt, dGe, dIx_l, dIx_t, Option.bind_some, if_pos, if_neg, if_true, if_false, Nat.zero_add, decide_true, decide_false, Int.toNat_zero, Int.toNat_one, dAdd_i, dSub_i, not_false_eq_true, ite_true, ite_false, Int.reduceLE, Int.reduceLT, Int.reduceNeg, Int.reduceAdd, Int.reduceSub, Int.reduceToNat, Nat.reduceAdd, Nat.reduceLT, Nat.reduceLeDiff, Int.reduceEq, Nat.reduceEqDiff, Int.reduceMul, ↓reduceIte, Int.cast_ofNat_Int, z_words_in, b_words_in, e, j]
/-- sure(..) goes on -/
theorem sure_do (N : Nat) {f : M D} {ls : LS} {P : D → LS → Prop} (h : wz (f ls) fun d l => d = .bool true ∧ P .none l) : wz (mCallD false [] (z_sure N) (aFr f aNil) ls) P := by
  simp -implicitDefEqProofs only [mSeq, mDo, mRet, mRetN, mSet, mOwn, mKill, mAug, gT, gTs, gTup, mAsg, mOwnM, mApp, mExt, isOl, appT, extT, setT, gIx, mOIx, mOLen, mFreeze, mRetO, mFor, wz_bnd, wz_ok, ret, bad, optM, mVar, mNil, mCons, asB, ofB, mNo, mSome, mSl, mIf, mAnd, mOr, mNot, mChain, mTup, mLst, mFz, mCall, mMeth, mNeg, mIsN, mMs, mAndV, mOrV, mBin, mIter, itemsOf, mRange1, mRange2, mEnum, mListOf, mIsi, wz_run, wz_bor, wz_borT, wz_noEx, wz_bad, aNil, aFr, aSlO, argSV, argSVs, slAt, backD, flD, flN, mCallD, mCallN, runD, mRepl, pickSem, mIxCallD, mIxCallN, own_ol, own_fr, own_un, lend_nil, lend_ol, lend_fr, lend_un, isT_str, isT_list, isT_tuple, isT_int, isT_bint, Bool.not_true, Bool.not_false, List.getElem?_cons_zero, List.getElem?_cons_succ, List.getElem?_nil, List.set_cons_zero, List.set_cons_succ, List.replicate_succ, List.replicate_zero, List.cons_append, List.nil_append, List.length_cons, List.length_nil, atI_0, atI_1, atI_2, atI_3, atI_4, ixN_30, ixN_31, ixN_32, szl_0, szl_1, szl_2, szl_3, szl_4, szl_5, szl_6, szl_7, szl_8, szl_9, szl_10, szl_11, szl_12, gd, dEq_i, dNe_i, dLt, dLe, dGt, dGe, dIx_l, dIx_t, Option.bind_some, if_pos, if_neg, if_true, if_false, Nat.zero_add, decide_true, decide_false, Int.toNat_zero, Int.toNat_one, dAdd_i, dSub_i, not_false_eq_true, ite_true, ite_false, Int.reduceLE, Int.reduceLT, Int.reduceNeg, Int.reduceAdd, Int.reduceSub, Int.reduceToNat, Nat.reduceAdd, Nat.reduceLT, Nat.reduceLeDiff, Int.reduceEq, Nat.reduceEqDiff, Int.reduceMul, ↓reduceIte, Int.cast_ofNat_Int, List.all_nil]
  refine wz_imp h fun d l ⟨e, p⟩ => ?_
  subst e
  simp -implicitDefEqProofs only [mSeq, mDo, mRet, mRetN, mSet, mOwn, mKill, mAug, gT, gTs, gTup, mAsg, mOwnM, mApp, mExt, isOl, appT, extT, setT, gIx, mOIx, mOLen, mFreeze, mRetO, mFor, wz_bnd, wz_ok, ret, bad, optM, mVar, mNil, mCons, asB, ofB, mNo, mSome, mSl, mIf, mAnd, mOr, mNot, mChain, mTup, mLst, mFz, mCall, mMeth, mNeg, mIsN, mMs, mAndV, mOrV, mBin, mIter, itemsOf, mRange1, mRange2, mEnum, mListOf, mIsi, wz_run, wz_bor, wz_borT, wz_noEx, wz_bad, aNil, aFr, aSlO, argSV, argSVs, slAt, backD, flD, flN, mCallD, mCallN, runD, mRepl, pickSem, mIxCallD, mIxCallN, own_ol, own_fr, own_un, lend_nil, lend_ol, lend_fr, lend_un, isT_str, isT_list, isT_tuple, isT_int, isT_bint, Bool.not_true, Bool.not_false, List.getElem?_cons_zero, List.getElem?_cons_succ, List.getElem?_nil, List.set_cons_zero, List.set_cons_succ, List.replicate_succ, List.replicate_zero, List.cons_append, List.nil_append, List.length_cons, List.length_nil, atI_0, atI_1, atI_2, atI_3, atI_4, ixN_30, ixN_31, ixN_32, szl_0, szl_1, szl_2, szl_3, szl_4, szl_5, szl_6, szl_7, szl_8, szl_9, szl_10, szl_11, szl_12, gd, dEq_i, dNe_i, dLt, dLe, dGt, dGe, dIx_l, dIx_t, Option.bind_some, if_pos, if_neg, if_true, if_false, Nat.zero_add, decide_true, decide_false, Int.toNat_zero, Int.toNat_one, dAdd_i, dSub_i, not_false_eq_true, ite_true, ite_false, Int.reduceLE, Int.reduceLT, Int.reduceNeg, Int.reduceAdd, Int.reduceSub, Int.reduceToNat, Nat.reduceAdd, Nat.reduceLT, Nat.reduceLeDiff, Int.reduceEq, Nat.reduceEqDiff, Int.reduceMul, ↓reduceIte, Int.cast_ofNat_Int, z_sure, b_sure, Bool.not_true]
  exact p
theorem dig_in {c : Nat} (h : 48 ≤ c ∧ c ≤ 57) : dIn false (.str ⟨#[c]⟩) (.str "0123456789") = some (.bool true) := by
  have : c = 48 ∨ c = 49 ∨ c = 50 ∨ c = 51 ∨ c = 52 ∨ c = 53 ∨ c = 54 ∨ c = 55 ∨ c = 56 ∨ c = 57 := by omega
  rcases this with rfl | rfl | rfl | rfl | rfl | rfl | rfl | rfl | rfl | rfl <;> rfl
theorem all_true {γ : Type} (xs : List γ) : dAll [.list (xs.map fun _ => .bool true)] = some (.bool true) := by
  have e : boolsOf (xs.map fun _ => (.bool true : D)) = some (xs.map fun _ => true) := by
    induction xs with
    | nil => rfl
    | cons x xs ih =>
      show (boolsOf (xs.map fun _ => (.bool true : D))).map (true :: ·) = some (true :: xs.map fun _ => true)
      rw [ih]
      rfl
  show (boolsOf (xs.map fun _ => (.bool true : D))).map (fun bs => (.bool (bs.all id) : D)) = _
  rw [e]
  show some (PyData.bool ((xs.map fun _ => true).all id)) = _
  congr 2
  induction xs with
  | nil => rfl
  | cons x xs ih => simp

theorem tl_sg (w : Bool) : TL.tl (sgS w) = [if w then 43 else 45] := by cases w <;> rfl
theorem dig_nm {n : Int} (h : 0 ≤ n) : ∀ c ∈ TL.tl (numS n), 48 ≤ c ∧ c ≤ 57 := fun c hc => by
  rw [numL_nm h] at hc
  by_cases k : c < 48 ∨ 57 < c
  · exact absurd hc (TL.numL_free k)
  · omega
theorem ne_nm {n : Int} (h : 0 ≤ n) : TL.tl (numS n) ≠ [] := by rw [numL_nm h]; exact TL.numL_ne _
theorem okS_nm {n : Int} (h : 0 ≤ n) : okS (numS n) := fun c hc => by have := dig_nm h c hc; omega
theorem okS_sg (w : Bool) : okS (sgS w) := fun c hc => by rw [tl_sg] at hc; cases w <;> simp at hc <;> omega
theorem okS_tri {n : Int} (h : Tri n) : okS (numS n) := by
  rcases h with rfl | rfl | rfl <;> (unfold okS; decide +kernel)
/-- no needless nought ahead -/
theorem head_num : ∀ (k n : Nat), n ≤ k → 0 < n → ∃ c r, TL.numL n = c :: r ∧ c ≠ 48
  | 0, n, h, h0 => by omega
  | k + 1, n, h, h0 => by
    by_cases q : n < 10
    · exact ⟨48 + n, [], TL.numL_lt q, by omega⟩
    · obtain ⟨c, r, e, hc⟩ := head_num k (n / 10) (by omega) (by omega)
      exact ⟨c, r ++ [48 + n % 10], by rw [TL.numL_step (by omega), e]; rfl, hc⟩
theorem int_nm {n : Int} (h : Nm n) : dInt [.str (numS n)] = some (.int n) := by
  have l := len_nm h
  have e : intText? (numS n) = some n := by
    have hl : (TL.numL n.toNat).length ≤ 4300 := by
      rw [← numL_nm h.1, ← TL.len_tl]
      omega
    have := TL.int_num hl
    rw [Int.toNat_of_nonneg h.1] at this
    exact this
  unfold dInt
  simp only [e]
  exact gd_t _ (decide_eq_true (by omega))
theorem sh_0 : SeqAt.shaped (.str (Str.ofString "0")) = true := by decide +kernel
theorem count_in_ok (N : Nat) {n : Int} (h : Nm n) : wz (z_count_in N [.fr (.str (numS n))]) fun fl _ => fl = .rt (.int n) := by
  have l := len_nm h
  have l1 : 1 ≤ (numS n).length := by
    rw [TL.len_tl]
    exact List.length_pos_iff.mpr (ne_nm h.1)
  have e1 : dLen [.str (numS n)] = some (.int (numS n).length) := gd_t _ (decide_eq_true (by rw [sizeLine_v]; omega))
  have e2 : decide ((1 : Int) ≤ ((numS n).length : Int)) = true := decide_eq_true (by omega)
  have e3 : decide (((numS n).length : Int) ≤ 40) = true := decide_eq_true (by omega)
  obtain ⟨c, r, ec⟩ : ∃ c r, TL.tl (numS n) = c :: r := by
    cases q : TL.tl (numS n) with
    | nil => exact absurd q (ne_nm h.1)
    | cons c r => exact ⟨c, r, rfl⟩
  have e4 : dIx (.str (numS n)) (.int 0) = some (.str ⟨#[c]⟩) := by
    show (match atI (TL.tl (numS n)) 0 with
      | some c => gd (decide ((numS n).length ≤ sizeLine)) (PyData.str ⟨#[c]⟩)
      | none => none) = _
    rw [ec, atI_0]
    exact gd_t _ (decide_eq_true (by rw [sizeLine_v]; omega))
  have okc : okS ⟨#[c]⟩ := fun z hz => by
    have : z = c := by simpa using hz
    subst this
    have := dig_nm h.1 z (by rw [ec]; exact List.mem_cons_self ..)
    omega
  have e5 := ne_str okc sh_0
  have e6 := eq_str (okS_nm h.1) sh_0
  have key : ((⟨#[c]⟩ : Str) == Str.ofString "0") = false ∨ (numS n == Str.ofString "0") = true := by
    by_cases h0 : n = 0
    · subst h0
      exact .inr (by decide +kernel)
    · left
      refine beq_eq_false_iff_ne.mpr fun e => ?_
      obtain ⟨c', r', e', hc'⟩ := head_num n.toNat n.toNat (Nat.le_refl _) (by have := h.1; omega)
      rw [numL_nm h.1, e'] at ec
      cases ec
      have := congrArg TL.tl e
      have : [c] = [48] := this
      simp at this
      exact hc' this
  simp -implicitDefEqProofs only [mSeq, mDo, mRet, mRetN, mSet, mOwn, mKill, mAug, gT, gTs, gTup, mAsg, mOwnM, mApp, mExt, isOl, appT, extT, setT, gIx, mOIx, mOLen, mFreeze, mRetO, mFor, wz_bnd, wz_ok, ret, bad, optM, mVar, mNil, mCons, asB, ofB, mNo, mSome, mSl, mIf, mAnd, mOr, mNot, mChain, mTup, mLst, mFz, mCall, mMeth, mNeg, mIsN, mMs, mAndV, mOrV, mBin, mIter, itemsOf, mRange1, mRange2, mEnum, mListOf, mIsi, wz_bor, wz_borT, wz_noEx, wz_bad, runD, mRepl, pickSem, own_ol, own_fr, own_un, lend_nil, lend_ol, lend_fr, lend_un, isT_str, isT_list, isT_tuple, isT_int, isT_bint, Bool.not_true, Bool.not_false, List.getElem?_cons_zero, List.getElem?_cons_succ, List.getElem?_nil, List.set_cons_zero, List.set_cons_succ, List.replicate_succ, List.replicate_zero, List.cons_append, List.nil_append, List.length_cons, List.length_nil, atI_0, atI_1, atI_2, atI_3, atI_4, ixN_30, ixN_31, ixN_32, szl_0, szl_1, szl_2, szl_3, szl_4, szl_5, szl_6, szl_7, szl_8, szl_9, szl_10, szl_11, szl_12, gd, dEq_i, dNe_i, dLt, dLe, dGt, dGe, dIx_l, dIx_t, Option.bind_some, if_pos, if_neg, if_true, if_false, Nat.zero_add, decide_true, decide_false, Int.toNat_zero, Int.toNat_one, dAdd_i, dSub_i, not_false_eq_true, ite_true, ite_false, Int.reduceLE, Int.reduceLT, Int.reduceNeg, Int.reduceAdd, Int.reduceSub, Int.reduceToNat, Nat.reduceAdd, Nat.reduceLT, Nat.reduceLeDiff, Int.reduceEq, Nat.reduceEqDiff, Int.reduceMul, ↓reduceIte, Int.cast_ofNat_Int, z_count_in, b_count_in]
  refine sure_do N ?_
  simp -implicitDefEqProofs only [mSeq, mDo, mRet, mRetN, mSet, mOwn, mKill, mAug, gT, gTs, gTup, mAsg, mOwnM, mApp, mExt, isOl, appT, extT, setT, gIx, mOIx, mOLen, mFreeze, mRetO, mFor, wz_bnd, wz_ok, ret, bad, optM, mVar, mNil, mCons, asB, ofB, mNo, mSome, mSl, mIf, mAnd, mOr, mNot, mChain, mTup, mLst, mFz, mCall, mMeth, mNeg, mIsN, mMs, mAndV, mOrV, mBin, mIter, itemsOf, mRange1, mRange2, mEnum, mListOf, mIsi, wz_bor, wz_borT, wz_noEx, wz_bad, runD, mRepl, pickSem, own_ol, own_fr, own_un, lend_nil, lend_ol, lend_fr, lend_un, isT_str, isT_list, isT_tuple, isT_int, isT_bint, Bool.not_true, Bool.not_false, List.getElem?_cons_zero, List.getElem?_cons_succ, List.getElem?_nil, List.set_cons_zero, List.set_cons_succ, List.replicate_succ, List.replicate_zero, List.cons_append, List.nil_append, List.length_cons, List.length_nil, atI_0, atI_1, atI_2, atI_3, atI_4, ixN_30, ixN_31, ixN_32, szl_0, szl_1, szl_2, szl_3, szl_4, szl_5, szl_6, szl_7, szl_8, szl_9, szl_10, szl_11, szl_12, gd, dEq_i, dNe_i, dLt, dLe, dGt, dGe, dIx_l, dIx_t, Option.bind_some, if_pos, if_neg, if_true, if_false, Nat.zero_add, decide_true, decide_false, Int.toNat_zero, Int.toNat_one, dAdd_i, dSub_i, not_false_eq_true, ite_true, ite_false, Int.reduceLE, Int.reduceLT, Int.reduceNeg, Int.reduceAdd, Int.reduceSub, Int.reduceToNat, Nat.reduceAdd, Nat.reduceLT, Nat.reduceLeDiff, Int.reduceEq, Nat.reduceEqDiff, Int.reduceMul, ↓reduceIte, Int.cast_ofNat_Int, e1, e2, e3, mComp]
  refine comp_enc (fun c : Nat => (.str ⟨#[c]⟩ : D)) (fun _ => .bool true) rfl (by rw [← TL.len_tl, sizeLine_v]; omega) (fun z hz => ?_) ?_
  · simp -implicitDefEqProofs only [mSeq, mDo, mRet, mRetN, mSet, mOwn, mKill, mAug, gT, gTs, gTup, mAsg, mOwnM, mApp, mExt, isOl, appT, extT, setT, gIx, mOIx, mOLen, mFreeze, mRetO, mFor, wz_bnd, wz_ok, ret, bad, optM, mVar, mNil, mCons, asB, ofB, mNo, mSome, mSl, mIf, mAnd, mOr, mNot, mChain, mTup, mLst, mFz, mCall, mMeth, mNeg, mIsN, mMs, mAndV, mOrV, mBin, mIter, itemsOf, mRange1, mRange2, mEnum, mListOf, mIsi, wz_bor, wz_borT, wz_noEx, wz_bad, runD, mRepl, pickSem, own_ol, own_fr, own_un, lend_nil, lend_ol, lend_fr, lend_un, isT_str, isT_list, isT_tuple, isT_int, isT_bint, Bool.not_true, Bool.not_false, List.getElem?_cons_zero, List.getElem?_cons_succ, List.getElem?_nil, List.set_cons_zero, List.set_cons_succ, List.replicate_succ, List.replicate_zero, List.cons_append, List.nil_append, List.length_cons, List.length_nil, atI_0, atI_1, atI_2, atI_3, atI_4, ixN_30, ixN_31, ixN_32, szl_0, szl_1, szl_2, szl_3, szl_4, szl_5, szl_6, szl_7, szl_8, szl_9, szl_10, szl_11, szl_12, gd, dEq_i, dNe_i, dLt, dLe, dGt, dGe, dIx_l, dIx_t, Option.bind_some, if_pos, if_neg, if_true, if_false, Nat.zero_add, decide_true, decide_false, Int.toNat_zero, Int.toNat_one, dAdd_i, dSub_i, not_false_eq_true, ite_true, ite_false, Int.reduceLE, Int.reduceLT, Int.reduceNeg, Int.reduceAdd, Int.reduceSub, Int.reduceToNat, Nat.reduceAdd, Nat.reduceLT, Nat.reduceLeDiff, Int.reduceEq, Nat.reduceEqDiff, Int.reduceMul, ↓reduceIte, Int.cast_ofNat_Int, killS, dig_in (dig_nm h.1 z hz)]
    trivial
  · simp -implicitDefEqProofs only [mSeq, mDo, mRet, mRetN, mSet, mOwn, mKill, mAug, gT, gTs, gTup, mAsg, mOwnM, mApp, mExt, isOl, appT, extT, setT, gIx, mOIx, mOLen, mFreeze, mRetO, mFor, wz_bnd, wz_ok, ret, bad, optM, mVar, mNil, mCons, asB, ofB, mNo, mSome, mSl, mIf, mAnd, mOr, mNot, mChain, mTup, mLst, mFz, mCall, mMeth, mNeg, mIsN, mMs, mAndV, mOrV, mBin, mIter, itemsOf, mRange1, mRange2, mEnum, mListOf, mIsi, wz_bor, wz_borT, wz_noEx, wz_bad, runD, mRepl, pickSem, own_ol, own_fr, own_un, lend_nil, lend_ol, lend_fr, lend_un, isT_str, isT_list, isT_tuple, isT_int, isT_bint, Bool.not_true, Bool.not_false, List.getElem?_cons_zero, List.getElem?_cons_succ, List.getElem?_nil, List.set_cons_zero, List.set_cons_succ, List.replicate_succ, List.replicate_zero, List.cons_append, List.nil_append, List.length_cons, List.length_nil, atI_0, atI_1, atI_2, atI_3, atI_4, ixN_30, ixN_31, ixN_32, szl_0, szl_1, szl_2, szl_3, szl_4, szl_5, szl_6, szl_7, szl_8, szl_9, szl_10, szl_11, szl_12, gd, dEq_i, dNe_i, dLt, dLe, dGt, dGe, dIx_l, dIx_t, Option.bind_some, if_pos, if_neg, if_true, if_false, Nat.zero_add, decide_true, decide_false, Int.toNat_zero, Int.toNat_one, dAdd_i, dSub_i, not_false_eq_true, ite_true, ite_false, Int.reduceLE, Int.reduceLT, Int.reduceNeg, Int.reduceAdd, Int.reduceSub, Int.reduceToNat, Nat.reduceAdd, Nat.reduceLT, Nat.reduceLeDiff, Int.reduceEq, Nat.reduceEqDiff, Int.reduceMul, ↓reduceIte, Int.cast_ofNat_Int, all_true, true_and]
    refine sure_do N ?_
    rcases key with k | k
    · rw [k] at e5
      simp -implicitDefEqProofs only [mSeq, mDo, mRet, mRetN, mSet, mOwn, mKill, mAug, gT, gTs, gTup, mAsg, mOwnM, mApp, mExt, isOl, appT, extT, setT, gIx, mOIx, mOLen, mFreeze, mRetO, mFor, wz_bnd, wz_ok, ret, bad, optM, mVar, mNil, mCons, asB, ofB, mNo, mSome, mSl, mIf, mAnd, mOr, mNot, mChain, mTup, mLst, mFz, mCall, mMeth, mNeg, mIsN, mMs, mAndV, mOrV, mBin, mIter, itemsOf, mRange1, mRange2, mEnum, mListOf, mIsi, wz_bor, wz_borT, wz_noEx, wz_bad, runD, mRepl, pickSem, own_ol, own_fr, own_un, lend_nil, lend_ol, lend_fr, lend_un, isT_str, isT_list, isT_tuple, isT_int, isT_bint, Bool.not_true, Bool.not_false, List.getElem?_cons_zero, List.getElem?_cons_succ, List.getElem?_nil, List.set_cons_zero, List.set_cons_succ, List.replicate_succ, List.replicate_zero, List.cons_append, List.nil_append, List.length_cons, List.length_nil, atI_0, atI_1, atI_2, atI_3, atI_4, ixN_30, ixN_31, ixN_32, szl_0, szl_1, szl_2, szl_3, szl_4, szl_5, szl_6, szl_7, szl_8, szl_9, szl_10, szl_11, szl_12, gd, dEq_i, dNe_i, dLt, dLe, dGt, dGe, dIx_l, dIx_t, Option.bind_some, if_pos, if_neg, if_true, if_false, Nat.zero_add, decide_true, decide_false, Int.toNat_zero, Int.toNat_one, dAdd_i, dSub_i, not_false_eq_true, ite_true, ite_false, Int.reduceLE, Int.reduceLT, Int.reduceNeg, Int.reduceAdd, Int.reduceSub, Int.reduceToNat, Nat.reduceAdd, Nat.reduceLT, Nat.reduceLeDiff, Int.reduceEq, Nat.reduceEqDiff, Int.reduceMul, ↓reduceIte, Int.cast_ofNat_Int, e4, e5, Bool.not_false, true_and, int_nm h]
    · rw [k] at e6
      cases q : ((⟨#[c]⟩ : Str) == Str.ofString "0") with
      | false =>
        rw [q] at e5
        simp -implicitDefEqProofs only [mSeq, mDo, mRet, mRetN, mSet, mOwn, mKill, mAug, gT, gTs, gTup, mAsg, mOwnM, mApp, mExt, isOl, appT, extT, setT, gIx, mOIx, mOLen, mFreeze, mRetO, mFor, wz_bnd, wz_ok, ret, bad, optM, mVar, mNil, mCons, asB, ofB, mNo, mSome, mSl, mIf, mAnd, mOr, mNot, mChain, mTup, mLst, mFz, mCall, mMeth, mNeg, mIsN, mMs, mAndV, mOrV, mBin, mIter, itemsOf, mRange1, mRange2, mEnum, mListOf, mIsi, wz_bor, wz_borT, wz_noEx, wz_bad, runD, mRepl, pickSem, own_ol, own_fr, own_un, lend_nil, lend_ol, lend_fr, lend_un, isT_str, isT_list, isT_tuple, isT_int, isT_bint, Bool.not_true, Bool.not_false, List.getElem?_cons_zero, List.getElem?_cons_succ, List.getElem?_nil, List.set_cons_zero, List.set_cons_succ, List.replicate_succ, List.replicate_zero, List.cons_append, List.nil_append, List.length_cons, List.length_nil, atI_0, atI_1, atI_2, atI_3, atI_4, ixN_30, ixN_31, ixN_32, szl_0, szl_1, szl_2, szl_3, szl_4, szl_5, szl_6, szl_7, szl_8, szl_9, szl_10, szl_11, szl_12, gd, dEq_i, dNe_i, dLt, dLe, dGt, dGe, dIx_l, dIx_t, Option.bind_some, if_pos, if_neg, if_true, if_false, Nat.zero_add, decide_true, decide_false, Int.toNat_zero, Int.toNat_one, dAdd_i, dSub_i, not_false_eq_true, ite_true, ite_false, Int.reduceLE, Int.reduceLT, Int.reduceNeg, Int.reduceAdd, Int.reduceSub, Int.reduceToNat, Nat.reduceAdd, Nat.reduceLT, Nat.reduceLeDiff, Int.reduceEq, Nat.reduceEqDiff, Int.reduceMul, ↓reduceIte, Int.cast_ofNat_Int, e4, e5, Bool.not_false, true_and, int_nm h]
      | true =>
        rw [q] at e5
        simp -implicitDefEqProofs only [mSeq, mDo, mRet, mRetN, mSet, mOwn, mKill, mAug, gT, gTs, gTup, mAsg, mOwnM, mApp, mExt, isOl, appT, extT, setT, gIx, mOIx, mOLen, mFreeze, mRetO, mFor, wz_bnd, wz_ok, ret, bad, optM, mVar, mNil, mCons, asB, ofB, mNo, mSome, mSl, mIf, mAnd, mOr, mNot, mChain, mTup, mLst, mFz, mCall, mMeth, mNeg, mIsN, mMs, mAndV, mOrV, mBin, mIter, itemsOf, mRange1, mRange2, mEnum, mListOf, mIsi, wz_bor, wz_borT, wz_noEx, wz_bad, runD, mRepl, pickSem, own_ol, own_fr, own_un, lend_nil, lend_ol, lend_fr, lend_un, isT_str, isT_list, isT_tuple, isT_int, isT_bint, Bool.not_true, Bool.not_false, List.getElem?_cons_zero, List.getElem?_cons_succ, List.getElem?_nil, List.set_cons_zero, List.set_cons_succ, List.replicate_succ, List.replicate_zero, List.cons_append, List.nil_append, List.length_cons, List.length_nil, atI_0, atI_1, atI_2, atI_3, atI_4, ixN_30, ixN_31, ixN_32, szl_0, szl_1, szl_2, szl_3, szl_4, szl_5, szl_6, szl_7, szl_8, szl_9, szl_10, szl_11, szl_12, gd, dEq_i, dNe_i, dLt, dLe, dGt, dGe, dIx_l, dIx_t, Option.bind_some, if_pos, if_neg, if_true, if_false, Nat.zero_add, decide_true, decide_false, Int.toNat_zero, Int.toNat_one, dAdd_i, dSub_i, not_false_eq_true, ite_true, ite_false, Int.reduceLE, Int.reduceLT, Int.reduceNeg, Int.reduceAdd, Int.reduceSub, Int.reduceToNat, Nat.reduceAdd, Nat.reduceLT, Nat.reduceLeDiff, Int.reduceEq, Nat.reduceEqDiff, Int.reduceMul, ↓reduceIte, Int.cast_ofNat_Int, e4, e5, e6, Bool.not_true, true_and, int_nm h]
end Tz
namespace Tz
open PySem PySem.Spec PyProof.Rows L2
theorem cut_none_some (z : Str) (k : Nat) (i : Int) (hk : k ≤ z.length) (hi : HT.sIx z.length z.length (some i) = k) : TL.tl (cutS z none (some i)) = (TL.tl z).take k := by
  unfold cutS
  rw [hi]
  show ((TL.tl z).drop 0).take (k - 0) = _
  rw [List.drop_zero, Nat.sub_zero]
theorem cut_some_none (z : Str) (k : Nat) (i : Int) (hi : HT.sIx z.length 0 (some i) = k) : TL.tl (cutS z (some i) none) = (TL.tl z).drop k := by
  unfold cutS
  rw [hi]
  show ((TL.tl z).drop k).take (z.length - k) = _
  refine List.take_of_length_le ?_
  rw [List.length_drop, ← TL.len_tl]
  exact Nat.le_refl _
theorem cut_init {a b : Str} (hb : b.length = 1) (h : (a ++ b).length ≤ 10000) : dSl (.str (a ++ b)) none (some (-1)) = some (.str a) := by
  have e : cutS (a ++ b) none (some (-1)) = a := TL.ext_tl (by
    rw [cut_none_some _ a.length (-1) (by rw [len_app]; omega) (by rw [len_app]; unfold HT.sIx; simp; omega), TL.tl_append, TL.len_tl]
    exact List.take_left)
  show gd _ (PyData.str (cutS (a ++ b) none (some (-1)))) = _
  rw [e]
  exact gd_t _ (decide_eq_true (by rw [sizeLine_v]; omega))
theorem cut_last {a b : Str} (hb : b.length = 1) (h : (a ++ b).length ≤ 10000) : dSl (.str (a ++ b)) (some (-1)) none = some (.str b) := by
  have e : cutS (a ++ b) (some (-1)) none = b := TL.ext_tl (by
    rw [cut_some_none _ a.length (-1) (by rw [len_app]; unfold HT.sIx; simp; omega), TL.tl_append, TL.len_tl]
    exact List.drop_left)
  show gd _ (PyData.str (cutS (a ++ b) (some (-1)) none)) = _
  rw [e]
  exact gd_t _ (decide_eq_true (by rw [sizeLine_v]; omega))
theorem cut_to {a b : Str} {i : Int} (hi : i = a.length) (h : (a ++ b).length ≤ 10000) : dSl (.str (a ++ b)) none (some i) = some (.str a) := by
  have e : cutS (a ++ b) none (some i) = a := TL.ext_tl (by
    rw [cut_none_some _ a.length i (by rw [len_app]; omega) (by rw [hi, HT.sIx_nat, len_app]; omega), TL.tl_append, TL.len_tl]
    exact List.take_left)
  show gd _ (PyData.str (cutS (a ++ b) none (some i))) = _
  rw [e]
  exact gd_t _ (decide_eq_true (by rw [sizeLine_v]; omega))
theorem cut_off {a b : Str} {i : Int} (hi : i = a.length) (h : (a ++ b).length ≤ 10000) : dSl (.str (a ++ b)) (some i) none = some (.str b) := by
  have e : cutS (a ++ b) (some i) none = b := TL.ext_tl (by
    rw [cut_some_none _ a.length i (by rw [hi, HT.sIx_nat, len_app]; omega), TL.tl_append, TL.len_tl]
    exact List.drop_left)
  show gd _ (PyData.str (cutS (a ++ b) (some i) none)) = _
  rw [e]
  exact gd_t _ (decide_eq_true (by rw [sizeLine_v]; omega))
theorem sh_p : SeqAt.shaped (.str (Str.ofString "+")) = true := by decide +kernel
theorem sh_m : SeqAt.shaped (.str (Str.ofString "-")) = true := by decide +kernel
theorem way_in_ok (N : Nat) (w : Bool) : wz (z_way_in N [.fr (.str (sgS w))]) fun fl _ => fl = .rt (.int (sgI w)) := by
  have e1 := eq_str (okS_sg w) sh_p
  have e2 := eq_str (okS_sg w) sh_m
  simp -implicitDefEqProofs only [mSeq, mDo, mRet, mRetN, mSet, mOwn, mKill, mAug, gT, gTs, gTup, mAsg, mOwnM, mApp, mExt, isOl, appT, extT, setT, gIx, mOIx, mOLen, mFreeze, mRetO, mFor, wz_bnd, wz_ok, ret, bad, optM, mVar, mNil, mCons, asB, ofB, mNo, mSome, mSl, mIf, mAnd, mOr, mNot, mChain, mTup, mLst, mFz, mCall, mMeth, mNeg, mIsN, mMs, mAndV, mOrV, mBin, mIter, itemsOf, mRange1, mRange2, mEnum, mListOf, mIsi, wz_bor, wz_borT, wz_noEx, wz_bad, runD, mRepl, pickSem, own_ol, own_fr, own_un, lend_nil, lend_ol, lend_fr, lend_un, isT_str, isT_list, isT_tuple, isT_int, isT_bint, Bool.not_true, Bool.not_false, List.getElem?_cons_zero, List.getElem?_cons_succ, List.getElem?_nil, List.set_cons_zero, List.set_cons_succ, List.replicate_succ, List.replicate_zero, List.cons_append, List.nil_append, List.length_cons, List.length_nil, atI_0, atI_1, atI_2, atI_3, atI_4, ixN_30, ixN_31, ixN_32, szl_0, szl_1, szl_2, szl_3, szl_4, szl_5, szl_6, szl_7, szl_8, szl_9, szl_10, szl_11, szl_12, gd, dEq_i, dNe_i, dLt, dLe, dGt, dGe, dIx_l, dIx_t, Option.bind_some, if_pos, if_neg, if_true, if_false, Nat.zero_add, decide_true, decide_false, Int.toNat_zero, Int.toNat_one, dAdd_i, dSub_i, not_false_eq_true, ite_true, ite_false, Int.reduceLE, Int.reduceLT, Int.reduceNeg, Int.reduceAdd, Int.reduceSub, Int.reduceToNat, Nat.reduceAdd, Nat.reduceLT, Nat.reduceLeDiff, Int.reduceEq, Nat.reduceEqDiff, Int.reduceMul, ↓reduceIte, Int.cast_ofNat_Int, z_way_in, b_way_in]
  refine sure_do N ?_
  cases w with
  | true =>
    have k1 : (sgS true == Str.ofString "+") = true := by decide +kernel
    have k2 : (sgS true == Str.ofString "-") = false := by decide +kernel
    rw [k1] at e1
    rw [k2] at e2
    simp -implicitDefEqProofs only [mSeq, mDo, mRet, mRetN, mSet, mOwn, mKill, mAug, gT, gTs, gTup, mAsg, mOwnM, mApp, mExt, isOl, appT, extT, setT, gIx, mOIx, mOLen, mFreeze, mRetO, mFor, wz_bnd, wz_ok, ret, bad, optM, mVar, mNil, mCons, asB, ofB, mNo, mSome, mSl, mIf, mAnd, mOr, mNot, mChain, mTup, mLst, mFz, mCall, mMeth, mNeg, mIsN, mMs, mAndV, mOrV, mBin, mIter, itemsOf, mRange1, mRange2, mEnum, mListOf, mIsi, wz_bor, wz_borT, wz_noEx, wz_bad, runD, mRepl, pickSem, own_ol, own_fr, own_un, lend_nil, lend_ol, lend_fr, lend_un, isT_str, isT_list, isT_tuple, isT_int, isT_bint, Bool.not_true, Bool.not_false, List.getElem?_cons_zero, List.getElem?_cons_succ, List.getElem?_nil, List.set_cons_zero, List.set_cons_succ, List.replicate_succ, List.replicate_zero, List.cons_append, List.nil_append, List.length_cons, List.length_nil, atI_0, atI_1, atI_2, atI_3, atI_4, ixN_30, ixN_31, ixN_32, szl_0, szl_1, szl_2, szl_3, szl_4, szl_5, szl_6, szl_7, szl_8, szl_9, szl_10, szl_11, szl_12, gd, dEq_i, dNe_i, dLt, dLe, dGt, dGe, dIx_l, dIx_t, Option.bind_some, if_pos, if_neg, if_true, if_false, Nat.zero_add, decide_true, decide_false, Int.toNat_zero, Int.toNat_one, dAdd_i, dSub_i, not_false_eq_true, ite_true, ite_false, Int.reduceLE, Int.reduceLT, Int.reduceNeg, Int.reduceAdd, Int.reduceSub, Int.reduceToNat, Nat.reduceAdd, Nat.reduceLT, Nat.reduceLeDiff, Int.reduceEq, Nat.reduceEqDiff, Int.reduceMul, ↓reduceIte, Int.cast_ofNat_Int, e1, e2, true_and, sub01, int_b, Bool.false_eq_true]
    rfl
  | false =>
    have k1 : (sgS false == Str.ofString "+") = false := by decide +kernel
    have k2 : (sgS false == Str.ofString "-") = true := by decide +kernel
    rw [k1] at e1
    rw [k2] at e2
    simp -implicitDefEqProofs only [mSeq, mDo, mRet, mRetN, mSet, mOwn, mKill, mAug, gT, gTs, gTup, mAsg, mOwnM, mApp, mExt, isOl, appT, extT, setT, gIx, mOIx, mOLen, mFreeze, mRetO, mFor, wz_bnd, wz_ok, ret, bad, optM, mVar, mNil, mCons, asB, ofB, mNo, mSome, mSl, mIf, mAnd, mOr, mNot, mChain, mTup, mLst, mFz, mCall, mMeth, mNeg, mIsN, mMs, mAndV, mOrV, mBin, mIter, itemsOf, mRange1, mRange2, mEnum, mListOf, mIsi, wz_bor, wz_borT, wz_noEx, wz_bad, runD, mRepl, pickSem, own_ol, own_fr, own_un, lend_nil, lend_ol, lend_fr, lend_un, isT_str, isT_list, isT_tuple, isT_int, isT_bint, Bool.not_true, Bool.not_false, List.getElem?_cons_zero, List.getElem?_cons_succ, List.getElem?_nil, List.set_cons_zero, List.set_cons_succ, List.replicate_succ, List.replicate_zero, List.cons_append, List.nil_append, List.length_cons, List.length_nil, atI_0, atI_1, atI_2, atI_3, atI_4, ixN_30, ixN_31, ixN_32, szl_0, szl_1, szl_2, szl_3, szl_4, szl_5, szl_6, szl_7, szl_8, szl_9, szl_10, szl_11, szl_12, gd, dEq_i, dNe_i, dLt, dLe, dGt, dGe, dIx_l, dIx_t, Option.bind_some, if_pos, if_neg, if_true, if_false, Nat.zero_add, decide_true, decide_false, Int.toNat_zero, Int.toNat_one, dAdd_i, dSub_i, not_false_eq_true, ite_true, ite_false, Int.reduceLE, Int.reduceLT, Int.reduceNeg, Int.reduceAdd, Int.reduceSub, Int.reduceToNat, Nat.reduceAdd, Nat.reduceLT, Nat.reduceLeDiff, Int.reduceEq, Nat.reduceEqDiff, Int.reduceMul, ↓reduceIte, Int.cast_ofNat_Int, e1, e2, true_and, sub01, int_b]
    rfl
theorem push_in_ok (N : Nat) {r : St} (h : Nm r.n) : wz (z_push_in N [.fr (.str (stepS r))]) fun fl _ => fl = .rt (pushD r) := by
  have l := len_step h
  have c1 : dSl (.str (stepS r)) none (some (-1)) = some (.str (numS r.n)) := cut_init (len_sg r.w) (by show (stepS r).length ≤ _; omega)
  have c2 : dSl (.str (stepS r)) (some (-1)) none = some (.str (sgS r.w)) := cut_last (len_sg r.w) (by show (stepS r).length ≤ _; omega)
  simp -implicitDefEqProofs only [mSeq, mDo, mRet, mRetN, mSet, mOwn, mKill, mAug, gT, gTs, gTup, mAsg, mOwnM, mApp, mExt, isOl, appT, extT, setT, gIx, mOIx, mOLen, mFreeze, mRetO, mFor, wz_bnd, wz_ok, ret, bad, optM, mVar, mNil, mCons, asB, ofB, mNo, mSome, mSl, mIf, mAnd, mOr, mNot, mChain, mTup, mLst, mFz, mCall, mMeth, mNeg, mIsN, mMs, mAndV, mOrV, mBin, mIter, itemsOf, mRange1, mRange2, mEnum, mListOf, mIsi, wz_bor, wz_borT, wz_noEx, wz_bad, runD, mRepl, pickSem, own_ol, own_fr, own_un, lend_nil, lend_ol, lend_fr, lend_un, isT_str, isT_list, isT_tuple, isT_int, isT_bint, Bool.not_true, Bool.not_false, List.getElem?_cons_zero, List.getElem?_cons_succ, List.getElem?_nil, List.set_cons_zero, List.set_cons_succ, List.replicate_succ, List.replicate_zero, List.cons_append, List.nil_append, List.length_cons, List.length_nil, atI_0, atI_1, atI_2, atI_3, atI_4, ixN_30, ixN_31, ixN_32, szl_0, szl_1, szl_2, szl_3, szl_4, szl_5, szl_6, szl_7, szl_8, szl_9, szl_10, szl_11, szl_12, gd, dEq_i, dNe_i, dLt, dLe, dGt, dGe, dIx_l, dIx_t, Option.bind_some, if_pos, if_neg, if_true, if_false, Nat.zero_add, decide_true, decide_false, Int.toNat_zero, Int.toNat_one, dAdd_i, dSub_i, not_false_eq_true, ite_true, ite_false, Int.reduceLE, Int.reduceLT, Int.reduceNeg, Int.reduceAdd, Int.reduceSub, Int.reduceToNat, Nat.reduceAdd, Nat.reduceLT, Nat.reduceLeDiff, Int.reduceEq, Nat.reduceEqDiff, Int.reduceMul, ↓reduceIte, Int.cast_ofNat_Int, z_push_in, b_push_in]
  refine callF_1 ?_
  simp -implicitDefEqProofs only [mSeq, mDo, mRet, mRetN, mSet, mOwn, mKill, mAug, gT, gTs, gTup, mAsg, mOwnM, mApp, mExt, isOl, appT, extT, setT, gIx, mOIx, mOLen, mFreeze, mRetO, mFor, wz_bnd, wz_ok, ret, bad, optM, mVar, mNil, mCons, asB, ofB, mNo, mSome, mSl, mIf, mAnd, mOr, mNot, mChain, mTup, mLst, mFz, mCall, mMeth, mNeg, mIsN, mMs, mAndV, mOrV, mBin, mIter, itemsOf, mRange1, mRange2, mEnum, mListOf, mIsi, wz_bor, wz_borT, wz_noEx, wz_bad, runD, mRepl, pickSem, own_ol, own_fr, own_un, lend_nil, lend_ol, lend_fr, lend_un, isT_str, isT_list, isT_tuple, isT_int, isT_bint, Bool.not_true, Bool.not_false, List.getElem?_cons_zero, List.getElem?_cons_succ, List.getElem?_nil, List.set_cons_zero, List.set_cons_succ, List.replicate_succ, List.replicate_zero, List.cons_append, List.nil_append, List.length_cons, List.length_nil, atI_0, atI_1, atI_2, atI_3, atI_4, ixN_30, ixN_31, ixN_32, szl_0, szl_1, szl_2, szl_3, szl_4, szl_5, szl_6, szl_7, szl_8, szl_9, szl_10, szl_11, szl_12, gd, dEq_i, dNe_i, dLt, dLe, dGt, dGe, dIx_l, dIx_t, Option.bind_some, if_pos, if_neg, if_true, if_false, Nat.zero_add, decide_true, decide_false, Int.toNat_zero, Int.toNat_one, dAdd_i, dSub_i, not_false_eq_true, ite_true, ite_false, Int.reduceLE, Int.reduceLT, Int.reduceNeg, Int.reduceAdd, Int.reduceSub, Int.reduceToNat, Nat.reduceAdd, Nat.reduceLT, Nat.reduceLeDiff, Int.reduceEq, Nat.reduceEqDiff, Int.reduceMul, ↓reduceIte, Int.cast_ofNat_Int, c1]
  refine wz_imp (count_in_ok N h) fun fl l e => ⟨_, e, ?_⟩
  refine callF_1 ?_
  simp -implicitDefEqProofs only [mSeq, mDo, mRet, mRetN, mSet, mOwn, mKill, mAug, gT, gTs, gTup, mAsg, mOwnM, mApp, mExt, isOl, appT, extT, setT, gIx, mOIx, mOLen, mFreeze, mRetO, mFor, wz_bnd, wz_ok, ret, bad, optM, mVar, mNil, mCons, asB, ofB, mNo, mSome, mSl, mIf, mAnd, mOr, mNot, mChain, mTup, mLst, mFz, mCall, mMeth, mNeg, mIsN, mMs, mAndV, mOrV, mBin, mIter, itemsOf, mRange1, mRange2, mEnum, mListOf, mIsi, wz_bor, wz_borT, wz_noEx, wz_bad, runD, mRepl, pickSem, own_ol, own_fr, own_un, lend_nil, lend_ol, lend_fr, lend_un, isT_str, isT_list, isT_tuple, isT_int, isT_bint, Bool.not_true, Bool.not_false, List.getElem?_cons_zero, List.getElem?_cons_succ, List.getElem?_nil, List.set_cons_zero, List.set_cons_succ, List.replicate_succ, List.replicate_zero, List.cons_append, List.nil_append, List.length_cons, List.length_nil, atI_0, atI_1, atI_2, atI_3, atI_4, ixN_30, ixN_31, ixN_32, szl_0, szl_1, szl_2, szl_3, szl_4, szl_5, szl_6, szl_7, szl_8, szl_9, szl_10, szl_11, szl_12, gd, dEq_i, dNe_i, dLt, dLe, dGt, dGe, dIx_l, dIx_t, Option.bind_some, if_pos, if_neg, if_true, if_false, Nat.zero_add, decide_true, decide_false, Int.toNat_zero, Int.toNat_one, dAdd_i, dSub_i, not_false_eq_true, ite_true, ite_false, Int.reduceLE, Int.reduceLT, Int.reduceNeg, Int.reduceAdd, Int.reduceSub, Int.reduceToNat, Nat.reduceAdd, Nat.reduceLT, Nat.reduceLeDiff, Int.reduceEq, Nat.reduceEqDiff, Int.reduceMul, ↓reduceIte, Int.cast_ofNat_Int, c2]
  refine wz_imp (way_in_ok N r.w) fun fl l e => ⟨_, e, ?_⟩
  rfl
/-- replace of one sign by another -/
theorem repl_map (a b : Nat) : ∀ l : List Nat, StrLaws.replL [a] [b] l = l.map fun c => if c = a then b else c
  | [] => StrLaws.replL_nil
  | c :: r => by
    by_cases h : c = a
    · subst h
      rw [StrLaws.replL_hit (by simp) (by simp), List.map_cons, if_pos rfl]
      show [b] ++ StrLaws.replL [c] [b] r = _
      rw [repl_map c b r]
      rfl
    · rw [StrLaws.replL_miss (by simpa using h), repl_map a b r, List.map_cons, if_neg h]
theorem map_dig {l : List Nat} (h : ∀ c ∈ l, 48 ≤ c ∧ c ≤ 57) : (l.map fun c => if c = 45 then 43 else c) = l := by
  induction l with
  | nil => rfl
  | cons c l ih =>
    have := h c (List.mem_cons_self ..)
    rw [List.map_cons, ih fun z hz => h z (List.mem_cons_of_mem _ hz), if_neg (by omega)]
theorem repl_deed {r : St} (h : 0 ≤ r.n) (h2 : 0 ≤ r.m) : Txt.replace (deedS r) "-" "+" = numS r.n ++ "+" ++ numS r.m := by
  refine TL.ext_tl ?_
  have e := StrLaws.replace_list (x := deedS r) (y := "-") (z := "+") (by decide +kernel)
  have e1 : TL.tl (Txt.replace (deedS r) "-" "+") = StrLaws.replL [45] [43] (TL.tl (deedS r)) := e
  rw [e1, repl_map]
  unfold deedS
  rw [TL.tl_append, TL.tl_append, TL.tl_append, TL.tl_append, List.map_append, List.map_append, map_dig (dig_nm h), map_dig (dig_nm h2), tl_sg]
  cases r.w <;> rfl
theorem find_plus {a b : Str} (h : 43 ∉ TL.tl a) : Txt.find (a ++ "+" ++ b) "+" = a.length := by
  have ey : TL.tl (Str.ofString "+") = [43] := by rw [TL.tl_ofString]; rfl
  have hy : TL.tl (Str.ofString "+") ≠ [] := by rw [ey]; simp
  have hx : TL.tl (a ++ "+" ++ b) = TL.tl a ++ (43 :: TL.tl b) := by
    rw [TL.tl_append, TL.tl_append, ey, List.append_assoc]
    rfl
  have hit : StrLaws.At (a ++ "+" ++ b) "+" (a ++ "+" ++ b).length a.length := by
    refine (TL.at_iff hy _).mpr ?_
    rw [hx, TL.len_tl, List.drop_left, ey]
    rfl
  have miss : ∀ k, k < a.length → ¬ StrLaws.At (a ++ "+" ++ b) "+" (a ++ "+" ++ b).length k := fun k hk q => by
    have q2 := (TL.at_iff hy _).mp q
    rw [hx, ey, TL.free_of (S := []) h k (by rw [← TL.len_tl]; exact hk)] at q2
    cases q2
  unfold Txt.find
  rcases StrLaws.occ_head (a ++ "+" ++ b) "+" 1 (Nat.le_refl _) with ⟨_, n⟩ | ⟨i, r, e, h1, h2⟩
  · exact absurd hit (n _)
  · rw [e]
    have : i = a.length := by
      rcases Nat.lt_trichotomy i a.length with q | q | q
      · exact absurd h1 (miss i q)
      · exact q
      · exact absurd hit (h2 _ q)
    rw [this]
theorem deed_in_ok (N : Nat) {r : St} (h : Nm r.n) (h2 : Nm r.m) : wz (z_deed_in N [.fr (.str (deedS r))]) fun fl _ => fl = .rt (rowD r) := by
  have l := len_deed h (len_nm h2)
  have l1 := len_step h
  have e1 : (deedS r).length + ((deedS r).length + 1) * (Str.ofString "+").length ≤ 16777216 := by
    have : (Str.ofString "+").length = 1 := rfl
    rw [this]
    omega
  have e2 : sFind (.str (Txt.replace (deedS r) "-" "+")) [.str "+"] = some (.int (numS r.n).length) := by
    rw [repl_deed h.1 h2.1]
    show some (PyData.int (Txt.find _ _)) = _
    rw [find_plus fun q => by have := dig_nm h.1 43 q; omega]
  have lt : (stepS r).length = (numS r.n).length + 1 := by
    unfold stepS
    rw [len_app, len_sg]
  have c1 : dSl (.str (deedS r)) none (some (((numS r.n).length : Int) + 1)) = some (.str (stepS r)) := cut_to (b := numS r.m) (by show _ = ((stepS r).length : Int); rw [lt]; rfl) (by show (deedS r).length ≤ _; omega)
  have c2 : dSl (.str (deedS r)) (some (((numS r.n).length : Int) + 1)) none = some (.str (numS r.m)) := cut_off (a := stepS r) (by rw [lt]; rfl) (by show (deedS r).length ≤ _; omega)
  have g0 : decide ((0 : Int) ≤ ((numS r.n).length : Int)) = true := decide_eq_true (by omega)
  have a1 : dAdd (pushD r) (.tuple [.int r.m]) = some (rowD r) := by
    show gd (decide (2 + 1 ≤ sizeLine)) _ = _
    exact gd_t _ (decide_eq_true (by rw [sizeLine_v]; omega))
  simp -implicitDefEqProofs only [mSeq, mDo, mRet, mRetN, mSet, mOwn, mKill, mAug, gT, gTs, gTup, mAsg, mOwnM, mApp, mExt, isOl, appT, extT, setT, gIx, mOIx, mOLen, mFreeze, mRetO, mFor, wz_bnd, wz_ok, ret, bad, optM, mVar, mNil, mCons, asB, ofB, mNo, mSome, mSl, mIf, mAnd, mOr, mNot, mChain, mTup, mLst, mFz, mCall, mMeth, mNeg, mIsN, mMs, mAndV, mOrV, mBin, mIter, itemsOf, mRange1, mRange2, mEnum, mListOf, mIsi, wz_bor, wz_borT, wz_noEx, wz_bad, runD, mRepl, pickSem, own_ol, own_fr, own_un, lend_nil, lend_ol, lend_fr, lend_un, isT_str, isT_list, isT_tuple, isT_int, isT_bint, Bool.not_true, Bool.not_false, List.getElem?_cons_zero, List.getElem?_cons_succ, List.getElem?_nil, List.set_cons_zero, List.set_cons_succ, List.replicate_succ, List.replicate_zero, List.cons_append, List.nil_append, List.length_cons, List.length_nil, atI_0, atI_1, atI_2, atI_3, atI_4, ixN_30, ixN_31, ixN_32, szl_0, szl_1, szl_2, szl_3, szl_4, szl_5, szl_6, szl_7, szl_8, szl_9, szl_10, szl_11, szl_12, gd, dEq_i, dNe_i, dLt, dLe, dGt, dGe, dIx_l, dIx_t, Option.bind_some, if_pos, if_neg, if_true, if_false, Nat.zero_add, decide_true, decide_false, Int.toNat_zero, Int.toNat_one, dAdd_i, dSub_i, not_false_eq_true, ite_true, ite_false, Int.reduceLE, Int.reduceLT, Int.reduceNeg, Int.reduceAdd, Int.reduceSub, Int.reduceToNat, Nat.reduceAdd, Nat.reduceLT, Nat.reduceLeDiff, Int.reduceEq, Nat.reduceEqDiff, Int.reduceMul, ↓reduceIte, Int.cast_ofNat_Int, z_deed_in, b_deed_in, decide_eq_true e1, e2]
  refine sure_do N ?_
  simp -implicitDefEqProofs only [mSeq, mDo, mRet, mRetN, mSet, mOwn, mKill, mAug, gT, gTs, gTup, mAsg, mOwnM, mApp, mExt, isOl, appT, extT, setT, gIx, mOIx, mOLen, mFreeze, mRetO, mFor, wz_bnd, wz_ok, ret, bad, optM, mVar, mNil, mCons, asB, ofB, mNo, mSome, mSl, mIf, mAnd, mOr, mNot, mChain, mTup, mLst, mFz, mCall, mMeth, mNeg, mIsN, mMs, mAndV, mOrV, mBin, mIter, itemsOf, mRange1, mRange2, mEnum, mListOf, mIsi, wz_bor, wz_borT, wz_noEx, wz_bad, runD, mRepl, pickSem, own_ol, own_fr, own_un, lend_nil, lend_ol, lend_fr, lend_un, isT_str, isT_list, isT_tuple, isT_int, isT_bint, Bool.not_true, Bool.not_false, List.getElem?_cons_zero, List.getElem?_cons_succ, List.getElem?_nil, List.set_cons_zero, List.set_cons_succ, List.replicate_succ, List.replicate_zero, List.cons_append, List.nil_append, List.length_cons, List.length_nil, atI_0, atI_1, atI_2, atI_3, atI_4, ixN_30, ixN_31, ixN_32, szl_0, szl_1, szl_2, szl_3, szl_4, szl_5, szl_6, szl_7, szl_8, szl_9, szl_10, szl_11, szl_12, gd, dEq_i, dNe_i, dLt, dLe, dGt, dGe, dIx_l, dIx_t, Option.bind_some, if_pos, if_neg, if_true, if_false, Nat.zero_add, decide_true, decide_false, Int.toNat_zero, Int.toNat_one, dAdd_i, dSub_i, not_false_eq_true, ite_true, ite_false, Int.reduceLE, Int.reduceLT, Int.reduceNeg, Int.reduceAdd, Int.reduceSub, Int.reduceToNat, Nat.reduceAdd, Nat.reduceLT, Nat.reduceLeDiff, Int.reduceEq, Nat.reduceEqDiff, Int.reduceMul, ↓reduceIte, Int.cast_ofNat_Int, g0, true_and]
  refine callF_1 ?_
  simp -implicitDefEqProofs only [mSeq, mDo, mRet, mRetN, mSet, mOwn, mKill, mAug, gT, gTs, gTup, mAsg, mOwnM, mApp, mExt, isOl, appT, extT, setT, gIx, mOIx, mOLen, mFreeze, mRetO, mFor, wz_bnd, wz_ok, ret, bad, optM, mVar, mNil, mCons, asB, ofB, mNo, mSome, mSl, mIf, mAnd, mOr, mNot, mChain, mTup, mLst, mFz, mCall, mMeth, mNeg, mIsN, mMs, mAndV, mOrV, mBin, mIter, itemsOf, mRange1, mRange2, mEnum, mListOf, mIsi, wz_bor, wz_borT, wz_noEx, wz_bad, runD, mRepl, pickSem, own_ol, own_fr, own_un, lend_nil, lend_ol, lend_fr, lend_un, isT_str, isT_list, isT_tuple, isT_int, isT_bint, Bool.not_true, Bool.not_false, List.getElem?_cons_zero, List.getElem?_cons_succ, List.getElem?_nil, List.set_cons_zero, List.set_cons_succ, List.replicate_succ, List.replicate_zero, List.cons_append, List.nil_append, List.length_cons, List.length_nil, atI_0, atI_1, atI_2, atI_3, atI_4, ixN_30, ixN_31, ixN_32, szl_0, szl_1, szl_2, szl_3, szl_4, szl_5, szl_6, szl_7, szl_8, szl_9, szl_10, szl_11, szl_12, gd, dEq_i, dNe_i, dLt, dLe, dGt, dGe, dIx_l, dIx_t, Option.bind_some, if_pos, if_neg, if_true, if_false, Nat.zero_add, decide_true, decide_false, Int.toNat_zero, Int.toNat_one, dAdd_i, dSub_i, not_false_eq_true, ite_true, ite_false, Int.reduceLE, Int.reduceLT, Int.reduceNeg, Int.reduceAdd, Int.reduceSub, Int.reduceToNat, Nat.reduceAdd, Nat.reduceLT, Nat.reduceLeDiff, Int.reduceEq, Nat.reduceEqDiff, Int.reduceMul, ↓reduceIte, Int.cast_ofNat_Int, c1]
  refine wz_imp (push_in_ok N h) fun fl l e => ⟨_, e, ?_⟩
  refine callF_1 ?_
  simp -implicitDefEqProofs only [mSeq, mDo, mRet, mRetN, mSet, mOwn, mKill, mAug, gT, gTs, gTup, mAsg, mOwnM, mApp, mExt, isOl, appT, extT, setT, gIx, mOIx, mOLen, mFreeze, mRetO, mFor, wz_bnd, wz_ok, ret, bad, optM, mVar, mNil, mCons, asB, ofB, mNo, mSome, mSl, mIf, mAnd, mOr, mNot, mChain, mTup, mLst, mFz, mCall, mMeth, mNeg, mIsN, mMs, mAndV, mOrV, mBin, mIter, itemsOf, mRange1, mRange2, mEnum, mListOf, mIsi, wz_bor, wz_borT, wz_noEx, wz_bad, runD, mRepl, pickSem, own_ol, own_fr, own_un, lend_nil, lend_ol, lend_fr, lend_un, isT_str, isT_list, isT_tuple, isT_int, isT_bint, Bool.not_true, Bool.not_false, List.getElem?_cons_zero, List.getElem?_cons_succ, List.getElem?_nil, List.set_cons_zero, List.set_cons_succ, List.replicate_succ, List.replicate_zero, List.cons_append, List.nil_append, List.length_cons, List.length_nil, atI_0, atI_1, atI_2, atI_3, atI_4, ixN_30, ixN_31, ixN_32, szl_0, szl_1, szl_2, szl_3, szl_4, szl_5, szl_6, szl_7, szl_8, szl_9, szl_10, szl_11, szl_12, gd, dEq_i, dNe_i, dLt, dLe, dGt, dGe, dIx_l, dIx_t, Option.bind_some, if_pos, if_neg, if_true, if_false, Nat.zero_add, decide_true, decide_false, Int.toNat_zero, Int.toNat_one, dAdd_i, dSub_i, not_false_eq_true, ite_true, ite_false, Int.reduceLE, Int.reduceLT, Int.reduceNeg, Int.reduceAdd, Int.reduceSub, Int.reduceToNat, Nat.reduceAdd, Nat.reduceLT, Nat.reduceLeDiff, Int.reduceEq, Nat.reduceEqDiff, Int.reduceMul, ↓reduceIte, Int.cast_ofNat_Int, c2]
  refine wz_imp (count_in_ok N h2) fun fl l e => ⟨_, e, ?_⟩
  simp -implicitDefEqProofs only [mSeq, mDo, mRet, mRetN, mSet, mOwn, mKill, mAug, gT, gTs, gTup, mAsg, mOwnM, mApp, mExt, isOl, appT, extT, setT, gIx, mOIx, mOLen, mFreeze, mRetO, mFor, wz_bnd, wz_ok, ret, bad, optM, mVar, mNil, mCons, asB, ofB, mNo, mSome, mSl, mIf, mAnd, mOr, mNot, mChain, mTup, mLst, mFz, mCall, mMeth, mNeg, mIsN, mMs, mAndV, mOrV, mBin, mIter, itemsOf, mRange1, mRange2, mEnum, mListOf, mIsi, wz_bor, wz_borT, wz_noEx, wz_bad, runD, mRepl, pickSem, own_ol, own_fr, own_un, lend_nil, lend_ol, lend_fr, lend_un, isT_str, isT_list, isT_tuple, isT_int, isT_bint, Bool.not_true, Bool.not_false, List.getElem?_cons_zero, List.getElem?_cons_succ, List.getElem?_nil, List.set_cons_zero, List.set_cons_succ, List.replicate_succ, List.replicate_zero, List.cons_append, List.nil_append, List.length_cons, List.length_nil, atI_0, atI_1, atI_2, atI_3, atI_4, ixN_30, ixN_31, ixN_32, szl_0, szl_1, szl_2, szl_3, szl_4, szl_5, szl_6, szl_7, szl_8, szl_9, szl_10, szl_11, szl_12, gd, dEq_i, dNe_i, dLt, dLe, dGt, dGe, dIx_l, dIx_t, Option.bind_some, if_pos, if_neg, if_true, if_false, Nat.zero_add, decide_true, decide_false, Int.toNat_zero, Int.toNat_one, dAdd_i, dSub_i, not_false_eq_true, ite_true, ite_false, Int.reduceLE, Int.reduceLT, Int.reduceNeg, Int.reduceAdd, Int.reduceSub, Int.reduceToNat, Nat.reduceAdd, Nat.reduceLT, Nat.reduceLeDiff, Int.reduceEq, Nat.reduceEqDiff, Int.reduceMul, ↓reduceIte, Int.cast_ofNat_Int, a1]
theorem shown_in_ok (N : Nat) {m : Int} (h : Tri m) : wz (z_shown_in N [.fr (.str (numS m))]) fun fl _ => fl = .rt (.int m) := by
  have sl : SeqAt.shaped (.list [.str "1", .str "-1", .str "0"]) = true := by decide +kernel
  have e1 : dIn false (.str (numS m)) (.list [.str "1", .str "-1", .str "0"]) = some (.bool true) := by
    show gd (SeqAt.shaped (.str (numS m)) && SeqAt.shaped (.list [.str "1", .str "-1", .str "0"])) _ = _
    rw [shaped_str (okS_tri h), sl]
    rcases h with rfl | rfl | rfl <;> (show some (PyData.bool _) = _; congr 2)
  have e2 : dInt [.str (numS m)] = some (.int m) := by
    have e : intText? (numS m) = some m := by rcases h with rfl | rfl | rfl <;> decide +kernel
    have l := len_tri h
    unfold dInt
    simp only [e]
    exact gd_t _ (decide_eq_true (by omega))
  simp -implicitDefEqProofs only [mSeq, mDo, mRet, mRetN, mSet, mOwn, mKill, mAug, gT, gTs, gTup, mAsg, mOwnM, mApp, mExt, isOl, appT, extT, setT, gIx, mOIx, mOLen, mFreeze, mRetO, mFor, wz_bnd, wz_ok, ret, bad, optM, mVar, mNil, mCons, asB, ofB, mNo, mSome, mSl, mIf, mAnd, mOr, mNot, mChain, mTup, mLst, mFz, mCall, mMeth, mNeg, mIsN, mMs, mAndV, mOrV, mBin, mIter, itemsOf, mRange1, mRange2, mEnum, mListOf, mIsi, wz_bor, wz_borT, wz_noEx, wz_bad, runD, mRepl, pickSem, own_ol, own_fr, own_un, lend_nil, lend_ol, lend_fr, lend_un, isT_str, isT_list, isT_tuple, isT_int, isT_bint, Bool.not_true, Bool.not_false, List.getElem?_cons_zero, List.getElem?_cons_succ, List.getElem?_nil, List.set_cons_zero, List.set_cons_succ, List.replicate_succ, List.replicate_zero, List.cons_append, List.nil_append, List.length_cons, List.length_nil, atI_0, atI_1, atI_2, atI_3, atI_4, ixN_30, ixN_31, ixN_32, szl_0, szl_1, szl_2, szl_3, szl_4, szl_5, szl_6, szl_7, szl_8, szl_9, szl_10, szl_11, szl_12, gd, dEq_i, dNe_i, dLt, dLe, dGt, dGe, dIx_l, dIx_t, Option.bind_some, if_pos, if_neg, if_true, if_false, Nat.zero_add, decide_true, decide_false, Int.toNat_zero, Int.toNat_one, dAdd_i, dSub_i, not_false_eq_true, ite_true, ite_false, Int.reduceLE, Int.reduceLT, Int.reduceNeg, Int.reduceAdd, Int.reduceSub, Int.reduceToNat, Nat.reduceAdd, Nat.reduceLT, Nat.reduceLeDiff, Int.reduceEq, Nat.reduceEqDiff, Int.reduceMul, ↓reduceIte, Int.cast_ofNat_Int, z_shown_in, b_shown_in]
  refine sure_do N ?_
  simp -implicitDefEqProofs only [mSeq, mDo, mRet, mRetN, mSet, mOwn, mKill, mAug, gT, gTs, gTup, mAsg, mOwnM, mApp, mExt, isOl, appT, extT, setT, gIx, mOIx, mOLen, mFreeze, mRetO, mFor, wz_bnd, wz_ok, ret, bad, optM, mVar, mNil, mCons, asB, ofB, mNo, mSome, mSl, mIf, mAnd, mOr, mNot, mChain, mTup, mLst, mFz, mCall, mMeth, mNeg, mIsN, mMs, mAndV, mOrV, mBin, mIter, itemsOf, mRange1, mRange2, mEnum, mListOf, mIsi, wz_bor, wz_borT, wz_noEx, wz_bad, runD, mRepl, pickSem, own_ol, own_fr, own_un, lend_nil, lend_ol, lend_fr, lend_un, isT_str, isT_list, isT_tuple, isT_int, isT_bint, Bool.not_true, Bool.not_false, List.getElem?_cons_zero, List.getElem?_cons_succ, List.getElem?_nil, List.set_cons_zero, List.set_cons_succ, List.replicate_succ, List.replicate_zero, List.cons_append, List.nil_append, List.length_cons, List.length_nil, atI_0, atI_1, atI_2, atI_3, atI_4, ixN_30, ixN_31, ixN_32, szl_0, szl_1, szl_2, szl_3, szl_4, szl_5, szl_6, szl_7, szl_8, szl_9, szl_10, szl_11, szl_12, gd, dEq_i, dNe_i, dLt, dLe, dGt, dGe, dIx_l, dIx_t, Option.bind_some, if_pos, if_neg, if_true, if_false, Nat.zero_add, decide_true, decide_false, Int.toNat_zero, Int.toNat_one, dAdd_i, dSub_i, not_false_eq_true, ite_true, ite_false, Int.reduceLE, Int.reduceLT, Int.reduceNeg, Int.reduceAdd, Int.reduceSub, Int.reduceToNat, Nat.reduceAdd, Nat.reduceLT, Nat.reduceLeDiff, Int.reduceEq, Nat.reduceEqDiff, Int.reduceMul, ↓reduceIte, Int.cast_ofNat_Int, e1, true_and, e2]
theorem read_of (N : Nat) {rs : List St} {enc : St → D} {out : St → Str} {g : List SV → R Fl} (hw : Words (rs.map out)) (h : ∀ r ∈ rs, wz (g [.fr (.str (out r))]) fun fl _ => fl = .rt (enc r)) :
    wz (mRetN (mComp [1] (mIter (mCallD false [] (z_words_in N) (aFr (mVar 0) aNil))) (gT 1) (ret true) (mCallD false [] g (aFr (mVar 1) aNil))) [.fr (.str (listS (rs.map out))), .un]) fun fl _ => fl = .ro (.ol (rs.map enc)) := by
  have hl : rs.length ≤ sizeLine := by have := hw.1; rw [List.length_map] at this; rw [sizeLine_v]; omega
  have key : wz (z_words_in N [.fr (.str (listS (rs.map out)))]) fun fl _ => fl = .rt (.list (rs.map fun r => .str (out r))) := by
    have := words_in_ok N hw
    rw [List.map_map] at this
    exact this
  simp -implicitDefEqProofs only [mSeq, mDo, mRet, mRetN, mSet, mOwn, mKill, mAug, gT, gTs, gTup, mAsg, mOwnM, mApp, mExt, isOl, appT, extT, setT, gIx, mOIx, mOLen, mFreeze, mRetO, mFor, wz_bnd, wz_ok, ret, bad, optM, mVar, mNil, mCons, asB, ofB, mNo, mSome, mSl, mIf, mAnd, mOr, mNot, mChain, mTup, mLst, mFz, mCall, mMeth, mNeg, mIsN, mMs, mAndV, mOrV, mBin, mIter, itemsOf, mRange1, mRange2, mEnum, mListOf, mIsi, wz_bor, wz_borT, wz_noEx, wz_bad, runD, mRepl, pickSem, own_ol, own_fr, own_un, lend_nil, lend_ol, lend_fr, lend_un, isT_str, isT_list, isT_tuple, isT_int, isT_bint, Bool.not_true, Bool.not_false, List.getElem?_cons_zero, List.getElem?_cons_succ, List.getElem?_nil, List.set_cons_zero, List.set_cons_succ, List.replicate_succ, List.replicate_zero, List.cons_append, List.nil_append, List.length_cons, List.length_nil, atI_0, atI_1, atI_2, atI_3, atI_4, ixN_30, ixN_31, ixN_32, szl_0, szl_1, szl_2, szl_3, szl_4, szl_5, szl_6, szl_7, szl_8, szl_9, szl_10, szl_11, szl_12, gd, dEq_i, dNe_i, dLt, dLe, dGt, dGe, dIx_l, dIx_t, Option.bind_some, if_pos, if_neg, if_true, if_false, Nat.zero_add, decide_true, decide_false, Int.toNat_zero, Int.toNat_one, dAdd_i, dSub_i, not_false_eq_true, ite_true, ite_false, Int.reduceLE, Int.reduceLT, Int.reduceNeg, Int.reduceAdd, Int.reduceSub, Int.reduceToNat, Nat.reduceAdd, Nat.reduceLT, Nat.reduceLeDiff, Int.reduceEq, Nat.reduceEqDiff, Int.reduceMul, ↓reduceIte, Int.cast_ofNat_Int, mComp]
  refine callP_1 rfl key ?_
  simp -implicitDefEqProofs only [mSeq, mDo, mRet, mRetN, mSet, mOwn, mKill, mAug, gT, gTs, gTup, mAsg, mOwnM, mApp, mExt, isOl, appT, extT, setT, gIx, mOIx, mOLen, mFreeze, mRetO, mFor, wz_bnd, wz_ok, ret, bad, optM, mVar, mNil, mCons, asB, ofB, mNo, mSome, mSl, mIf, mAnd, mOr, mNot, mChain, mTup, mLst, mFz, mCall, mMeth, mNeg, mIsN, mMs, mAndV, mOrV, mBin, mIter, itemsOf, mRange1, mRange2, mEnum, mListOf, mIsi, wz_bor, wz_borT, wz_noEx, wz_bad, runD, mRepl, pickSem, own_ol, own_fr, own_un, lend_nil, lend_ol, lend_fr, lend_un, isT_str, isT_list, isT_tuple, isT_int, isT_bint, Bool.not_true, Bool.not_false, List.getElem?_cons_zero, List.getElem?_cons_succ, List.getElem?_nil, List.set_cons_zero, List.set_cons_succ, List.replicate_succ, List.replicate_zero, List.cons_append, List.nil_append, List.length_cons, List.length_nil, atI_0, atI_1, atI_2, atI_3, atI_4, ixN_30, ixN_31, ixN_32, szl_0, szl_1, szl_2, szl_3, szl_4, szl_5, szl_6, szl_7, szl_8, szl_9, szl_10, szl_11, szl_12, gd, dEq_i, dNe_i, dLt, dLe, dGt, dGe, dIx_l, dIx_t, Option.bind_some, if_pos, if_neg, if_true, if_false, Nat.zero_add, decide_true, decide_false, Int.toNat_zero, Int.toNat_one, dAdd_i, dSub_i, not_false_eq_true, ite_true, ite_false, Int.reduceLE, Int.reduceLT, Int.reduceNeg, Int.reduceAdd, Int.reduceSub, Int.reduceToNat, Nat.reduceAdd, Nat.reduceLT, Nat.reduceLeDiff, Int.reduceEq, Nat.reduceEqDiff, Int.reduceMul, ↓reduceIte, Int.cast_ofNat_Int]
  refine comp_enc (fun r => .str (out r)) enc rfl hl (fun r hr => ?_) ?_
  · simp -implicitDefEqProofs only [mSeq, mDo, mRet, mRetN, mSet, mOwn, mKill, mAug, gT, gTs, gTup, mAsg, mOwnM, mApp, mExt, isOl, appT, extT, setT, gIx, mOIx, mOLen, mFreeze, mRetO, mFor, wz_bnd, wz_ok, ret, bad, optM, mVar, mNil, mCons, asB, ofB, mNo, mSome, mSl, mIf, mAnd, mOr, mNot, mChain, mTup, mLst, mFz, mCall, mMeth, mNeg, mIsN, mMs, mAndV, mOrV, mBin, mIter, itemsOf, mRange1, mRange2, mEnum, mListOf, mIsi, wz_bor, wz_borT, wz_noEx, wz_bad, runD, mRepl, pickSem, own_ol, own_fr, own_un, lend_nil, lend_ol, lend_fr, lend_un, isT_str, isT_list, isT_tuple, isT_int, isT_bint, Bool.not_true, Bool.not_false, List.getElem?_cons_zero, List.getElem?_cons_succ, List.getElem?_nil, List.set_cons_zero, List.set_cons_succ, List.replicate_succ, List.replicate_zero, List.cons_append, List.nil_append, List.length_cons, List.length_nil, atI_0, atI_1, atI_2, atI_3, atI_4, ixN_30, ixN_31, ixN_32, szl_0, szl_1, szl_2, szl_3, szl_4, szl_5, szl_6, szl_7, szl_8, szl_9, szl_10, szl_11, szl_12, gd, dEq_i, dNe_i, dLt, dLe, dGt, dGe, dIx_l, dIx_t, Option.bind_some, if_pos, if_neg, if_true, if_false, Nat.zero_add, decide_true, decide_false, Int.toNat_zero, Int.toNat_one, dAdd_i, dSub_i, not_false_eq_true, ite_true, ite_false, Int.reduceLE, Int.reduceLT, Int.reduceNeg, Int.reduceAdd, Int.reduceSub, Int.reduceToNat, Nat.reduceAdd, Nat.reduceLT, Nat.reduceLeDiff, Int.reduceEq, Nat.reduceEqDiff, Int.reduceMul, ↓reduceIte, Int.cast_ofNat_Int, killS]
    exact callP_1 rfl (h r hr) ⟨rfl, rfl⟩
  · rfl
theorem read_row_ok (N : Nat) {rs : List St} (hg : ∀ r ∈ rs, Nm r.n ∧ Nm r.m) (hw : Words (rs.map deedS)) : wz (z_read_row N [.fr (.str (listS (rs.map deedS)))]) fun fl _ => fl = .ro (.ol (rs.map rowD)) :=
  read_of N hw fun r hr => deed_in_ok N (hg r hr).1 (hg r hr).2
theorem read_pushes_ok (N : Nat) {rs : List St} (hg : ∀ r ∈ rs, Nm r.n) (hw : Words (rs.map stepS)) : wz (z_read_pushes N [.fr (.str (listS (rs.map stepS)))]) fun fl _ => fl = .ro (.ol (rs.map pushD)) :=
  read_of N hw fun r hr => push_in_ok N (hg r hr)
theorem part_eq {a b : Str} (h : 61 ∉ TL.tl a) (hl : (a ++ "=" ++ b).length ≤ 10000) : sPart (.str (a ++ "=" ++ b)) [.str "="] = some (.tuple [.str a, .str "=", .str b]) := by
  show gd (!((Str.ofString "=").length == 0) && decide ((a ++ "=" ++ b).length ≤ sizeLine)) (PyData.tuple [.str (Txt.partition (a ++ "=" ++ b) "=").1, .str (Txt.partition (a ++ "=" ++ b) "=").2.1, .str (Txt.partition (a ++ "=" ++ b) "=").2.2]) = _
  rw [TL.partition_app (s := 61) (S := []) (by rw [TL.tl_ofString]; rfl) h]
  refine gd_t _ ?_
  rw [len_eqS, decide_eq_true (by rw [sizeLine_v]; omega)]
  rfl
theorem no61_step {r : St} (h : 0 ≤ r.n) : 61 ∉ TL.tl (stepS r) := fun q => by
  unfold stepS at q
  rw [TL.tl_append] at q
  rcases List.mem_append.mp q with q | q
  · have := dig_nm h 61 q; omega
  · rw [tl_sg] at q
    generalize r.w = w at q
    cases w <;> simp at q
theorem no61_sg (w : Bool) : 61 ∉ TL.tl (sgS w) := fun q => by
  rw [tl_sg] at q
  cases w <;> simp at q
theorem read_shown_ok (N : Nat) {rs : List St} (hg : ∀ r ∈ rs, Nm r.n ∧ Tri r.m) (hw : Words (rs.map seenS)) : wz (z_read_shown N [.fr (.str (listS (rs.map seenS)))]) fun fl _ => fl = .ro (.ol (rs.map rowD)) := by
  have hl : rs.length ≤ 1000 := by have := hw.1; rw [List.length_map] at this; exact this
  have key : wz (z_words_in N [.fr (.str (listS (rs.map seenS)))]) fun fl _ => fl = .rt (.list (rs.map fun r => .str (seenS r))) := by
    have := words_in_ok N hw
    rw [List.map_map] at this
    exact this
  simp -implicitDefEqProofs only [mSeq, mDo, mRet, mRetN, mSet, mOwn, mKill, mAug, gT, gTs, gTup, mAsg, mOwnM, mApp, mExt, isOl, appT, extT, setT, gIx, mOIx, mOLen, mFreeze, mRetO, mFor, wz_bnd, wz_ok, ret, bad, optM, mVar, mNil, mCons, asB, ofB, mNo, mSome, mSl, mIf, mAnd, mOr, mNot, mChain, mTup, mLst, mFz, mCall, mMeth, mNeg, mIsN, mMs, mAndV, mOrV, mBin, mIter, itemsOf, mRange1, mRange2, mEnum, mListOf, mIsi, wz_bor, wz_borT, wz_noEx, wz_bad, runD, mRepl, pickSem, own_ol, own_fr, own_un, lend_nil, lend_ol, lend_fr, lend_un, isT_str, isT_list, isT_tuple, isT_int, isT_bint, Bool.not_true, Bool.not_false, List.getElem?_cons_zero, List.getElem?_cons_succ, List.getElem?_nil, List.set_cons_zero, List.set_cons_succ, List.replicate_succ, List.replicate_zero, List.cons_append, List.nil_append, List.length_cons, List.length_nil, atI_0, atI_1, atI_2, atI_3, atI_4, ixN_30, ixN_31, ixN_32, szl_0, szl_1, szl_2, szl_3, szl_4, szl_5, szl_6, szl_7, szl_8, szl_9, szl_10, szl_11, szl_12, gd, dEq_i, dNe_i, dLt, dLe, dGt, dGe, dIx_l, dIx_t, Option.bind_some, if_pos, if_neg, if_true, if_false, Nat.zero_add, decide_true, decide_false, Int.toNat_zero, Int.toNat_one, dAdd_i, dSub_i, not_false_eq_true, ite_true, ite_false, Int.reduceLE, Int.reduceLT, Int.reduceNeg, Int.reduceAdd, Int.reduceSub, Int.reduceToNat, Nat.reduceAdd, Nat.reduceLT, Nat.reduceLeDiff, Int.reduceEq, Nat.reduceEqDiff, Int.reduceMul, ↓reduceIte, Int.cast_ofNat_Int, z_read_shown, b_read_shown]
  refine callP_1 rfl key ?_
  simp -implicitDefEqProofs only [mSeq, mDo, mRet, mRetN, mSet, mOwn, mKill, mAug, gT, gTs, gTup, mAsg, mOwnM, mApp, mExt, isOl, appT, extT, setT, gIx, mOIx, mOLen, mFreeze, mRetO, mFor, wz_bnd, wz_ok, ret, bad, optM, mVar, mNil, mCons, asB, ofB, mNo, mSome, mSl, mIf, mAnd, mOr, mNot, mChain, mTup, mLst, mFz, mCall, mMeth, mNeg, mIsN, mMs, mAndV, mOrV, mBin, mIter, itemsOf, mRange1, mRange2, mEnum, mListOf, mIsi, wz_bor, wz_borT, wz_noEx, wz_bad, runD, mRepl, pickSem, own_ol, own_fr, own_un, lend_nil, lend_ol, lend_fr, lend_un, isT_str, isT_list, isT_tuple, isT_int, isT_bint, Bool.not_true, Bool.not_false, List.getElem?_cons_zero, List.getElem?_cons_succ, List.getElem?_nil, List.set_cons_zero, List.set_cons_succ, List.replicate_succ, List.replicate_zero, List.cons_append, List.nil_append, List.length_cons, List.length_nil, atI_0, atI_1, atI_2, atI_3, atI_4, ixN_30, ixN_31, ixN_32, szl_0, szl_1, szl_2, szl_3, szl_4, szl_5, szl_6, szl_7, szl_8, szl_9, szl_10, szl_11, szl_12, gd, dEq_i, dNe_i, dLt, dLe, dGt, dGe, dIx_l, dIx_t, Option.bind_some, if_pos, if_neg, if_true, if_false, Nat.zero_add, decide_true, decide_false, Int.toNat_zero, Int.toNat_one, dAdd_i, dSub_i, not_false_eq_true, ite_true, ite_false, Int.reduceLE, Int.reduceLT, Int.reduceNeg, Int.reduceAdd, Int.reduceSub, Int.reduceToNat, Nat.reduceAdd, Nat.reduceLT, Nat.reduceLeDiff, Int.reduceEq, Nat.reduceEqDiff, Int.reduceMul, ↓reduceIte, Int.cast_ofNat_Int]
  refine wz_for (fun ts l => ∃ (qs zs : List St) (x2 x3 x4 x5 : SV), l = [.fr (.str (listS (rs.map seenS))), .ol (zs.map rowD), x2, x3, x4, x5] ∧ ts = qs.map (fun r => .str (seenS r)) ∧ zs ++ qs = rs) (fun t ts l hI => ?_) (fun l hI => ?_) ⟨rs, [], _, _, _, _, rfl, rfl, rfl⟩
  · obtain ⟨qs, zs, x2, x3, x4, x5, rfl, e2, e3⟩ := hI
    cases qs with
    | nil => cases e2
    | cons r qs =>
      cases e2
      have hr : r ∈ rs := by rw [← e3]; exact List.mem_append_right _ (List.mem_cons_self ..)
      have hn : zs.length + (qs.length + 1) = rs.length := by rw [← e3, List.length_append, List.length_cons]
      obtain ⟨h1, h2⟩ := hg r hr
      have l3 := len_seen h1 h2
      have e4 : sPart (.str (seenS r)) [.str "="] = some (.tuple [.str (stepS r), .str "=", .str (numS r.m)]) := part_eq (no61_step h1.1) (by show (seenS r).length ≤ _; omega)
      have a1 : dAdd (pushD r) (.tuple [.int r.m]) = some (rowD r) := by
        show gd (decide (2 + 1 ≤ sizeLine)) _ = _
        exact gd_t _ (decide_eq_true (by rw [sizeLine_v]; omega))
      have z1 : decide (zs.length < sizeLine) = true := decide_eq_true (by rw [sizeLine_v]; omega)
      simp -implicitDefEqProofs only [mSeq, mDo, mRet, mRetN, mSet, mOwn, mKill, mAug, gT, gTs, gTup, mAsg, mOwnM, mApp, mExt, isOl, appT, extT, setT, gIx, mOIx, mOLen, mFreeze, mRetO, mFor, wz_bnd, wz_ok, ret, bad, optM, mVar, mNil, mCons, asB, ofB, mNo, mSome, mSl, mIf, mAnd, mOr, mNot, mChain, mTup, mLst, mFz, mCall, mMeth, mNeg, mIsN, mMs, mAndV, mOrV, mBin, mIter, itemsOf, mRange1, mRange2, mEnum, mListOf, mIsi, wz_bor, wz_borT, wz_noEx, wz_bad, runD, mRepl, pickSem, own_ol, own_fr, own_un, lend_nil, lend_ol, lend_fr, lend_un, isT_str, isT_list, isT_tuple, isT_int, isT_bint, Bool.not_true, Bool.not_false, List.getElem?_cons_zero, List.getElem?_cons_succ, List.getElem?_nil, List.set_cons_zero, List.set_cons_succ, List.replicate_succ, List.replicate_zero, List.cons_append, List.nil_append, List.length_cons, List.length_nil, atI_0, atI_1, atI_2, atI_3, atI_4, ixN_30, ixN_31, ixN_32, szl_0, szl_1, szl_2, szl_3, szl_4, szl_5, szl_6, szl_7, szl_8, szl_9, szl_10, szl_11, szl_12, gd, dEq_i, dNe_i, dLt, dLe, dGt, dGe, dIx_l, dIx_t, Option.bind_some, if_pos, if_neg, if_true, if_false, Nat.zero_add, decide_true, decide_false, Int.toNat_zero, Int.toNat_one, dAdd_i, dSub_i, not_false_eq_true, ite_true, ite_false, Int.reduceLE, Int.reduceLT, Int.reduceNeg, Int.reduceAdd, Int.reduceSub, Int.reduceToNat, Nat.reduceAdd, Nat.reduceLT, Nat.reduceLeDiff, Int.reduceEq, Nat.reduceEqDiff, Int.reduceMul, ↓reduceIte, Int.cast_ofNat_Int, killS, e4, decide_true]
      refine callP_1 rfl (push_in_ok N h1) ?_
      refine callP_1 rfl (shown_in_ok N h2) ?_
      simp -implicitDefEqProofs only [mSeq, mDo, mRet, mRetN, mSet, mOwn, mKill, mAug, gT, gTs, gTup, mAsg, mOwnM, mApp, mExt, isOl, appT, extT, setT, gIx, mOIx, mOLen, mFreeze, mRetO, mFor, wz_bnd, wz_ok, ret, bad, optM, mVar, mNil, mCons, asB, ofB, mNo, mSome, mSl, mIf, mAnd, mOr, mNot, mChain, mTup, mLst, mFz, mCall, mMeth, mNeg, mIsN, mMs, mAndV, mOrV, mBin, mIter, itemsOf, mRange1, mRange2, mEnum, mListOf, mIsi, wz_bor, wz_borT, wz_noEx, wz_bad, runD, mRepl, pickSem, own_ol, own_fr, own_un, lend_nil, lend_ol, lend_fr, lend_un, isT_str, isT_list, isT_tuple, isT_int, isT_bint, Bool.not_true, Bool.not_false, List.getElem?_cons_zero, List.getElem?_cons_succ, List.getElem?_nil, List.set_cons_zero, List.set_cons_succ, List.replicate_succ, List.replicate_zero, List.cons_append, List.nil_append, List.length_cons, List.length_nil, atI_0, atI_1, atI_2, atI_3, atI_4, ixN_30, ixN_31, ixN_32, szl_0, szl_1, szl_2, szl_3, szl_4, szl_5, szl_6, szl_7, szl_8, szl_9, szl_10, szl_11, szl_12, gd, dEq_i, dNe_i, dLt, dLe, dGt, dGe, dIx_l, dIx_t, Option.bind_some, if_pos, if_neg, if_true, if_false, Nat.zero_add, decide_true, decide_false, Int.toNat_zero, Int.toNat_one, dAdd_i, dSub_i, not_false_eq_true, ite_true, ite_false, Int.reduceLE, Int.reduceLT, Int.reduceNeg, Int.reduceAdd, Int.reduceSub, Int.reduceToNat, Nat.reduceAdd, Nat.reduceLT, Nat.reduceLeDiff, Int.reduceEq, Nat.reduceEqDiff, Int.reduceMul, ↓reduceIte, Int.cast_ofNat_Int, a1, List.length_map, z1]
      exact ⟨qs, zs ++ [r], _, _, _, _, by rw [List.map_append]; rfl, rfl, by rw [← e3]; simp⟩
  · obtain ⟨qs, zs, x2, x3, x4, x5, rfl, e2, e3⟩ := hI
    have : qs = [] := by
      cases qs with
      | nil => rfl
      | cons r qs => cases e2
    subst this
    rw [List.append_nil] at e3
    subst e3
    simp -implicitDefEqProofs only [mSeq, mDo, mRet, mRetN, mSet, mOwn, mKill, mAug, gT, gTs, gTup, mAsg, mOwnM, mApp, mExt, isOl, appT, extT, setT, gIx, mOIx, mOLen, mFreeze, mRetO, mFor, wz_bnd, wz_ok, ret, bad, optM, mVar, mNil, mCons, asB, ofB, mNo, mSome, mSl, mIf, mAnd, mOr, mNot, mChain, mTup, mLst, mFz, mCall, mMeth, mNeg, mIsN, mMs, mAndV, mOrV, mBin, mIter, itemsOf, mRange1, mRange2, mEnum, mListOf, mIsi, wz_bor, wz_borT, wz_noEx, wz_bad, runD, mRepl, pickSem, own_ol, own_fr, own_un, lend_nil, lend_ol, lend_fr, lend_un, isT_str, isT_list, isT_tuple, isT_int, isT_bint, Bool.not_true, Bool.not_false, List.getElem?_cons_zero, List.getElem?_cons_succ, List.getElem?_nil, List.set_cons_zero, List.set_cons_succ, List.replicate_succ, List.replicate_zero, List.cons_append, List.nil_append, List.length_cons, List.length_nil, atI_0, atI_1, atI_2, atI_3, atI_4, ixN_30, ixN_31, ixN_32, szl_0, szl_1, szl_2, szl_3, szl_4, szl_5, szl_6, szl_7, szl_8, szl_9, szl_10, szl_11, szl_12, gd, dEq_i, dNe_i, dLt, dLe, dGt, dGe, dIx_l, dIx_t, Option.bind_some, if_pos, if_neg, if_true, if_false, Nat.zero_add, decide_true, decide_false, Int.toNat_zero, Int.toNat_one, dAdd_i, dSub_i, not_false_eq_true, ite_true, ite_false, Int.reduceLE, Int.reduceLT, Int.reduceNeg, Int.reduceAdd, Int.reduceSub, Int.reduceToNat, Nat.reduceAdd, Nat.reduceLT, Nat.reduceLeDiff, Int.reduceEq, Nat.reduceEqDiff, Int.reduceMul, ↓reduceIte, Int.cast_ofNat_Int, killS]
theorem read_shows_ok (N : Nat) {rs : List St} (hg : ∀ r ∈ rs, Tri r.m) (hw : Words (rs.map showS)) : wz (z_read_shows N [.fr (.str (listS (rs.map showS)))]) fun fl _ => fl = .ro (.ol (rs.map showD)) := by
  have hl : rs.length ≤ 1000 := by have := hw.1; rw [List.length_map] at this; exact this
  have key : wz (z_words_in N [.fr (.str (listS (rs.map showS)))]) fun fl _ => fl = .rt (.list (rs.map fun r => .str (showS r))) := by
    have := words_in_ok N hw
    rw [List.map_map] at this
    exact this
  simp -implicitDefEqProofs only [mSeq, mDo, mRet, mRetN, mSet, mOwn, mKill, mAug, gT, gTs, gTup, mAsg, mOwnM, mApp, mExt, isOl, appT, extT, setT, gIx, mOIx, mOLen, mFreeze, mRetO, mFor, wz_bnd, wz_ok, ret, bad, optM, mVar, mNil, mCons, asB, ofB, mNo, mSome, mSl, mIf, mAnd, mOr, mNot, mChain, mTup, mLst, mFz, mCall, mMeth, mNeg, mIsN, mMs, mAndV, mOrV, mBin, mIter, itemsOf, mRange1, mRange2, mEnum, mListOf, mIsi, wz_bor, wz_borT, wz_noEx, wz_bad, runD, mRepl, pickSem, own_ol, own_fr, own_un, lend_nil, lend_ol, lend_fr, lend_un, isT_str, isT_list, isT_tuple, isT_int, isT_bint, Bool.not_true, Bool.not_false, List.getElem?_cons_zero, List.getElem?_cons_succ, List.getElem?_nil, List.set_cons_zero, List.set_cons_succ, List.replicate_succ, List.replicate_zero, List.cons_append, List.nil_append, List.length_cons, List.length_nil, atI_0, atI_1, atI_2, atI_3, atI_4, ixN_30, ixN_31, ixN_32, szl_0, szl_1, szl_2, szl_3, szl_4, szl_5, szl_6, szl_7, szl_8, szl_9, szl_10, szl_11, szl_12, gd, dEq_i, dNe_i, dLt, dLe, dGt, dGe, dIx_l, dIx_t, Option.bind_some, if_pos, if_neg, if_true, if_false, Nat.zero_add, decide_true, decide_false, Int.toNat_zero, Int.toNat_one, dAdd_i, dSub_i, not_false_eq_true, ite_true, ite_false, Int.reduceLE, Int.reduceLT, Int.reduceNeg, Int.reduceAdd, Int.reduceSub, Int.reduceToNat, Nat.reduceAdd, Nat.reduceLT, Nat.reduceLeDiff, Int.reduceEq, Nat.reduceEqDiff, Int.reduceMul, ↓reduceIte, Int.cast_ofNat_Int, z_read_shows, b_read_shows]
  refine callP_1 rfl key ?_
  simp -implicitDefEqProofs only [mSeq, mDo, mRet, mRetN, mSet, mOwn, mKill, mAug, gT, gTs, gTup, mAsg, mOwnM, mApp, mExt, isOl, appT, extT, setT, gIx, mOIx, mOLen, mFreeze, mRetO, mFor, wz_bnd, wz_ok, ret, bad, optM, mVar, mNil, mCons, asB, ofB, mNo, mSome, mSl, mIf, mAnd, mOr, mNot, mChain, mTup, mLst, mFz, mCall, mMeth, mNeg, mIsN, mMs, mAndV, mOrV, mBin, mIter, itemsOf, mRange1, mRange2, mEnum, mListOf, mIsi, wz_bor, wz_borT, wz_noEx, wz_bad, runD, mRepl, pickSem, own_ol, own_fr, own_un, lend_nil, lend_ol, lend_fr, lend_un, isT_str, isT_list, isT_tuple, isT_int, isT_bint, Bool.not_true, Bool.not_false, List.getElem?_cons_zero, List.getElem?_cons_succ, List.getElem?_nil, List.set_cons_zero, List.set_cons_succ, List.replicate_succ, List.replicate_zero, List.cons_append, List.nil_append, List.length_cons, List.length_nil, atI_0, atI_1, atI_2, atI_3, atI_4, ixN_30, ixN_31, ixN_32, szl_0, szl_1, szl_2, szl_3, szl_4, szl_5, szl_6, szl_7, szl_8, szl_9, szl_10, szl_11, szl_12, gd, dEq_i, dNe_i, dLt, dLe, dGt, dGe, dIx_l, dIx_t, Option.bind_some, if_pos, if_neg, if_true, if_false, Nat.zero_add, decide_true, decide_false, Int.toNat_zero, Int.toNat_one, dAdd_i, dSub_i, not_false_eq_true, ite_true, ite_false, Int.reduceLE, Int.reduceLT, Int.reduceNeg, Int.reduceAdd, Int.reduceSub, Int.reduceToNat, Nat.reduceAdd, Nat.reduceLT, Nat.reduceLeDiff, Int.reduceEq, Nat.reduceEqDiff, Int.reduceMul, ↓reduceIte, Int.cast_ofNat_Int]
  refine wz_for (fun ts l => ∃ (qs zs : List St) (x2 x3 x4 x5 : SV), l = [.fr (.str (listS (rs.map showS))), .ol (zs.map showD), x2, x3, x4, x5] ∧ ts = qs.map (fun r => .str (showS r)) ∧ zs ++ qs = rs) (fun t ts l hI => ?_) (fun l hI => ?_) ⟨rs, [], _, _, _, _, rfl, rfl, rfl⟩
  · obtain ⟨qs, zs, x2, x3, x4, x5, rfl, e2, e3⟩ := hI
    cases qs with
    | nil => cases e2
    | cons r qs =>
      cases e2
      have hr : r ∈ rs := by rw [← e3]; exact List.mem_append_right _ (List.mem_cons_self ..)
      have hn : zs.length + (qs.length + 1) = rs.length := by rw [← e3, List.length_append, List.length_cons]
      have h2 := hg r hr
      have l3 := len_show h2
      have e4 : sPart (.str (showS r)) [.str "="] = some (.tuple [.str (sgS r.w), .str "=", .str (numS r.m)]) := part_eq (no61_sg r.w) (by show (showS r).length ≤ _; omega)
      have z1 : decide (zs.length < sizeLine) = true := decide_eq_true (by rw [sizeLine_v]; omega)
      simp -implicitDefEqProofs only [mSeq, mDo, mRet, mRetN, mSet, mOwn, mKill, mAug, gT, gTs, gTup, mAsg, mOwnM, mApp, mExt, isOl, appT, extT, setT, gIx, mOIx, mOLen, mFreeze, mRetO, mFor, wz_bnd, wz_ok, ret, bad, optM, mVar, mNil, mCons, asB, ofB, mNo, mSome, mSl, mIf, mAnd, mOr, mNot, mChain, mTup, mLst, mFz, mCall, mMeth, mNeg, mIsN, mMs, mAndV, mOrV, mBin, mIter, itemsOf, mRange1, mRange2, mEnum, mListOf, mIsi, wz_bor, wz_borT, wz_noEx, wz_bad, runD, mRepl, pickSem, own_ol, own_fr, own_un, lend_nil, lend_ol, lend_fr, lend_un, isT_str, isT_list, isT_tuple, isT_int, isT_bint, Bool.not_true, Bool.not_false, List.getElem?_cons_zero, List.getElem?_cons_succ, List.getElem?_nil, List.set_cons_zero, List.set_cons_succ, List.replicate_succ, List.replicate_zero, List.cons_append, List.nil_append, List.length_cons, List.length_nil, atI_0, atI_1, atI_2, atI_3, atI_4, ixN_30, ixN_31, ixN_32, szl_0, szl_1, szl_2, szl_3, szl_4, szl_5, szl_6, szl_7, szl_8, szl_9, szl_10, szl_11, szl_12, gd, dEq_i, dNe_i, dLt, dLe, dGt, dGe, dIx_l, dIx_t, Option.bind_some, if_pos, if_neg, if_true, if_false, Nat.zero_add, decide_true, decide_false, Int.toNat_zero, Int.toNat_one, dAdd_i, dSub_i, not_false_eq_true, ite_true, ite_false, Int.reduceLE, Int.reduceLT, Int.reduceNeg, Int.reduceAdd, Int.reduceSub, Int.reduceToNat, Nat.reduceAdd, Nat.reduceLT, Nat.reduceLeDiff, Int.reduceEq, Nat.reduceEqDiff, Int.reduceMul, ↓reduceIte, Int.cast_ofNat_Int, killS, e4, decide_true]
      refine callP_1 rfl (way_in_ok N r.w) ?_
      refine callP_1 rfl (shown_in_ok N h2) ?_
      simp -implicitDefEqProofs only [mSeq, mDo, mRet, mRetN, mSet, mOwn, mKill, mAug, gT, gTs, gTup, mAsg, mOwnM, mApp, mExt, isOl, appT, extT, setT, gIx, mOIx, mOLen, mFreeze, mRetO, mFor, wz_bnd, wz_ok, ret, bad, optM, mVar, mNil, mCons, asB, ofB, mNo, mSome, mSl, mIf, mAnd, mOr, mNot, mChain, mTup, mLst, mFz, mCall, mMeth, mNeg, mIsN, mMs, mAndV, mOrV, mBin, mIter, itemsOf, mRange1, mRange2, mEnum, mListOf, mIsi, wz_bor, wz_borT, wz_noEx, wz_bad, runD, mRepl, pickSem, own_ol, own_fr, own_un, lend_nil, lend_ol, lend_fr, lend_un, isT_str, isT_list, isT_tuple, isT_int, isT_bint, Bool.not_true, Bool.not_false, List.getElem?_cons_zero, List.getElem?_cons_succ, List.getElem?_nil, List.set_cons_zero, List.set_cons_succ, List.replicate_succ, List.replicate_zero, List.cons_append, List.nil_append, List.length_cons, List.length_nil, atI_0, atI_1, atI_2, atI_3, atI_4, ixN_30, ixN_31, ixN_32, szl_0, szl_1, szl_2, szl_3, szl_4, szl_5, szl_6, szl_7, szl_8, szl_9, szl_10, szl_11, szl_12, gd, dEq_i, dNe_i, dLt, dLe, dGt, dGe, dIx_l, dIx_t, Option.bind_some, if_pos, if_neg, if_true, if_false, Nat.zero_add, decide_true, decide_false, Int.toNat_zero, Int.toNat_one, dAdd_i, dSub_i, not_false_eq_true, ite_true, ite_false, Int.reduceLE, Int.reduceLT, Int.reduceNeg, Int.reduceAdd, Int.reduceSub, Int.reduceToNat, Nat.reduceAdd, Nat.reduceLT, Nat.reduceLeDiff, Int.reduceEq, Nat.reduceEqDiff, Int.reduceMul, ↓reduceIte, Int.cast_ofNat_Int, List.length_map, z1]
      exact ⟨qs, zs ++ [r], _, _, _, _, by rw [List.map_append]; rfl, rfl, by rw [← e3]; simp⟩
  · obtain ⟨qs, zs, x2, x3, x4, x5, rfl, e2, e3⟩ := hI
    have : qs = [] := by
      cases qs with
      | nil => rfl
      | cons r qs => cases e2
    subst this
    rw [List.append_nil] at e3
    subst e3
    simp -implicitDefEqProofs only [mSeq, mDo, mRet, mRetN, mSet, mOwn, mKill, mAug, gT, gTs, gTup, mAsg, mOwnM, mApp, mExt, isOl, appT, extT, setT, gIx, mOIx, mOLen, mFreeze, mRetO, mFor, wz_bnd, wz_ok, ret, bad, optM, mVar, mNil, mCons, asB, ofB, mNo, mSome, mSl, mIf, mAnd, mOr, mNot, mChain, mTup, mLst, mFz, mCall, mMeth, mNeg, mIsN, mMs, mAndV, mOrV, mBin, mIter, itemsOf, mRange1, mRange2, mEnum, mListOf, mIsi, wz_bor, wz_borT, wz_noEx, wz_bad, runD, mRepl, pickSem, own_ol, own_fr, own_un, lend_nil, lend_ol, lend_fr, lend_un, isT_str, isT_list, isT_tuple, isT_int, isT_bint, Bool.not_true, Bool.not_false, List.getElem?_cons_zero, List.getElem?_cons_succ, List.getElem?_nil, List.set_cons_zero, List.set_cons_succ, List.replicate_succ, List.replicate_zero, List.cons_append, List.nil_append, List.length_cons, List.length_nil, atI_0, atI_1, atI_2, atI_3, atI_4, ixN_30, ixN_31, ixN_32, szl_0, szl_1, szl_2, szl_3, szl_4, szl_5, szl_6, szl_7, szl_8, szl_9, szl_10, szl_11, szl_12, gd, dEq_i, dNe_i, dLt, dLe, dGt, dGe, dIx_l, dIx_t, Option.bind_some, if_pos, if_neg, if_true, if_false, Nat.zero_add, decide_true, decide_false, Int.toNat_zero, Int.toNat_one, dAdd_i, dSub_i, not_false_eq_true, ite_true, ite_false, Int.reduceLE, Int.reduceLT, Int.reduceNeg, Int.reduceAdd, Int.reduceSub, Int.reduceToNat, Nat.reduceAdd, Nat.reduceLT, Nat.reduceLeDiff, Int.reduceEq, Nat.reduceEqDiff, Int.reduceMul, ↓reduceIte, Int.cast_ofNat_Int, killS]
end Tz
namespace Tz
open PySem PySem.Spec PyProof.Rows L2
/-! ### all four ways -/
theorem ixD_1 {sems : List (List SV → R Fl)} {fk : M D} {f : M D} {i : Int} {d t : D} {sem : List SV → R Fl} {ls : LS} {P : D → LS → Prop} (hk : fk ls = .ok (.int i) ls) (hi : atI sems i = some sem) (hf : f ls = .ok d ls) (h : wz (sem [.fr d]) fun fl _ => fl = .rt t) (p : P t ls) : wz (mIxCallD [] sems fk (aFr f aNil) ls) P := by
  simp -implicitDefEqProofs only [mSeq, mDo, mRet, mRetN, mSet, mOwn, mKill, mAug, gT, gTs, gTup, mAsg, mOwnM, mApp, mExt, isOl, appT, extT, setT, gIx, mOIx, mOLen, mFreeze, mRetO, mFor, wz_bnd, wz_ok, ret, bad, optM, mVar, mNil, mCons, asB, ofB, mNo, mSome, mSl, mIf, mAnd, mOr, mNot, mChain, mTup, mLst, mFz, mCall, mMeth, mNeg, mIsN, mMs, mAndV, mOrV, mBin, mIter, itemsOf, mRange1, mRange2, mEnum, mListOf, mIsi, wz_run, wz_bor, wz_borT, wz_noEx, wz_bad, aNil, aFr, aSlO, argSV, argSVs, slAt, backD, flD, flN, mCallD, mCallN, runD, mRepl, pickSem, mIxCallD, mIxCallN, own_ol, own_fr, own_un, lend_nil, lend_ol, lend_fr, lend_un, isT_str, isT_list, isT_tuple, isT_int, isT_bint, Bool.not_true, Bool.not_false, List.getElem?_cons_zero, List.getElem?_cons_succ, List.getElem?_nil, List.set_cons_zero, List.set_cons_succ, List.replicate_succ, List.replicate_zero, List.cons_append, List.nil_append, List.length_cons, List.length_nil, atI_0, atI_1, atI_2, atI_3, atI_4, ixN_30, ixN_31, ixN_32, szl_0, szl_1, szl_2, szl_3, szl_4, szl_5, szl_6, szl_7, szl_8, szl_9, szl_10, szl_11, szl_12, gd, dEq_i, dNe_i, dLt, dLe, dGt, dGe, dIx_l, dIx_t, Option.bind_some, if_pos, if_neg, if_true, if_false, Nat.zero_add, decide_true, decide_false, Int.toNat_zero, Int.toNat_one, dAdd_i, dSub_i, not_false_eq_true, ite_true, ite_false, Int.reduceLE, Int.reduceLT, Int.reduceNeg, Int.reduceAdd, Int.reduceSub, Int.reduceToNat, Nat.reduceAdd, Nat.reduceLT, Nat.reduceLeDiff, Int.reduceEq, Nat.reduceEqDiff, Int.reduceMul, ↓reduceIte, Int.cast_ofNat_Int, mIxCallD, hk, hi, hf, List.all_nil]
  refine wz_imp h fun fl l e => ?_
  subst e
  simp -implicitDefEqProofs only [mSeq, mDo, mRet, mRetN, mSet, mOwn, mKill, mAug, gT, gTs, gTup, mAsg, mOwnM, mApp, mExt, isOl, appT, extT, setT, gIx, mOIx, mOLen, mFreeze, mRetO, mFor, wz_bnd, wz_ok, ret, bad, optM, mVar, mNil, mCons, asB, ofB, mNo, mSome, mSl, mIf, mAnd, mOr, mNot, mChain, mTup, mLst, mFz, mCall, mMeth, mNeg, mIsN, mMs, mAndV, mOrV, mBin, mIter, itemsOf, mRange1, mRange2, mEnum, mListOf, mIsi, wz_run, wz_bor, wz_borT, wz_noEx, wz_bad, aNil, aFr, aSlO, argSV, argSVs, slAt, backD, flD, flN, mCallD, mCallN, runD, mRepl, pickSem, mIxCallD, mIxCallN, own_ol, own_fr, own_un, lend_nil, lend_ol, lend_fr, lend_un, isT_str, isT_list, isT_tuple, isT_int, isT_bint, Bool.not_true, Bool.not_false, List.getElem?_cons_zero, List.getElem?_cons_succ, List.getElem?_nil, List.set_cons_zero, List.set_cons_succ, List.replicate_succ, List.replicate_zero, List.cons_append, List.nil_append, List.length_cons, List.length_nil, atI_0, atI_1, atI_2, atI_3, atI_4, ixN_30, ixN_31, ixN_32, szl_0, szl_1, szl_2, szl_3, szl_4, szl_5, szl_6, szl_7, szl_8, szl_9, szl_10, szl_11, szl_12, gd, dEq_i, dNe_i, dLt, dLe, dGt, dGe, dIx_l, dIx_t, Option.bind_some, if_pos, if_neg, if_true, if_false, Nat.zero_add, decide_true, decide_false, Int.toNat_zero, Int.toNat_one, dAdd_i, dSub_i, not_false_eq_true, ite_true, ite_false, Int.reduceLE, Int.reduceLT, Int.reduceNeg, Int.reduceAdd, Int.reduceSub, Int.reduceToNat, Nat.reduceAdd, Nat.reduceLT, Nat.reduceLeDiff, Int.reduceEq, Nat.reduceEqDiff, Int.reduceMul, ↓reduceIte, Int.cast_ofNat_Int]
  exact p
theorem ixN_1 {sems : List (List SV → R Fl)} {fk : M D} {f : M D} {i : Int} {d : D} {t : SV} {sem : List SV → R Fl} {ls : LS} {P : SV → LS → Prop} (hk : fk ls = .ok (.int i) ls) (hi : atI sems i = some sem) (hf : f ls = .ok d ls) (h : wz (sem [.fr d]) fun fl _ => fl = .ro t) (p : P t ls) : wz (mIxCallN [] sems fk (aFr f aNil) ls) P := by
  simp -implicitDefEqProofs only [mSeq, mDo, mRet, mRetN, mSet, mOwn, mKill, mAug, gT, gTs, gTup, mAsg, mOwnM, mApp, mExt, isOl, appT, extT, setT, gIx, mOIx, mOLen, mFreeze, mRetO, mFor, wz_bnd, wz_ok, ret, bad, optM, mVar, mNil, mCons, asB, ofB, mNo, mSome, mSl, mIf, mAnd, mOr, mNot, mChain, mTup, mLst, mFz, mCall, mMeth, mNeg, mIsN, mMs, mAndV, mOrV, mBin, mIter, itemsOf, mRange1, mRange2, mEnum, mListOf, mIsi, wz_run, wz_bor, wz_borT, wz_noEx, wz_bad, aNil, aFr, aSlO, argSV, argSVs, slAt, backD, flD, flN, mCallD, mCallN, runD, mRepl, pickSem, mIxCallD, mIxCallN, own_ol, own_fr, own_un, lend_nil, lend_ol, lend_fr, lend_un, isT_str, isT_list, isT_tuple, isT_int, isT_bint, Bool.not_true, Bool.not_false, List.getElem?_cons_zero, List.getElem?_cons_succ, List.getElem?_nil, List.set_cons_zero, List.set_cons_succ, List.replicate_succ, List.replicate_zero, List.cons_append, List.nil_append, List.length_cons, List.length_nil, atI_0, atI_1, atI_2, atI_3, atI_4, ixN_30, ixN_31, ixN_32, szl_0, szl_1, szl_2, szl_3, szl_4, szl_5, szl_6, szl_7, szl_8, szl_9, szl_10, szl_11, szl_12, gd, dEq_i, dNe_i, dLt, dLe, dGt, dGe, dIx_l, dIx_t, Option.bind_some, if_pos, if_neg, if_true, if_false, Nat.zero_add, decide_true, decide_false, Int.toNat_zero, Int.toNat_one, dAdd_i, dSub_i, not_false_eq_true, ite_true, ite_false, Int.reduceLE, Int.reduceLT, Int.reduceNeg, Int.reduceAdd, Int.reduceSub, Int.reduceToNat, Nat.reduceAdd, Nat.reduceLT, Nat.reduceLeDiff, Int.reduceEq, Nat.reduceEqDiff, Int.reduceMul, ↓reduceIte, Int.cast_ofNat_Int, mIxCallN, hk, hi, hf, List.all_nil]
  refine wz_imp h fun fl l e => ?_
  subst e
  simp -implicitDefEqProofs only [mSeq, mDo, mRet, mRetN, mSet, mOwn, mKill, mAug, gT, gTs, gTup, mAsg, mOwnM, mApp, mExt, isOl, appT, extT, setT, gIx, mOIx, mOLen, mFreeze, mRetO, mFor, wz_bnd, wz_ok, ret, bad, optM, mVar, mNil, mCons, asB, ofB, mNo, mSome, mSl, mIf, mAnd, mOr, mNot, mChain, mTup, mLst, mFz, mCall, mMeth, mNeg, mIsN, mMs, mAndV, mOrV, mBin, mIter, itemsOf, mRange1, mRange2, mEnum, mListOf, mIsi, wz_run, wz_bor, wz_borT, wz_noEx, wz_bad, aNil, aFr, aSlO, argSV, argSVs, slAt, backD, flD, flN, mCallD, mCallN, runD, mRepl, pickSem, mIxCallD, mIxCallN, own_ol, own_fr, own_un, lend_nil, lend_ol, lend_fr, lend_un, isT_str, isT_list, isT_tuple, isT_int, isT_bint, Bool.not_true, Bool.not_false, List.getElem?_cons_zero, List.getElem?_cons_succ, List.getElem?_nil, List.set_cons_zero, List.set_cons_succ, List.replicate_succ, List.replicate_zero, List.cons_append, List.nil_append, List.length_cons, List.length_nil, atI_0, atI_1, atI_2, atI_3, atI_4, ixN_30, ixN_31, ixN_32, szl_0, szl_1, szl_2, szl_3, szl_4, szl_5, szl_6, szl_7, szl_8, szl_9, szl_10, szl_11, szl_12, gd, dEq_i, dNe_i, dLt, dLe, dGt, dGe, dIx_l, dIx_t, Option.bind_some, if_pos, if_neg, if_true, if_false, Nat.zero_add, decide_true, decide_false, Int.toNat_zero, Int.toNat_one, dAdd_i, dSub_i, not_false_eq_true, ite_true, ite_false, Int.reduceLE, Int.reduceLT, Int.reduceNeg, Int.reduceAdd, Int.reduceSub, Int.reduceToNat, Nat.reduceAdd, Nat.reduceLT, Nat.reduceLeDiff, Int.reduceEq, Nat.reduceEqDiff, Int.reduceMul, ↓reduceIte, Int.cast_ofNat_Int]
  exact p
/-- what one of the four ways wants -/
structure Kd (N : Nat) (i : Int) (enc : St → D) (out : St → Str) (G : St → Prop) : Prop where
  txt : ∃ t, atI [z_w_steps_text N, z_w_steps_text N, z_w_seen_text N, z_w_shows_text N] i = some t ∧ ∀ rs : List St, (∀ r ∈ rs, G r) → Words (rs.map out) → wz (t [.fr (.list (rs.map enc))]) fun fl _ => fl = .rt (.str (listS (rs.map out)))
  shw : ∃ t, atI [z_show_row N, z_show_pushes N, z_show_shown N, z_show_shows N] i = some t ∧ ∀ rs : List St, (∀ r ∈ rs, G r) → Words (rs.map out) → wz (t [.fr (.list (rs.map enc))]) fun fl _ => fl = .rt (.str (listS (rs.map out)))
  rd : ∃ t, atI [z_read_row N, z_read_pushes N, z_read_shown N, z_read_shows N] i = some t ∧ ∀ rs : List St, (∀ r ∈ rs, G r) → Words (rs.map out) → wz (t [.fr (.str (listS (rs.map out)))]) fun fl _ => fl = .ro (.ol (rs.map enc))
  nums : ∀ r, ∃ is : List Int, enc r = .tuple (is.map .int) ∧ is.length ≤ 3
  word : ∀ r, G r → (out r).length ≤ 100 ∧ okS (out r) ∧ 32 ∉ TL.tl (out r) ∧ TL.tl (out r) ≠ []
theorem lay_ints : ∀ is : List Int, PyData.canLayAll0 (is.map PyData.int) = true
  | [] => rfl
  | i :: is => by
    show (true && PyData.canLayAll0 (is.map PyData.int)) = true
    rw [lay_ints is]
    rfl
theorem depth_ints : ∀ is : List Int, PyData.depthAll (is.map PyData.int) = 0
  | [] => rfl
  | i :: is => by
    show max 0 (PyData.depthAll (is.map PyData.int)) = 0
    rw [depth_ints is]
    rfl
theorem shaped_rows {enc : St → D} (h : ∀ r, ∃ is : List Int, enc r = .tuple (is.map .int) ∧ is.length ≤ 3) (rs : List St) : SeqAt.shaped (.list (rs.map enc)) = true := by
  refine shaped_list (fun x hx => ?_) (fun x hx => ?_)
  · obtain ⟨r, _, rfl⟩ := List.mem_map.mp hx
    obtain ⟨is, e, _⟩ := h r
    rw [e]
    exact lay_ints is
  · obtain ⟨r, _, rfl⟩ := List.mem_map.mp hx
    obtain ⟨is, e, _⟩ := h r
    rw [e]
    show PyData.depthAll (is.map PyData.int) + 1 ≤ 10
    rw [depth_ints]
    decide
theorem ne_self {x : D} (h : SeqAt.shaped x = true) : dNe x x = some (.bool false) := by
  unfold dNe
  rw [h, SeqAt.eqv_refl x (SeqAt.canLay_of_shaped h)]
  rfl
theorem shaped_text {ws : List Str} (h : Words ws) : SeqAt.shaped (.str (listS ws)) = true := by
  cases ws with
  | nil => exact sh_none
  | cons w ws => exact shaped_str (okS_list h (by simp))
theorem whole_ok (N : Nat) (i : Int) : wz (z_w_whole N [.fr (.int i)]) fun fl _ => fl = .rt (.bool true) := by
  simp -implicitDefEqProofs only [mSeq, mDo, mRet, mRetN, mSet, mOwn, mKill, mAug, gT, gTs, gTup, mAsg, mOwnM, mApp, mExt, isOl, appT, extT, setT, gIx, mOIx, mOLen, mFreeze, mRetO, mFor, wz_bnd, wz_ok, ret, bad, optM, mVar, mNil, mCons, asB, ofB, mNo, mSome, mSl, mIf, mAnd, mOr, mNot, mChain, mTup, mLst, mFz, mCall, mMeth, mNeg, mIsN, mMs, mAndV, mOrV, mBin, mIter, itemsOf, mRange1, mRange2, mEnum, mListOf, mIsi, wz_run, wz_bor, wz_borT, wz_noEx, wz_bad, aNil, aFr, aSlO, argSV, argSVs, slAt, backD, flD, flN, mCallD, mCallN, runD, mRepl, pickSem, mIxCallD, mIxCallN, own_ol, own_fr, own_un, lend_nil, lend_ol, lend_fr, lend_un, isT_str, isT_list, isT_tuple, isT_int, isT_bint, Bool.not_true, Bool.not_false, List.getElem?_cons_zero, List.getElem?_cons_succ, List.getElem?_nil, List.set_cons_zero, List.set_cons_succ, List.replicate_succ, List.replicate_zero, List.cons_append, List.nil_append, List.length_cons, List.length_nil, atI_0, atI_1, atI_2, atI_3, atI_4, ixN_30, ixN_31, ixN_32, szl_0, szl_1, szl_2, szl_3, szl_4, szl_5, szl_6, szl_7, szl_8, szl_9, szl_10, szl_11, szl_12, gd, dEq_i, dNe_i, dLt, dLe, dGt, dGe, dIx_l, dIx_t, Option.bind_some, if_pos, if_neg, if_true, if_false, Nat.zero_add, decide_true, decide_false, Int.toNat_zero, Int.toNat_one, dAdd_i, dSub_i, not_false_eq_true, ite_true, ite_false, Int.reduceLE, Int.reduceLT, Int.reduceNeg, Int.reduceAdd, Int.reduceSub, Int.reduceToNat, Nat.reduceAdd, Nat.reduceLT, Nat.reduceLeDiff, Int.reduceEq, Nat.reduceEqDiff, Int.reduceMul, ↓reduceIte, Int.cast_ofNat_Int, z_w_whole, b_w_whole]
theorem words_of {N : Nat} {i : Int} {enc : St → D} {out : St → Str} {G : St → Prop} (k : Kd N i enc out G) {rs : List St} (hg : ∀ r ∈ rs, G r) (hl : rs.length ≤ 1000) : Words (rs.map out) :=
  ⟨by rw [List.length_map]; exact hl, fun w hw => by obtain ⟨r, hr, rfl⟩ := List.mem_map.mp hw; exact k.word r (hg r hr)⟩
theorem well_ok (N : Nat) {i : Int} {enc : St → D} {out : St → Str} {G : St → Prop} (k : Kd N i enc out G) {rs : List St} (hg : ∀ r ∈ rs, G r) (hl : rs.length ≤ 1000) : wz (z_w_well N [.fr (.int i), .fr (.list (rs.map enc))]) fun fl _ => fl = .rt (.bool true) := by
  have hw := words_of k hg hl
  obtain ⟨t1, e1, s1⟩ := k.txt
  obtain ⟨t2, e2, s2⟩ := k.shw
  obtain ⟨t3, e3, s3⟩ := k.rd
  have n1 := ne_self (shaped_text hw)
  have n2 := ne_self (shaped_rows k.nums rs)
  have hr : rangeD 0 2 = [.int 0, .int 1] := rfl
  have hi : inR 2 = true := rfl
  have z1 : decide (rs.length < sizeLine) = true := decide_eq_true (by rw [sizeLine_v]; omega)
  simp -implicitDefEqProofs only [mSeq, mDo, mRet, mRetN, mSet, mOwn, mKill, mAug, gT, gTs, gTup, mAsg, mOwnM, mApp, mExt, isOl, appT, extT, setT, gIx, mOIx, mOLen, mFreeze, mRetO, mFor, wz_bnd, wz_ok, ret, bad, optM, mVar, mNil, mCons, asB, ofB, mNo, mSome, mSl, mIf, mAnd, mOr, mNot, mChain, mTup, mLst, mFz, mCall, mMeth, mNeg, mIsN, mMs, mAndV, mOrV, mBin, mIter, itemsOf, mRange1, mRange2, mEnum, mListOf, mIsi, wz_bor, wz_borT, wz_noEx, wz_bad, runD, mRepl, pickSem, own_ol, own_fr, own_un, lend_nil, lend_ol, lend_fr, lend_un, isT_str, isT_list, isT_tuple, isT_int, isT_bint, Bool.not_true, Bool.not_false, List.getElem?_cons_zero, List.getElem?_cons_succ, List.getElem?_nil, List.set_cons_zero, List.set_cons_succ, List.replicate_succ, List.replicate_zero, List.cons_append, List.nil_append, List.length_cons, List.length_nil, atI_0, atI_1, atI_2, atI_3, atI_4, ixN_30, ixN_31, ixN_32, szl_0, szl_1, szl_2, szl_3, szl_4, szl_5, szl_6, szl_7, szl_8, szl_9, szl_10, szl_11, szl_12, gd, dEq_i, dNe_i, dLt, dLe, dGt, dGe, dIx_l, dIx_t, Option.bind_some, if_pos, if_neg, if_true, if_false, Nat.zero_add, decide_true, decide_false, Int.toNat_zero, Int.toNat_one, dAdd_i, dSub_i, not_false_eq_true, ite_true, ite_false, Int.reduceLE, Int.reduceLT, Int.reduceNeg, Int.reduceAdd, Int.reduceSub, Int.reduceToNat, Nat.reduceAdd, Nat.reduceLT, Nat.reduceLeDiff, Int.reduceEq, Nat.reduceEqDiff, Int.reduceMul, ↓reduceIte, Int.cast_ofNat_Int, z_w_well, b_w_well]
  refine ixD_1 rfl e1 rfl (s1 rs hg hw) ?_
  simp -implicitDefEqProofs only [mSeq, mDo, mRet, mRetN, mSet, mOwn, mKill, mAug, gT, gTs, gTup, mAsg, mOwnM, mApp, mExt, isOl, appT, extT, setT, gIx, mOIx, mOLen, mFreeze, mRetO, mFor, wz_bnd, wz_ok, ret, bad, optM, mVar, mNil, mCons, asB, ofB, mNo, mSome, mSl, mIf, mAnd, mOr, mNot, mChain, mTup, mLst, mFz, mCall, mMeth, mNeg, mIsN, mMs, mAndV, mOrV, mBin, mIter, itemsOf, mRange1, mRange2, mEnum, mListOf, mIsi, wz_bor, wz_borT, wz_noEx, wz_bad, runD, mRepl, pickSem, own_ol, own_fr, own_un, lend_nil, lend_ol, lend_fr, lend_un, isT_str, isT_list, isT_tuple, isT_int, isT_bint, Bool.not_true, Bool.not_false, List.getElem?_cons_zero, List.getElem?_cons_succ, List.getElem?_nil, List.set_cons_zero, List.set_cons_succ, List.replicate_succ, List.replicate_zero, List.cons_append, List.nil_append, List.length_cons, List.length_nil, atI_0, atI_1, atI_2, atI_3, atI_4, ixN_30, ixN_31, ixN_32, szl_0, szl_1, szl_2, szl_3, szl_4, szl_5, szl_6, szl_7, szl_8, szl_9, szl_10, szl_11, szl_12, gd, dEq_i, dNe_i, dLt, dLe, dGt, dGe, dIx_l, dIx_t, Option.bind_some, if_pos, if_neg, if_true, if_false, Nat.zero_add, decide_true, decide_false, Int.toNat_zero, Int.toNat_one, dAdd_i, dSub_i, not_false_eq_true, ite_true, ite_false, Int.reduceLE, Int.reduceLT, Int.reduceNeg, Int.reduceAdd, Int.reduceSub, Int.reduceToNat, Nat.reduceAdd, Nat.reduceLT, Nat.reduceLeDiff, Int.reduceEq, Nat.reduceEqDiff, Int.reduceMul, ↓reduceIte, Int.cast_ofNat_Int]
  refine ixD_1 rfl e2 rfl (s2 rs hg hw) ?_
  simp -implicitDefEqProofs only [mSeq, mDo, mRet, mRetN, mSet, mOwn, mKill, mAug, gT, gTs, gTup, mAsg, mOwnM, mApp, mExt, isOl, appT, extT, setT, gIx, mOIx, mOLen, mFreeze, mRetO, mFor, wz_bnd, wz_ok, ret, bad, optM, mVar, mNil, mCons, asB, ofB, mNo, mSome, mSl, mIf, mAnd, mOr, mNot, mChain, mTup, mLst, mFz, mCall, mMeth, mNeg, mIsN, mMs, mAndV, mOrV, mBin, mIter, itemsOf, mRange1, mRange2, mEnum, mListOf, mIsi, wz_bor, wz_borT, wz_noEx, wz_bad, runD, mRepl, pickSem, own_ol, own_fr, own_un, lend_nil, lend_ol, lend_fr, lend_un, isT_str, isT_list, isT_tuple, isT_int, isT_bint, Bool.not_true, Bool.not_false, List.getElem?_cons_zero, List.getElem?_cons_succ, List.getElem?_nil, List.set_cons_zero, List.set_cons_succ, List.replicate_succ, List.replicate_zero, List.cons_append, List.nil_append, List.length_cons, List.length_nil, atI_0, atI_1, atI_2, atI_3, atI_4, ixN_30, ixN_31, ixN_32, szl_0, szl_1, szl_2, szl_3, szl_4, szl_5, szl_6, szl_7, szl_8, szl_9, szl_10, szl_11, szl_12, gd, dEq_i, dNe_i, dLt, dLe, dGt, dGe, dIx_l, dIx_t, Option.bind_some, if_pos, if_neg, if_true, if_false, Nat.zero_add, decide_true, decide_false, Int.toNat_zero, Int.toNat_one, dAdd_i, dSub_i, not_false_eq_true, ite_true, ite_false, Int.reduceLE, Int.reduceLT, Int.reduceNeg, Int.reduceAdd, Int.reduceSub, Int.reduceToNat, Nat.reduceAdd, Nat.reduceLT, Nat.reduceLeDiff, Int.reduceEq, Nat.reduceEqDiff, Int.reduceMul, ↓reduceIte, Int.cast_ofNat_Int, n1, n2, hr, hi]
  refine wz_for (fun ts l => ∃ (x5 x6 : SV), l = [.fr (.int i), .fr (.list (rs.map enc)), .fr (.list (rs.map enc)), .fr (.str (listS (rs.map out))), .fr (.str (listS (rs.map out))), x5, x6, .un, .un]) (fun t ts l hI => ?_) (fun l hI => ?_) ⟨_, _, rfl⟩
  · obtain ⟨x5, x6, rfl⟩ := hI
    simp -implicitDefEqProofs only [mSeq, mDo, mRet, mRetN, mSet, mOwn, mKill, mAug, gT, gTs, gTup, mAsg, mOwnM, mApp, mExt, isOl, appT, extT, setT, gIx, mOIx, mOLen, mFreeze, mRetO, mFor, wz_bnd, wz_ok, ret, bad, optM, mVar, mNil, mCons, asB, ofB, mNo, mSome, mSl, mIf, mAnd, mOr, mNot, mChain, mTup, mLst, mFz, mCall, mMeth, mNeg, mIsN, mMs, mAndV, mOrV, mBin, mIter, itemsOf, mRange1, mRange2, mEnum, mListOf, mIsi, wz_bor, wz_borT, wz_noEx, wz_bad, runD, mRepl, pickSem, own_ol, own_fr, own_un, lend_nil, lend_ol, lend_fr, lend_un, isT_str, isT_list, isT_tuple, isT_int, isT_bint, Bool.not_true, Bool.not_false, List.getElem?_cons_zero, List.getElem?_cons_succ, List.getElem?_nil, List.set_cons_zero, List.set_cons_succ, List.replicate_succ, List.replicate_zero, List.cons_append, List.nil_append, List.length_cons, List.length_nil, atI_0, atI_1, atI_2, atI_3, atI_4, ixN_30, ixN_31, ixN_32, szl_0, szl_1, szl_2, szl_3, szl_4, szl_5, szl_6, szl_7, szl_8, szl_9, szl_10, szl_11, szl_12, gd, dEq_i, dNe_i, dLt, dLe, dGt, dGe, dIx_l, dIx_t, Option.bind_some, if_pos, if_neg, if_true, if_false, Nat.zero_add, decide_true, decide_false, Int.toNat_zero, Int.toNat_one, dAdd_i, dSub_i, not_false_eq_true, ite_true, ite_false, Int.reduceLE, Int.reduceLT, Int.reduceNeg, Int.reduceAdd, Int.reduceSub, Int.reduceToNat, Nat.reduceAdd, Nat.reduceLT, Nat.reduceLeDiff, Int.reduceEq, Nat.reduceEqDiff, Int.reduceMul, ↓reduceIte, Int.cast_ofNat_Int, killS]
    refine ixN_1 rfl e3 rfl (s3 rs hg hw) ?_
    simp -implicitDefEqProofs only [mSeq, mDo, mRet, mRetN, mSet, mOwn, mKill, mAug, gT, gTs, gTup, mAsg, mOwnM, mApp, mExt, isOl, appT, extT, setT, gIx, mOIx, mOLen, mFreeze, mRetO, mFor, wz_bnd, wz_ok, ret, bad, optM, mVar, mNil, mCons, asB, ofB, mNo, mSome, mSl, mIf, mAnd, mOr, mNot, mChain, mTup, mLst, mFz, mCall, mMeth, mNeg, mIsN, mMs, mAndV, mOrV, mBin, mIter, itemsOf, mRange1, mRange2, mEnum, mListOf, mIsi, wz_bor, wz_borT, wz_noEx, wz_bad, runD, mRepl, pickSem, own_ol, own_fr, own_un, lend_nil, lend_ol, lend_fr, lend_un, isT_str, isT_list, isT_tuple, isT_int, isT_bint, Bool.not_true, Bool.not_false, List.getElem?_cons_zero, List.getElem?_cons_succ, List.getElem?_nil, List.set_cons_zero, List.set_cons_succ, List.replicate_succ, List.replicate_zero, List.cons_append, List.nil_append, List.length_cons, List.length_nil, atI_0, atI_1, atI_2, atI_3, atI_4, ixN_30, ixN_31, ixN_32, szl_0, szl_1, szl_2, szl_3, szl_4, szl_5, szl_6, szl_7, szl_8, szl_9, szl_10, szl_11, szl_12, gd, dEq_i, dNe_i, dLt, dLe, dGt, dGe, dIx_l, dIx_t, Option.bind_some, if_pos, if_neg, if_true, if_false, Nat.zero_add, decide_true, decide_false, Int.toNat_zero, Int.toNat_one, dAdd_i, dSub_i, not_false_eq_true, ite_true, ite_false, Int.reduceLE, Int.reduceLT, Int.reduceNeg, Int.reduceAdd, Int.reduceSub, Int.reduceToNat, Nat.reduceAdd, Nat.reduceLT, Nat.reduceLeDiff, Int.reduceEq, Nat.reduceEqDiff, Int.reduceMul, ↓reduceIte, Int.cast_ofNat_Int, n2, mComp]
    refine comp_enc enc (fun _ => .bool true) rfl (by rw [sizeLine_v]; omega) (fun r hr => ?_) ?_
    · obtain ⟨is, ei, li⟩ := k.nums r
      simp -implicitDefEqProofs only [mSeq, mDo, mRet, mRetN, mSet, mOwn, mKill, mAug, gT, gTs, gTup, mAsg, mOwnM, mApp, mExt, isOl, appT, extT, setT, gIx, mOIx, mOLen, mFreeze, mRetO, mFor, wz_bnd, wz_ok, ret, bad, optM, mVar, mNil, mCons, asB, ofB, mNo, mSome, mSl, mIf, mAnd, mOr, mNot, mChain, mTup, mLst, mFz, mCall, mMeth, mNeg, mIsN, mMs, mAndV, mOrV, mBin, mIter, itemsOf, mRange1, mRange2, mEnum, mListOf, mIsi, wz_bor, wz_borT, wz_noEx, wz_bad, runD, mRepl, pickSem, own_ol, own_fr, own_un, lend_nil, lend_ol, lend_fr, lend_un, isT_str, isT_list, isT_tuple, isT_int, isT_bint, Bool.not_true, Bool.not_false, List.getElem?_cons_zero, List.getElem?_cons_succ, List.getElem?_nil, List.set_cons_zero, List.set_cons_succ, List.replicate_succ, List.replicate_zero, List.cons_append, List.nil_append, List.length_cons, List.length_nil, atI_0, atI_1, atI_2, atI_3, atI_4, ixN_30, ixN_31, ixN_32, szl_0, szl_1, szl_2, szl_3, szl_4, szl_5, szl_6, szl_7, szl_8, szl_9, szl_10, szl_11, szl_12, gd, dEq_i, dNe_i, dLt, dLe, dGt, dGe, dIx_l, dIx_t, Option.bind_some, if_pos, if_neg, if_true, if_false, Nat.zero_add, decide_true, decide_false, Int.toNat_zero, Int.toNat_one, dAdd_i, dSub_i, not_false_eq_true, ite_true, ite_false, Int.reduceLE, Int.reduceLT, Int.reduceNeg, Int.reduceAdd, Int.reduceSub, Int.reduceToNat, Nat.reduceAdd, Nat.reduceLT, Nat.reduceLeDiff, Int.reduceEq, Nat.reduceEqDiff, Int.reduceMul, ↓reduceIte, Int.cast_ofNat_Int, ei, mComp]
      refine comp_enc (fun i : Int => (.int i : D)) (fun _ => .bool true) rfl (by rw [sizeLine_v]; omega) (fun j hj => ?_) ?_
      · simp -implicitDefEqProofs only [mSeq, mDo, mRet, mRetN, mSet, mOwn, mKill, mAug, gT, gTs, gTup, mAsg, mOwnM, mApp, mExt, isOl, appT, extT, setT, gIx, mOIx, mOLen, mFreeze, mRetO, mFor, wz_bnd, wz_ok, ret, bad, optM, mVar, mNil, mCons, asB, ofB, mNo, mSome, mSl, mIf, mAnd, mOr, mNot, mChain, mTup, mLst, mFz, mCall, mMeth, mNeg, mIsN, mMs, mAndV, mOrV, mBin, mIter, itemsOf, mRange1, mRange2, mEnum, mListOf, mIsi, wz_bor, wz_borT, wz_noEx, wz_bad, runD, mRepl, pickSem, own_ol, own_fr, own_un, lend_nil, lend_ol, lend_fr, lend_un, isT_str, isT_list, isT_tuple, isT_int, isT_bint, Bool.not_true, Bool.not_false, List.getElem?_cons_zero, List.getElem?_cons_succ, List.getElem?_nil, List.set_cons_zero, List.set_cons_succ, List.replicate_succ, List.replicate_zero, List.cons_append, List.nil_append, List.length_cons, List.length_nil, atI_0, atI_1, atI_2, atI_3, atI_4, ixN_30, ixN_31, ixN_32, szl_0, szl_1, szl_2, szl_3, szl_4, szl_5, szl_6, szl_7, szl_8, szl_9, szl_10, szl_11, szl_12, gd, dEq_i, dNe_i, dLt, dLe, dGt, dGe, dIx_l, dIx_t, Option.bind_some, if_pos, if_neg, if_true, if_false, Nat.zero_add, decide_true, decide_false, Int.toNat_zero, Int.toNat_one, dAdd_i, dSub_i, not_false_eq_true, ite_true, ite_false, Int.reduceLE, Int.reduceLT, Int.reduceNeg, Int.reduceAdd, Int.reduceSub, Int.reduceToNat, Nat.reduceAdd, Nat.reduceLT, Nat.reduceLeDiff, Int.reduceEq, Nat.reduceEqDiff, Int.reduceMul, ↓reduceIte, Int.cast_ofNat_Int, killS]
        exact callP_1 rfl (whole_ok N j) ⟨rfl, rfl⟩
      · simp -implicitDefEqProofs only [mSeq, mDo, mRet, mRetN, mSet, mOwn, mKill, mAug, gT, gTs, gTup, mAsg, mOwnM, mApp, mExt, isOl, appT, extT, setT, gIx, mOIx, mOLen, mFreeze, mRetO, mFor, wz_bnd, wz_ok, ret, bad, optM, mVar, mNil, mCons, asB, ofB, mNo, mSome, mSl, mIf, mAnd, mOr, mNot, mChain, mTup, mLst, mFz, mCall, mMeth, mNeg, mIsN, mMs, mAndV, mOrV, mBin, mIter, itemsOf, mRange1, mRange2, mEnum, mListOf, mIsi, wz_bor, wz_borT, wz_noEx, wz_bad, runD, mRepl, pickSem, own_ol, own_fr, own_un, lend_nil, lend_ol, lend_fr, lend_un, isT_str, isT_list, isT_tuple, isT_int, isT_bint, Bool.not_true, Bool.not_false, List.getElem?_cons_zero, List.getElem?_cons_succ, List.getElem?_nil, List.set_cons_zero, List.set_cons_succ, List.replicate_succ, List.replicate_zero, List.cons_append, List.nil_append, List.length_cons, List.length_nil, atI_0, atI_1, atI_2, atI_3, atI_4, ixN_30, ixN_31, ixN_32, szl_0, szl_1, szl_2, szl_3, szl_4, szl_5, szl_6, szl_7, szl_8, szl_9, szl_10, szl_11, szl_12, gd, dEq_i, dNe_i, dLt, dLe, dGt, dGe, dIx_l, dIx_t, Option.bind_some, if_pos, if_neg, if_true, if_false, Nat.zero_add, decide_true, decide_false, Int.toNat_zero, Int.toNat_one, dAdd_i, dSub_i, not_false_eq_true, ite_true, ite_false, Int.reduceLE, Int.reduceLT, Int.reduceNeg, Int.reduceAdd, Int.reduceSub, Int.reduceToNat, Nat.reduceAdd, Nat.reduceLT, Nat.reduceLeDiff, Int.reduceEq, Nat.reduceEqDiff, Int.reduceMul, ↓reduceIte, Int.cast_ofNat_Int, all_true, killS]
        trivial
    · simp -implicitDefEqProofs only [mSeq, mDo, mRet, mRetN, mSet, mOwn, mKill, mAug, gT, gTs, gTup, mAsg, mOwnM, mApp, mExt, isOl, appT, extT, setT, gIx, mOIx, mOLen, mFreeze, mRetO, mFor, wz_bnd, wz_ok, ret, bad, optM, mVar, mNil, mCons, asB, ofB, mNo, mSome, mSl, mIf, mAnd, mOr, mNot, mChain, mTup, mLst, mFz, mCall, mMeth, mNeg, mIsN, mMs, mAndV, mOrV, mBin, mIter, itemsOf, mRange1, mRange2, mEnum, mListOf, mIsi, wz_bor, wz_borT, wz_noEx, wz_bad, runD, mRepl, pickSem, own_ol, own_fr, own_un, lend_nil, lend_ol, lend_fr, lend_un, isT_str, isT_list, isT_tuple, isT_int, isT_bint, Bool.not_true, Bool.not_false, List.getElem?_cons_zero, List.getElem?_cons_succ, List.getElem?_nil, List.set_cons_zero, List.set_cons_succ, List.replicate_succ, List.replicate_zero, List.cons_append, List.nil_append, List.length_cons, List.length_nil, atI_0, atI_1, atI_2, atI_3, atI_4, ixN_30, ixN_31, ixN_32, szl_0, szl_1, szl_2, szl_3, szl_4, szl_5, szl_6, szl_7, szl_8, szl_9, szl_10, szl_11, szl_12, gd, dEq_i, dNe_i, dLt, dLe, dGt, dGe, dIx_l, dIx_t, Option.bind_some, if_pos, if_neg, if_true, if_false, Nat.zero_add, decide_true, decide_false, Int.toNat_zero, Int.toNat_one, dAdd_i, dSub_i, not_false_eq_true, ite_true, ite_false, Int.reduceLE, Int.reduceLT, Int.reduceNeg, Int.reduceAdd, Int.reduceSub, Int.reduceToNat, Nat.reduceAdd, Nat.reduceLT, Nat.reduceLeDiff, Int.reduceEq, Nat.reduceEqDiff, Int.reduceMul, ↓reduceIte, Int.cast_ofNat_Int, all_true, List.length_map, z1]
      exact ⟨_, _, rfl⟩
  · obtain ⟨x5, x6, rfl⟩ := hI
    simp -implicitDefEqProofs only [mSeq, mDo, mRet, mRetN, mSet, mOwn, mKill, mAug, gT, gTs, gTup, mAsg, mOwnM, mApp, mExt, isOl, appT, extT, setT, gIx, mOIx, mOLen, mFreeze, mRetO, mFor, wz_bnd, wz_ok, ret, bad, optM, mVar, mNil, mCons, asB, ofB, mNo, mSome, mSl, mIf, mAnd, mOr, mNot, mChain, mTup, mLst, mFz, mCall, mMeth, mNeg, mIsN, mMs, mAndV, mOrV, mBin, mIter, itemsOf, mRange1, mRange2, mEnum, mListOf, mIsi, wz_bor, wz_borT, wz_noEx, wz_bad, runD, mRepl, pickSem, own_ol, own_fr, own_un, lend_nil, lend_ol, lend_fr, lend_un, isT_str, isT_list, isT_tuple, isT_int, isT_bint, Bool.not_true, Bool.not_false, List.getElem?_cons_zero, List.getElem?_cons_succ, List.getElem?_nil, List.set_cons_zero, List.set_cons_succ, List.replicate_succ, List.replicate_zero, List.cons_append, List.nil_append, List.length_cons, List.length_nil, atI_0, atI_1, atI_2, atI_3, atI_4, ixN_30, ixN_31, ixN_32, szl_0, szl_1, szl_2, szl_3, szl_4, szl_5, szl_6, szl_7, szl_8, szl_9, szl_10, szl_11, szl_12, gd, dEq_i, dNe_i, dLt, dLe, dGt, dGe, dIx_l, dIx_t, Option.bind_some, if_pos, if_neg, if_true, if_false, Nat.zero_add, decide_true, decide_false, Int.toNat_zero, Int.toNat_one, dAdd_i, dSub_i, not_false_eq_true, ite_true, ite_false, Int.reduceLE, Int.reduceLT, Int.reduceNeg, Int.reduceAdd, Int.reduceSub, Int.reduceToNat, Nat.reduceAdd, Nat.reduceLT, Nat.reduceLeDiff, Int.reduceEq, Nat.reduceEqDiff, Int.reduceMul, ↓reduceIte, Int.cast_ofNat_Int, killS]
theorem word_len {r : St} (h : Nm r.n) : okS (stepS r) ∧ 32 ∉ TL.tl (stepS r) ∧ TL.tl (stepS r) ≠ [] := by
  have hd := dig_nm h.1
  have e : TL.tl (stepS r) = TL.tl (numS r.n) ++ TL.tl (sgS r.w) := by unfold stepS; rw [TL.tl_append]
  have ok : okS (stepS r) := okS_app (okS_nm h.1) (okS_sg _)
  refine ⟨ok, fun q => ?_, fun q => ?_⟩
  · rw [e] at q
    rcases List.mem_append.mp q with q | q
    · have := hd 32 q; omega
    · rw [tl_sg] at q
      generalize r.w = w at q
      cases w <;> simp at q
  · rw [e] at q
    exact ne_nm h.1 (List.append_eq_nil_iff.mp q).1
theorem no32_tri {m : Int} (h : Tri m) : 32 ∉ TL.tl (numS m) := by rcases h with rfl | rfl | rfl <;> decide +kernel
theorem no32_nm {m : Int} (h : Nm m) : 32 ∉ TL.tl (numS m) := fun q => by have := dig_nm h.1 32 q; omega
theorem no32_app {x y : Str} (h : 32 ∉ TL.tl x) (k : 32 ∉ TL.tl y) : 32 ∉ TL.tl (x ++ y) := fun q => by
  rw [TL.tl_append] at q
  rcases List.mem_append.mp q with q | q
  · exact h q
  · exact k q
theorem ne_app {x y : Str} (h : TL.tl x ≠ []) : TL.tl (x ++ y) ≠ [] := fun q => by
  rw [TL.tl_append] at q
  exact h (List.append_eq_nil_iff.mp q).1
theorem okS_e : okS (Str.ofString "=") := by unfold okS; decide +kernel
theorem no32_e : 32 ∉ TL.tl (Str.ofString "=") := by decide +kernel
theorem no32_sg (w : Bool) : 32 ∉ TL.tl (sgS w) := by cases w <;> decide +kernel
theorem kd_row (N : Nat) : Kd N 0 rowD deedS fun r => Nm r.n ∧ Nm r.m where
  txt := ⟨_, rfl, fun rs hg hw => steps_text_ok N (fun r hr => step_text_d N (hg r hr).1 (str_nm (hg r hr).2) (len_nm (hg r hr).2)) hw⟩
  shw := ⟨_, rfl, fun rs hg hw => show_row_ok N hg hw⟩
  rd := ⟨_, rfl, fun rs hg hw => read_row_ok N hg hw⟩
  nums := fun r => ⟨[r.n, sgI r.w, r.m], rfl, Nat.le_of_ble_eq_true rfl⟩
  word := fun r ⟨h1, h2⟩ => by
    obtain ⟨a, b, c⟩ := word_len h1
    exact ⟨Nat.le_trans (len_deed h1 (len_nm h2)) (by decide), okS_app a (okS_nm h2.1), no32_app b (no32_nm h2), ne_app c⟩
theorem kd_pushes (N : Nat) : Kd N 1 pushD stepS fun r => Nm r.n where
  txt := ⟨_, rfl, fun rs hg hw => steps_text_ok N (fun r hr => step_text_p N (hg r hr)) hw⟩
  shw := ⟨_, rfl, fun rs hg hw => show_pushes_ok N hg hw⟩
  rd := ⟨_, rfl, fun rs hg hw => read_pushes_ok N hg hw⟩
  nums := fun r => ⟨[r.n, sgI r.w], rfl, Nat.le_of_ble_eq_true rfl⟩
  word := fun r h1 => ⟨Nat.le_trans (len_step h1) (by decide), word_len h1⟩
theorem kd_seen (N : Nat) : Kd N 2 rowD seenS fun r => Nm r.n ∧ Tri r.m where
  txt := ⟨_, rfl, fun rs hg hw => seen_text_ok N hg hw⟩
  shw := ⟨_, rfl, fun rs hg hw => show_shown_ok N hg hw⟩
  rd := ⟨_, rfl, fun rs hg hw => read_shown_ok N hg hw⟩
  nums := fun r => ⟨[r.n, sgI r.w, r.m], rfl, Nat.le_of_ble_eq_true rfl⟩
  word := fun r ⟨h1, h2⟩ => by
    obtain ⟨a, b, c⟩ := word_len h1
    exact ⟨Nat.le_trans (len_seen h1 h2) (by decide), okS_app (okS_app a okS_e) (okS_tri h2), no32_app (no32_app b no32_e) (no32_tri h2), ne_app (ne_app c)⟩
theorem kd_shows (N : Nat) : Kd N 3 showD showS fun r => Tri r.m where
  txt := ⟨_, rfl, fun rs hg hw => shows_text_ok N hg hw⟩
  shw := ⟨_, rfl, fun rs hg hw => show_shows_ok N hg hw⟩
  rd := ⟨_, rfl, fun rs hg hw => read_shows_ok N hg hw⟩
  nums := fun r => ⟨[sgI r.w, r.m], rfl, Nat.le_of_ble_eq_true rfl⟩
  word := fun r h2 => ⟨Nat.le_trans (len_show h2) (by decide), okS_app (okS_app (okS_sg _) okS_e) (okS_tri h2), no32_app (no32_app (no32_sg _) no32_e) (no32_tri h2), ne_app (ne_app (by rw [tl_sg]; simp))⟩
theorem callN_1 {sem : List SV → R Fl} {f : M D} {ls : LS} {P : SV → LS → Prop} (h : wz (f ls) fun d l => wz (sem [.fr d]) fun fl _ => ∃ t, fl = .ro t ∧ P t l) : wz (mCallN false [] sem (aFr f aNil) ls) P := by
  simp -implicitDefEqProofs only [mSeq, mDo, mRet, mRetN, mSet, mOwn, mKill, mAug, gT, gTs, gTup, mAsg, mOwnM, mApp, mExt, isOl, appT, extT, setT, gIx, mOIx, mOLen, mFreeze, mRetO, mFor, wz_bnd, wz_ok, ret, bad, optM, mVar, mNil, mCons, asB, ofB, mNo, mSome, mSl, mIf, mAnd, mOr, mNot, mChain, mTup, mLst, mFz, mCall, mMeth, mNeg, mIsN, mMs, mAndV, mOrV, mBin, mIter, itemsOf, mRange1, mRange2, mEnum, mListOf, mIsi, wz_run, wz_bor, wz_borT, wz_noEx, wz_bad, aNil, aFr, aSlO, argSV, argSVs, slAt, backD, flD, flN, mCallD, mCallN, runD, mRepl, pickSem, mIxCallD, mIxCallN, own_ol, own_fr, own_un, lend_nil, lend_ol, lend_fr, lend_un, isT_str, isT_list, isT_tuple, isT_int, isT_bint, Bool.not_true, Bool.not_false, List.getElem?_cons_zero, List.getElem?_cons_succ, List.getElem?_nil, List.set_cons_zero, List.set_cons_succ, List.replicate_succ, List.replicate_zero, List.cons_append, List.nil_append, List.length_cons, List.length_nil, atI_0, atI_1, atI_2, atI_3, atI_4, ixN_30, ixN_31, ixN_32, szl_0, szl_1, szl_2, szl_3, szl_4, szl_5, szl_6, szl_7, szl_8, szl_9, szl_10, szl_11, szl_12, gd, dEq_i, dNe_i, dLt, dLe, dGt, dGe, dIx_l, dIx_t, Option.bind_some, if_pos, if_neg, if_true, if_false, Nat.zero_add, decide_true, decide_false, Int.toNat_zero, Int.toNat_one, dAdd_i, dSub_i, not_false_eq_true, ite_true, ite_false, Int.reduceLE, Int.reduceLT, Int.reduceNeg, Int.reduceAdd, Int.reduceSub, Int.reduceToNat, Nat.reduceAdd, Nat.reduceLT, Nat.reduceLeDiff, Int.reduceEq, Nat.reduceEqDiff, Int.reduceMul, ↓reduceIte, Int.cast_ofNat_Int, List.all_nil]
  refine wz_imp h fun d l k => ?_
  refine wz_imp k fun fl l2 ⟨t, e, p⟩ => ?_
  subst e
  simp -implicitDefEqProofs only [mSeq, mDo, mRet, mRetN, mSet, mOwn, mKill, mAug, gT, gTs, gTup, mAsg, mOwnM, mApp, mExt, isOl, appT, extT, setT, gIx, mOIx, mOLen, mFreeze, mRetO, mFor, wz_bnd, wz_ok, ret, bad, optM, mVar, mNil, mCons, asB, ofB, mNo, mSome, mSl, mIf, mAnd, mOr, mNot, mChain, mTup, mLst, mFz, mCall, mMeth, mNeg, mIsN, mMs, mAndV, mOrV, mBin, mIter, itemsOf, mRange1, mRange2, mEnum, mListOf, mIsi, wz_run, wz_bor, wz_borT, wz_noEx, wz_bad, aNil, aFr, aSlO, argSV, argSVs, slAt, backD, flD, flN, mCallD, mCallN, runD, mRepl, pickSem, mIxCallD, mIxCallN, own_ol, own_fr, own_un, lend_nil, lend_ol, lend_fr, lend_un, isT_str, isT_list, isT_tuple, isT_int, isT_bint, Bool.not_true, Bool.not_false, List.getElem?_cons_zero, List.getElem?_cons_succ, List.getElem?_nil, List.set_cons_zero, List.set_cons_succ, List.replicate_succ, List.replicate_zero, List.cons_append, List.nil_append, List.length_cons, List.length_nil, atI_0, atI_1, atI_2, atI_3, atI_4, ixN_30, ixN_31, ixN_32, szl_0, szl_1, szl_2, szl_3, szl_4, szl_5, szl_6, szl_7, szl_8, szl_9, szl_10, szl_11, szl_12, gd, dEq_i, dNe_i, dLt, dLe, dGt, dGe, dIx_l, dIx_t, Option.bind_some, if_pos, if_neg, if_true, if_false, Nat.zero_add, decide_true, decide_false, Int.toNat_zero, Int.toNat_one, dAdd_i, dSub_i, not_false_eq_true, ite_true, ite_false, Int.reduceLE, Int.reduceLT, Int.reduceNeg, Int.reduceAdd, Int.reduceSub, Int.reduceToNat, Nat.reduceAdd, Nat.reduceLT, Nat.reduceLeDiff, Int.reduceEq, Nat.reduceEqDiff, Int.reduceMul, ↓reduceIte, Int.cast_ofNat_Int]
  exact p
theorem callF_2 {sem : List SV → R Fl} {f g : M D} {ls : LS} {P : D → LS → Prop} (h : wz (f ls) fun d l => wz (g l) fun e l => wz (sem [.fr d, .fr e]) fun fl _ => ∃ t, fl = .rt t ∧ P t l) : wz (mCallD false [] sem (aFr f (aFr g aNil)) ls) P := by
  simp -implicitDefEqProofs only [mSeq, mDo, mRet, mRetN, mSet, mOwn, mKill, mAug, gT, gTs, gTup, mAsg, mOwnM, mApp, mExt, isOl, appT, extT, setT, gIx, mOIx, mOLen, mFreeze, mRetO, mFor, wz_bnd, wz_ok, ret, bad, optM, mVar, mNil, mCons, asB, ofB, mNo, mSome, mSl, mIf, mAnd, mOr, mNot, mChain, mTup, mLst, mFz, mCall, mMeth, mNeg, mIsN, mMs, mAndV, mOrV, mBin, mIter, itemsOf, mRange1, mRange2, mEnum, mListOf, mIsi, wz_run, wz_bor, wz_borT, wz_noEx, wz_bad, aNil, aFr, aSlO, argSV, argSVs, slAt, backD, flD, flN, mCallD, mCallN, runD, mRepl, pickSem, mIxCallD, mIxCallN, own_ol, own_fr, own_un, lend_nil, lend_ol, lend_fr, lend_un, isT_str, isT_list, isT_tuple, isT_int, isT_bint, Bool.not_true, Bool.not_false, List.getElem?_cons_zero, List.getElem?_cons_succ, List.getElem?_nil, List.set_cons_zero, List.set_cons_succ, List.replicate_succ, List.replicate_zero, List.cons_append, List.nil_append, List.length_cons, List.length_nil, atI_0, atI_1, atI_2, atI_3, atI_4, ixN_30, ixN_31, ixN_32, szl_0, szl_1, szl_2, szl_3, szl_4, szl_5, szl_6, szl_7, szl_8, szl_9, szl_10, szl_11, szl_12, gd, dEq_i, dNe_i, dLt, dLe, dGt, dGe, dIx_l, dIx_t, Option.bind_some, if_pos, if_neg, if_true, if_false, Nat.zero_add, decide_true, decide_false, Int.toNat_zero, Int.toNat_one, dAdd_i, dSub_i, not_false_eq_true, ite_true, ite_false, Int.reduceLE, Int.reduceLT, Int.reduceNeg, Int.reduceAdd, Int.reduceSub, Int.reduceToNat, Nat.reduceAdd, Nat.reduceLT, Nat.reduceLeDiff, Int.reduceEq, Nat.reduceEqDiff, Int.reduceMul, ↓reduceIte, Int.cast_ofNat_Int, List.all_nil]
  refine wz_imp h fun d l k => ?_
  refine wz_imp k fun e l2 k2 => ?_
  refine wz_imp k2 fun fl l2 ⟨t, e, p⟩ => ?_
  subst e
  simp -implicitDefEqProofs only [mSeq, mDo, mRet, mRetN, mSet, mOwn, mKill, mAug, gT, gTs, gTup, mAsg, mOwnM, mApp, mExt, isOl, appT, extT, setT, gIx, mOIx, mOLen, mFreeze, mRetO, mFor, wz_bnd, wz_ok, ret, bad, optM, mVar, mNil, mCons, asB, ofB, mNo, mSome, mSl, mIf, mAnd, mOr, mNot, mChain, mTup, mLst, mFz, mCall, mMeth, mNeg, mIsN, mMs, mAndV, mOrV, mBin, mIter, itemsOf, mRange1, mRange2, mEnum, mListOf, mIsi, wz_run, wz_bor, wz_borT, wz_noEx, wz_bad, aNil, aFr, aSlO, argSV, argSVs, slAt, backD, flD, flN, mCallD, mCallN, runD, mRepl, pickSem, mIxCallD, mIxCallN, own_ol, own_fr, own_un, lend_nil, lend_ol, lend_fr, lend_un, isT_str, isT_list, isT_tuple, isT_int, isT_bint, Bool.not_true, Bool.not_false, List.getElem?_cons_zero, List.getElem?_cons_succ, List.getElem?_nil, List.set_cons_zero, List.set_cons_succ, List.replicate_succ, List.replicate_zero, List.cons_append, List.nil_append, List.length_cons, List.length_nil, atI_0, atI_1, atI_2, atI_3, atI_4, ixN_30, ixN_31, ixN_32, szl_0, szl_1, szl_2, szl_3, szl_4, szl_5, szl_6, szl_7, szl_8, szl_9, szl_10, szl_11, szl_12, gd, dEq_i, dNe_i, dLt, dLe, dGt, dGe, dIx_l, dIx_t, Option.bind_some, if_pos, if_neg, if_true, if_false, Nat.zero_add, decide_true, decide_false, Int.toNat_zero, Int.toNat_one, dAdd_i, dSub_i, not_false_eq_true, ite_true, ite_false, Int.reduceLE, Int.reduceLT, Int.reduceNeg, Int.reduceAdd, Int.reduceSub, Int.reduceToNat, Nat.reduceAdd, Nat.reduceLT, Nat.reduceLeDiff, Int.reduceEq, Nat.reduceEqDiff, Int.reduceMul, ↓reduceIte, Int.cast_ofNat_Int]
  exact p
/-- the four lists of a turn -/
structure Q4 where
  a : List St
  b : List St
  c : List St
  d : List St
def Q4.l (q : Q4) : List D := [.list (q.a.map rowD), .list (q.b.map pushD), .list (q.c.map rowD), .list (q.d.map showD)]
structure Q4.ok (q : Q4) : Prop where
  a : (∀ r ∈ q.a, Nm r.n ∧ Nm r.m) ∧ q.a.length ≤ 1000
  b : (∀ r ∈ q.b, Nm r.n) ∧ q.b.length ≤ 1000
  c : (∀ r ∈ q.c, Nm r.n ∧ Tri r.m) ∧ q.c.length ≤ 1000
  d : (∀ r ∈ q.d, Tri r.m) ∧ q.d.length ≤ 1000
theorem well4 (N : Nat) {q : Q4} (h : q.ok) {t : D} (ht : t ∈ ([.int 0, .int 1, .int 2, .int 3] : List D)) : ∃ (j : Int) (x : D), t = .int j ∧ atI q.l j = some x ∧ wz (z_w_well N [.fr (.int j), .fr x]) fun fl _ => fl = .rt (.bool true) := by
  simp only [List.mem_cons, List.not_mem_nil, or_false] at ht
  rcases ht with rfl | rfl | rfl | rfl
  · exact ⟨0, _, rfl, rfl, well_ok N (kd_row N) h.a.1 h.a.2⟩
  · exact ⟨1, _, rfl, rfl, well_ok N (kd_pushes N) h.b.1 h.b.2⟩
  · exact ⟨2, _, rfl, rfl, well_ok N (kd_seen N) h.c.1 h.c.2⟩
  · exact ⟨3, _, rfl, rfl, well_ok N (kd_shows N) h.d.1 h.d.2⟩
theorem rep_cut (enc : St → D) (rs : List St) (m : Nat) (hm : rs.length * m ≤ 100000) (hm2 : m ≤ 1000) : ∃ (X : D) (qs : List St), dMul (.list (rs.map enc)) (.int m) = some X ∧ dSl X none (some (m : Int)) = some (.list (qs.map enc)) ∧ (∀ r ∈ qs, r ∈ rs) ∧ qs.length ≤ m := by
  have e : (List.replicate m (rs.map enc)).flatten = ((List.replicate m rs).flatten).map enc := by
    rw [List.map_flatten, List.map_replicate]
  refine ⟨.list ((List.replicate m rs).flatten.map enc), (List.replicate m rs).flatten.take m, ?_, ?_, fun r hr => ?_, by rw [List.length_take]; omega⟩
  · show gd (okCount (m : Int) && decide ((rs.map enc).length * (m : Int).toNat ≤ sizeLine)) (PyData.list (List.replicate (m : Int).toNat (rs.map enc)).flatten) = _
    rw [Int.toNat_natCast, e]
    refine gd_t _ ?_
    unfold okCount
    rw [decide_eq_true (by omega), decide_eq_true (by omega), decide_eq_true (by rw [List.length_map, sizeLine_v]; omega)]
    rfl
  · show some (PyData.list (cutD ((List.replicate m rs).flatten.map enc) none (some (m : Int)))) = _
    congr 2
    unfold cutD
    rw [HT.sIx_nat]
    show (((List.replicate m rs).flatten.map enc).drop 0).take (min m _ - 0) = _
    rw [List.drop_zero, Nat.sub_zero, List.map_take]
    by_cases q : m ≤ ((List.replicate m rs).flatten.map enc).length
    · rw [Nat.min_eq_left q]
    · rw [Nat.min_eq_right (by omega), List.take_of_length_le (Nat.le_refl _), List.take_of_length_le (by omega)]
  · have := List.mem_of_mem_take hr
    obtain ⟨l, hl, hr2⟩ := List.mem_flatten.mp this
    rw [List.eq_of_mem_replicate hl] at hr2
    exact hr2
theorem head_int (ns : List Int) : ∃ c : Int, atI (ns.map (PyData.int : Int → D) ++ [.int 0]) 0 = some (.int c) := by
  cases ns with
  | nil => exact ⟨0, rfl⟩
  | cons n ns => exact ⟨n, atI_0 _ _⟩
theorem cells_ints (ns : List Int) : ∀ t ∈ cutD (ns.map (PyData.int : Int → D)) none (some 6) ++ [.int 0], ∃ c : Int, t = .int c := fun t ht => by
  rcases List.mem_append.mp ht with q | q
  · have := List.mem_of_mem_drop (List.mem_of_mem_take q)
    obtain ⟨c, _, rfl⟩ := List.mem_map.mp this
    exact ⟨c, rfl⟩
  · rw [List.mem_singleton] at q
    exact ⟨0, q⟩
end Tz
namespace Tz
open PySem PySem.Spec PyProof.Rows L2
theorem k12 {s : SV} {K : Nat} (h : Dr K s) (hK : K ≤ 100000) : K + 5000 < 2 ^ 60 := by omega
theorem first4 (N : Nat) {q : Q4} (h : q.ok) {x0 x1 x4 x5 x6 x7 x8 : SV} {P : Fl → LS → Prop} (p : P .nx [x0, x1, .fr (.list q.l), .un, x4, x5, x6, x7, x8]) :
    wz (forL [3] (fun t => bnd (gT 3 t) fun _ => mIf (mNot (asB (mCallD false [] (z_w_well N) (aFr (mVar 3) (aFr (mBin dIx (mVar 2) (mVar 3)) aNil))))) (mRet (ret (.bool false))) (ret .nx)) [.int 0, .int 1, .int 2, .int 3] [x0, x1, .fr (.list q.l), .un, x4, x5, x6, x7, x8]) P := by
  refine wz_for (fun ts l => (∀ t ∈ ts, t ∈ ([.int 0, .int 1, .int 2, .int 3] : List D)) ∧ ∃ x3, l = [x0, x1, .fr (.list q.l), x3, x4, x5, x6, x7, x8]) (fun t ts l hI => ?_) (fun l hI => ?_) ⟨fun _ z => z, _, rfl⟩
  · obtain ⟨h1, x3, rfl⟩ := hI
    obtain ⟨j, x, rfl, ej, hz⟩ := well4 N h (h1 t (List.mem_cons_self ..))
    simp -implicitDefEqProofs only [mSeq, mDo, mRet, mRetN, mSet, mOwn, mKill, mAug, gT, gTs, gTup, mAsg, mOwnM, mApp, mExt, isOl, appT, extT, setT, gIx, mOIx, mOLen, mFreeze, mRetO, mFor, wz_bnd, wz_ok, ret, bad, optM, mVar, mNil, mCons, asB, ofB, mNo, mSome, mSl, mIf, mAnd, mOr, mNot, mChain, mTup, mLst, mFz, mCall, mMeth, mNeg, mIsN, mMs, mAndV, mOrV, mBin, mIter, itemsOf, mRange1, mRange2, mEnum, mListOf, mIsi, wz_bor, wz_borT, wz_noEx, wz_bad, runD, mRepl, pickSem, own_ol, own_fr, own_un, lend_nil, lend_ol, lend_fr, lend_un, isT_str, isT_list, isT_tuple, isT_int, isT_bint, Bool.not_true, Bool.not_false, List.getElem?_cons_zero, List.getElem?_cons_succ, List.getElem?_nil, List.set_cons_zero, List.set_cons_succ, List.replicate_succ, List.replicate_zero, List.cons_append, List.nil_append, List.length_cons, List.length_nil, atI_0, atI_1, atI_2, atI_3, atI_4, ixN_30, ixN_31, ixN_32, szl_0, szl_1, szl_2, szl_3, szl_4, szl_5, szl_6, szl_7, szl_8, szl_9, szl_10, szl_11, szl_12, gd, dEq_i, dNe_i, dLt, dLe, dGt, dGe, dIx_l, dIx_t, Option.bind_some, if_pos, if_neg, if_true, if_false, Nat.zero_add, decide_true, decide_false, Int.toNat_zero, Int.toNat_one, dAdd_i, dSub_i, not_false_eq_true, ite_true, ite_false, Int.reduceLE, Int.reduceLT, Int.reduceNeg, Int.reduceAdd, Int.reduceSub, Int.reduceToNat, Nat.reduceAdd, Nat.reduceLT, Nat.reduceLeDiff, Int.reduceEq, Nat.reduceEqDiff, Int.reduceMul, ↓reduceIte, Int.cast_ofNat_Int, killS]
    refine callF_2 ?_
    simp -implicitDefEqProofs only [mSeq, mDo, mRet, mRetN, mSet, mOwn, mKill, mAug, gT, gTs, gTup, mAsg, mOwnM, mApp, mExt, isOl, appT, extT, setT, gIx, mOIx, mOLen, mFreeze, mRetO, mFor, wz_bnd, wz_ok, ret, bad, optM, mVar, mNil, mCons, asB, ofB, mNo, mSome, mSl, mIf, mAnd, mOr, mNot, mChain, mTup, mLst, mFz, mCall, mMeth, mNeg, mIsN, mMs, mAndV, mOrV, mBin, mIter, itemsOf, mRange1, mRange2, mEnum, mListOf, mIsi, wz_bor, wz_borT, wz_noEx, wz_bad, runD, mRepl, pickSem, own_ol, own_fr, own_un, lend_nil, lend_ol, lend_fr, lend_un, isT_str, isT_list, isT_tuple, isT_int, isT_bint, Bool.not_true, Bool.not_false, List.getElem?_cons_zero, List.getElem?_cons_succ, List.getElem?_nil, List.set_cons_zero, List.set_cons_succ, List.replicate_succ, List.replicate_zero, List.cons_append, List.nil_append, List.length_cons, List.length_nil, atI_0, atI_1, atI_2, atI_3, atI_4, ixN_30, ixN_31, ixN_32, szl_0, szl_1, szl_2, szl_3, szl_4, szl_5, szl_6, szl_7, szl_8, szl_9, szl_10, szl_11, szl_12, gd, dEq_i, dNe_i, dLt, dLe, dGt, dGe, dIx_l, dIx_t, Option.bind_some, if_pos, if_neg, if_true, if_false, Nat.zero_add, decide_true, decide_false, Int.toNat_zero, Int.toNat_one, dAdd_i, dSub_i, not_false_eq_true, ite_true, ite_false, Int.reduceLE, Int.reduceLT, Int.reduceNeg, Int.reduceAdd, Int.reduceSub, Int.reduceToNat, Nat.reduceAdd, Nat.reduceLT, Nat.reduceLeDiff, Int.reduceEq, Nat.reduceEqDiff, Int.reduceMul, ↓reduceIte, Int.cast_ofNat_Int, ej]
    refine wz_imp hz fun fl l e => ⟨_, e, ?_⟩
    simp -implicitDefEqProofs only [mSeq, mDo, mRet, mRetN, mSet, mOwn, mKill, mAug, gT, gTs, gTup, mAsg, mOwnM, mApp, mExt, isOl, appT, extT, setT, gIx, mOIx, mOLen, mFreeze, mRetO, mFor, wz_bnd, wz_ok, ret, bad, optM, mVar, mNil, mCons, asB, ofB, mNo, mSome, mSl, mIf, mAnd, mOr, mNot, mChain, mTup, mLst, mFz, mCall, mMeth, mNeg, mIsN, mMs, mAndV, mOrV, mBin, mIter, itemsOf, mRange1, mRange2, mEnum, mListOf, mIsi, wz_bor, wz_borT, wz_noEx, wz_bad, runD, mRepl, pickSem, own_ol, own_fr, own_un, lend_nil, lend_ol, lend_fr, lend_un, isT_str, isT_list, isT_tuple, isT_int, isT_bint, Bool.not_true, Bool.not_false, List.getElem?_cons_zero, List.getElem?_cons_succ, List.getElem?_nil, List.set_cons_zero, List.set_cons_succ, List.replicate_succ, List.replicate_zero, List.cons_append, List.nil_append, List.length_cons, List.length_nil, atI_0, atI_1, atI_2, atI_3, atI_4, ixN_30, ixN_31, ixN_32, szl_0, szl_1, szl_2, szl_3, szl_4, szl_5, szl_6, szl_7, szl_8, szl_9, szl_10, szl_11, szl_12, gd, dEq_i, dNe_i, dLt, dLe, dGt, dGe, dIx_l, dIx_t, Option.bind_some, if_pos, if_neg, if_true, if_false, Nat.zero_add, decide_true, decide_false, Int.toNat_zero, Int.toNat_one, dAdd_i, dSub_i, not_false_eq_true, ite_true, ite_false, Int.reduceLE, Int.reduceLT, Int.reduceNeg, Int.reduceAdd, Int.reduceSub, Int.reduceToNat, Nat.reduceAdd, Nat.reduceLT, Nat.reduceLeDiff, Int.reduceEq, Nat.reduceEqDiff, Int.reduceMul, ↓reduceIte, Int.cast_ofNat_Int]
    exact ⟨fun u hu => h1 u (List.mem_cons_of_mem _ hu), _, rfl⟩
  · obtain ⟨h1, x3, rfl⟩ := hI
    exact p
theorem last4 (N : Nat) {q : Q4} (h : q.ok) {x0 x1 x2 x3 x4 x5 x6 x7 : SV} {P : Fl → LS → Prop} (p : ∀ y, P .nx [x0, x1, x2, y, x4, x5, x6, x7, .fr (.list q.l)]) :
    wz (forL [3] (fun t => bnd (gT 3 t) fun _ => mIf (mNot (asB (mCallD false [] (z_w_well N) (aFr (mVar 3) (aFr (mBin dIx (mVar 8) (mVar 3)) aNil))))) (mRet (ret (.bool false))) (ret .nx)) [.int 0, .int 1, .int 2, .int 3] [x0, x1, x2, x3, x4, x5, x6, x7, .fr (.list q.l)]) P := by
  refine wz_for (fun ts l => (∀ t ∈ ts, t ∈ ([.int 0, .int 1, .int 2, .int 3] : List D)) ∧ ∃ x3, l = [x0, x1, x2, x3, x4, x5, x6, x7, .fr (.list q.l)]) (fun t ts l hI => ?_) (fun l hI => ?_) ⟨fun _ z => z, _, rfl⟩
  · obtain ⟨h1, x3, rfl⟩ := hI
    obtain ⟨j, x, rfl, ej, hz⟩ := well4 N h (h1 t (List.mem_cons_self ..))
    simp -implicitDefEqProofs only [mSeq, mDo, mRet, mRetN, mSet, mOwn, mKill, mAug, gT, gTs, gTup, mAsg, mOwnM, mApp, mExt, isOl, appT, extT, setT, gIx, mOIx, mOLen, mFreeze, mRetO, mFor, wz_bnd, wz_ok, ret, bad, optM, mVar, mNil, mCons, asB, ofB, mNo, mSome, mSl, mIf, mAnd, mOr, mNot, mChain, mTup, mLst, mFz, mCall, mMeth, mNeg, mIsN, mMs, mAndV, mOrV, mBin, mIter, itemsOf, mRange1, mRange2, mEnum, mListOf, mIsi, wz_bor, wz_borT, wz_noEx, wz_bad, runD, mRepl, pickSem, own_ol, own_fr, own_un, lend_nil, lend_ol, lend_fr, lend_un, isT_str, isT_list, isT_tuple, isT_int, isT_bint, Bool.not_true, Bool.not_false, List.getElem?_cons_zero, List.getElem?_cons_succ, List.getElem?_nil, List.set_cons_zero, List.set_cons_succ, List.replicate_succ, List.replicate_zero, List.cons_append, List.nil_append, List.length_cons, List.length_nil, atI_0, atI_1, atI_2, atI_3, atI_4, ixN_30, ixN_31, ixN_32, szl_0, szl_1, szl_2, szl_3, szl_4, szl_5, szl_6, szl_7, szl_8, szl_9, szl_10, szl_11, szl_12, gd, dEq_i, dNe_i, dLt, dLe, dGt, dGe, dIx_l, dIx_t, Option.bind_some, if_pos, if_neg, if_true, if_false, Nat.zero_add, decide_true, decide_false, Int.toNat_zero, Int.toNat_one, dAdd_i, dSub_i, not_false_eq_true, ite_true, ite_false, Int.reduceLE, Int.reduceLT, Int.reduceNeg, Int.reduceAdd, Int.reduceSub, Int.reduceToNat, Nat.reduceAdd, Nat.reduceLT, Nat.reduceLeDiff, Int.reduceEq, Nat.reduceEqDiff, Int.reduceMul, ↓reduceIte, Int.cast_ofNat_Int, killS]
    refine callF_2 ?_
    simp -implicitDefEqProofs only [mSeq, mDo, mRet, mRetN, mSet, mOwn, mKill, mAug, gT, gTs, gTup, mAsg, mOwnM, mApp, mExt, isOl, appT, extT, setT, gIx, mOIx, mOLen, mFreeze, mRetO, mFor, wz_bnd, wz_ok, ret, bad, optM, mVar, mNil, mCons, asB, ofB, mNo, mSome, mSl, mIf, mAnd, mOr, mNot, mChain, mTup, mLst, mFz, mCall, mMeth, mNeg, mIsN, mMs, mAndV, mOrV, mBin, mIter, itemsOf, mRange1, mRange2, mEnum, mListOf, mIsi, wz_bor, wz_borT, wz_noEx, wz_bad, runD, mRepl, pickSem, own_ol, own_fr, own_un, lend_nil, lend_ol, lend_fr, lend_un, isT_str, isT_list, isT_tuple, isT_int, isT_bint, Bool.not_true, Bool.not_false, List.getElem?_cons_zero, List.getElem?_cons_succ, List.getElem?_nil, List.set_cons_zero, List.set_cons_succ, List.replicate_succ, List.replicate_zero, List.cons_append, List.nil_append, List.length_cons, List.length_nil, atI_0, atI_1, atI_2, atI_3, atI_4, ixN_30, ixN_31, ixN_32, szl_0, szl_1, szl_2, szl_3, szl_4, szl_5, szl_6, szl_7, szl_8, szl_9, szl_10, szl_11, szl_12, gd, dEq_i, dNe_i, dLt, dLe, dGt, dGe, dIx_l, dIx_t, Option.bind_some, if_pos, if_neg, if_true, if_false, Nat.zero_add, decide_true, decide_false, Int.toNat_zero, Int.toNat_one, dAdd_i, dSub_i, not_false_eq_true, ite_true, ite_false, Int.reduceLE, Int.reduceLT, Int.reduceNeg, Int.reduceAdd, Int.reduceSub, Int.reduceToNat, Nat.reduceAdd, Nat.reduceLT, Nat.reduceLeDiff, Int.reduceEq, Nat.reduceEqDiff, Int.reduceMul, ↓reduceIte, Int.cast_ofNat_Int, ej]
    refine wz_imp hz fun fl l e => ⟨_, e, ?_⟩
    simp -implicitDefEqProofs only [mSeq, mDo, mRet, mRetN, mSet, mOwn, mKill, mAug, gT, gTs, gTup, mAsg, mOwnM, mApp, mExt, isOl, appT, extT, setT, gIx, mOIx, mOLen, mFreeze, mRetO, mFor, wz_bnd, wz_ok, ret, bad, optM, mVar, mNil, mCons, asB, ofB, mNo, mSome, mSl, mIf, mAnd, mOr, mNot, mChain, mTup, mLst, mFz, mCall, mMeth, mNeg, mIsN, mMs, mAndV, mOrV, mBin, mIter, itemsOf, mRange1, mRange2, mEnum, mListOf, mIsi, wz_bor, wz_borT, wz_noEx, wz_bad, runD, mRepl, pickSem, own_ol, own_fr, own_un, lend_nil, lend_ol, lend_fr, lend_un, isT_str, isT_list, isT_tuple, isT_int, isT_bint, Bool.not_true, Bool.not_false, List.getElem?_cons_zero, List.getElem?_cons_succ, List.getElem?_nil, List.set_cons_zero, List.set_cons_succ, List.replicate_succ, List.replicate_zero, List.cons_append, List.nil_append, List.length_cons, List.length_nil, atI_0, atI_1, atI_2, atI_3, atI_4, ixN_30, ixN_31, ixN_32, szl_0, szl_1, szl_2, szl_3, szl_4, szl_5, szl_6, szl_7, szl_8, szl_9, szl_10, szl_11, szl_12, gd, dEq_i, dNe_i, dLt, dLe, dGt, dGe, dIx_l, dIx_t, Option.bind_some, if_pos, if_neg, if_true, if_false, Nat.zero_add, decide_true, decide_false, Int.toNat_zero, Int.toNat_one, dAdd_i, dSub_i, not_false_eq_true, ite_true, ite_false, Int.reduceLE, Int.reduceLT, Int.reduceNeg, Int.reduceAdd, Int.reduceSub, Int.reduceToNat, Nat.reduceAdd, Nat.reduceLT, Nat.reduceLeDiff, Int.reduceEq, Nat.reduceEqDiff, Int.reduceMul, ↓reduceIte, Int.cast_ofNat_Int]
    exact ⟨fun u hu => h1 u (List.mem_cons_of_mem _ hu), _, rfl⟩
  · obtain ⟨h1, x3, rfl⟩ := hI
    exact p _
theorem shaped_q (q : Q4) : SeqAt.shaped (.list q.l) = true := by
  have f : ∀ {enc : St → D}, (∀ r, ∃ is : List Int, enc r = .tuple (is.map .int) ∧ is.length ≤ 3) → ∀ rs : List St, PyData.canLay0 (.list (rs.map enc)) = true ∧ PyData.depth (.list (rs.map enc)) ≤ 3 := fun {enc} h rs => by
    refine ⟨SeqAt.canLay_of_shaped (shaped_rows h rs), ?_⟩
    show PyData.depthAll (rs.map enc) + 1 ≤ 3
    have : PyData.depthAll (rs.map enc) ≤ 1 := depth_list fun x hx => by
      obtain ⟨r, _, rfl⟩ := List.mem_map.mp hx
      obtain ⟨is, e, _⟩ := h r
      rw [e]
      show PyData.depthAll (is.map PyData.int) + 1 ≤ 1
      rw [depth_ints]
      decide
    omega
  have k1 := f (enc := rowD) (fun r => ⟨[r.n, sgI r.w, r.m], rfl, Nat.le_of_ble_eq_true rfl⟩)
  have k2 := f (enc := pushD) (fun r => ⟨[r.n, sgI r.w], rfl, Nat.le_of_ble_eq_true rfl⟩)
  have k3 := f (enc := showD) (fun r => ⟨[sgI r.w, r.m], rfl, Nat.le_of_ble_eq_true rfl⟩)
  refine shaped_list (fun x hx => ?_) fun x hx => ?_
  · simp only [Q4.l, List.mem_cons, List.not_mem_nil, or_false] at hx
    rcases hx with rfl | rfl | rfl | rfl
    · exact (k1 _).1
    · exact (k2 _).1
    · exact (k1 _).1
    · exact (k3 _).1
  · simp only [Q4.l, List.mem_cons, List.not_mem_nil, or_false] at hx
    rcases hx with rfl | rfl | rfl | rfl
    · exact Nat.le_trans (k1 _).2 (by decide)
    · exact Nat.le_trans (k2 _).2 (by decide)
    · exact Nat.le_trans (k1 _).2 (by decide)
    · exact Nat.le_trans (k3 _).2 (by decide)
def qD (q : Q4) : D := .list q.l
theorem law_ok (N : Nat) {ns : List Int} (hns : ns.length ≤ 63) : wz (z_law N [.fr (.list (ns.map .int))]) fun fl _ => fl = .rt (.bool true) := by
  obtain ⟨c, ec⟩ := head_int ns
  have a1 : dAdd (.list (ns.map .int)) (.list [.int 0]) = some (.list (ns.map .int ++ [.int 0])) := gd_t _ (decide_eq_true (by rw [List.length_map, sizeLine_v]; show ns.length + 1 ≤ _; omega))
  simp -implicitDefEqProofs only [mSeq, mDo, mRet, mRetN, mSet, mOwn, mKill, mAug, gT, gTs, gTup, mAsg, mOwnM, mApp, mExt, isOl, appT, extT, setT, gIx, mOIx, mOLen, mFreeze, mRetO, mFor, wz_bnd, wz_ok, ret, bad, optM, mVar, mNil, mCons, asB, ofB, mNo, mSome, mSl, mIf, mAnd, mOr, mNot, mChain, mTup, mLst, mFz, mCall, mMeth, mNeg, mIsN, mMs, mAndV, mOrV, mBin, mIter, itemsOf, mRange1, mRange2, mEnum, mListOf, mIsi, wz_bor, wz_borT, wz_noEx, wz_bad, runD, mRepl, pickSem, own_ol, own_fr, own_un, lend_nil, lend_ol, lend_fr, lend_un, isT_str, isT_list, isT_tuple, isT_int, isT_bint, Bool.not_true, Bool.not_false, List.getElem?_cons_zero, List.getElem?_cons_succ, List.getElem?_nil, List.set_cons_zero, List.set_cons_succ, List.replicate_succ, List.replicate_zero, List.cons_append, List.nil_append, List.length_cons, List.length_nil, atI_0, atI_1, atI_2, atI_3, atI_4, ixN_30, ixN_31, ixN_32, szl_0, szl_1, szl_2, szl_3, szl_4, szl_5, szl_6, szl_7, szl_8, szl_9, szl_10, szl_11, szl_12, gd, dEq_i, dNe_i, dLt, dLe, dGt, dGe, dIx_l, dIx_t, Option.bind_some, if_pos, if_neg, if_true, if_false, Nat.zero_add, decide_true, decide_false, Int.toNat_zero, Int.toNat_one, dAdd_i, dSub_i, not_false_eq_true, ite_true, ite_false, Int.reduceLE, Int.reduceLT, Int.reduceNeg, Int.reduceAdd, Int.reduceSub, Int.reduceToNat, Nat.reduceAdd, Nat.reduceLT, Nat.reduceLeDiff, Int.reduceEq, Nat.reduceEqDiff, Int.reduceMul, ↓reduceIte, Int.cast_ofNat_Int, z_law, b_law]
  refine callN_1 ?_
  simp -implicitDefEqProofs only [mSeq, mDo, mRet, mRetN, mSet, mOwn, mKill, mAug, gT, gTs, gTup, mAsg, mOwnM, mApp, mExt, isOl, appT, extT, setT, gIx, mOIx, mOLen, mFreeze, mRetO, mFor, wz_bnd, wz_ok, ret, bad, optM, mVar, mNil, mCons, asB, ofB, mNo, mSome, mSl, mIf, mAnd, mOr, mNot, mChain, mTup, mLst, mFz, mCall, mMeth, mNeg, mIsN, mMs, mAndV, mOrV, mBin, mIter, itemsOf, mRange1, mRange2, mEnum, mListOf, mIsi, wz_bor, wz_borT, wz_noEx, wz_bad, runD, mRepl, pickSem, own_ol, own_fr, own_un, lend_nil, lend_ol, lend_fr, lend_un, isT_str, isT_list, isT_tuple, isT_int, isT_bint, Bool.not_true, Bool.not_false, List.getElem?_cons_zero, List.getElem?_cons_succ, List.getElem?_nil, List.set_cons_zero, List.set_cons_succ, List.replicate_succ, List.replicate_zero, List.cons_append, List.nil_append, List.length_cons, List.length_nil, atI_0, atI_1, atI_2, atI_3, atI_4, ixN_30, ixN_31, ixN_32, szl_0, szl_1, szl_2, szl_3, szl_4, szl_5, szl_6, szl_7, szl_8, szl_9, szl_10, szl_11, szl_12, gd, dEq_i, dNe_i, dLt, dLe, dGt, dGe, dIx_l, dIx_t, Option.bind_some, if_pos, if_neg, if_true, if_false, Nat.zero_add, decide_true, decide_false, Int.toNat_zero, Int.toNat_one, dAdd_i, dSub_i, not_false_eq_true, ite_true, ite_false, Int.reduceLE, Int.reduceLT, Int.reduceNeg, Int.reduceAdd, Int.reduceSub, Int.reduceToNat, Nat.reduceAdd, Nat.reduceLT, Nat.reduceLeDiff, Int.reduceEq, Nat.reduceEqDiff, Int.reduceMul, ↓reduceIte, Int.cast_ofNat_Int, a1, ec]
  refine wz_imp (draws_ok N c) fun fl l ⟨s0, e0, d0⟩ => ⟨_, e0, ?_⟩
  try simp -implicitDefEqProofs only [mSeq, mDo, mRet, mRetN, mSet, mOwn, mKill, mAug, gT, gTs, gTup, mAsg, mOwnM, mApp, mExt, isOl, appT, extT, setT, gIx, mOIx, mOLen, mFreeze, mRetO, mFor, wz_bnd, wz_ok, ret, bad, optM, mVar, mNil, mCons, asB, ofB, mNo, mSome, mSl, mIf, mAnd, mOr, mNot, mChain, mTup, mLst, mFz, mCall, mMeth, mNeg, mIsN, mMs, mAndV, mOrV, mBin, mIter, itemsOf, mRange1, mRange2, mEnum, mListOf, mIsi, wz_bor, wz_borT, wz_noEx, wz_bad, runD, mRepl, pickSem, own_ol, own_fr, own_un, lend_nil, lend_ol, lend_fr, lend_un, isT_str, isT_list, isT_tuple, isT_int, isT_bint, Bool.not_true, Bool.not_false, List.getElem?_cons_zero, List.getElem?_cons_succ, List.getElem?_nil, List.set_cons_zero, List.set_cons_succ, List.replicate_succ, List.replicate_zero, List.cons_append, List.nil_append, List.length_cons, List.length_nil, atI_0, atI_1, atI_2, atI_3, atI_4, ixN_30, ixN_31, ixN_32, szl_0, szl_1, szl_2, szl_3, szl_4, szl_5, szl_6, szl_7, szl_8, szl_9, szl_10, szl_11, szl_12, gd, dEq_i, dNe_i, dLt, dLe, dGt, dGe, dIx_l, dIx_t, Option.bind_some, if_pos, if_neg, if_true, if_false, Nat.zero_add, decide_true, decide_false, Int.toNat_zero, Int.toNat_one, dAdd_i, dSub_i, not_false_eq_true, ite_true, ite_false, Int.reduceLE, Int.reduceLT, Int.reduceNeg, Int.reduceAdd, Int.reduceSub, Int.reduceToNat, Nat.reduceAdd, Nat.reduceLT, Nat.reduceLeDiff, Int.reduceEq, Nat.reduceEqDiff, Int.reduceMul, ↓reduceIte, Int.cast_ofNat_Int]
  refine call_rows (enc := rowD) (m := 12) (fun h a b c => row_ok N h a b c) d0 (by decide) (by decide) (by omega) rfl rfl fun a s1 l1 g1 d1 => ?_
  obtain ⟨X1, q1, m1, c1, h1, n1⟩ := rep_cut rowD a 16 (by omega) (by decide)
  have m1 : dMul (.list (a.map rowD)) (.int 16) = some X1 := m1
  have c1 : dSl X1 none (some 16) = some (.list (q1.map rowD)) := c1
  simp -implicitDefEqProofs only [mSeq, mDo, mRet, mRetN, mSet, mOwn, mKill, mAug, gT, gTs, gTup, mAsg, mOwnM, mApp, mExt, isOl, appT, extT, setT, gIx, mOIx, mOLen, mFreeze, mRetO, mFor, wz_bnd, wz_ok, ret, bad, optM, mVar, mNil, mCons, asB, ofB, mNo, mSome, mSl, mIf, mAnd, mOr, mNot, mChain, mTup, mLst, mFz, mCall, mMeth, mNeg, mIsN, mMs, mAndV, mOrV, mBin, mIter, itemsOf, mRange1, mRange2, mEnum, mListOf, mIsi, wz_bor, wz_borT, wz_noEx, wz_bad, runD, mRepl, pickSem, own_ol, own_fr, own_un, lend_nil, lend_ol, lend_fr, lend_un, isT_str, isT_list, isT_tuple, isT_int, isT_bint, Bool.not_true, Bool.not_false, List.getElem?_cons_zero, List.getElem?_cons_succ, List.getElem?_nil, List.set_cons_zero, List.set_cons_succ, List.replicate_succ, List.replicate_zero, List.cons_append, List.nil_append, List.length_cons, List.length_nil, atI_0, atI_1, atI_2, atI_3, atI_4, ixN_30, ixN_31, ixN_32, szl_0, szl_1, szl_2, szl_3, szl_4, szl_5, szl_6, szl_7, szl_8, szl_9, szl_10, szl_11, szl_12, gd, dEq_i, dNe_i, dLt, dLe, dGt, dGe, dIx_l, dIx_t, Option.bind_some, if_pos, if_neg, if_true, if_false, Nat.zero_add, decide_true, decide_false, Int.toNat_zero, Int.toNat_one, dAdd_i, dSub_i, not_false_eq_true, ite_true, ite_false, Int.reduceLE, Int.reduceLT, Int.reduceNeg, Int.reduceAdd, Int.reduceSub, Int.reduceToNat, Nat.reduceAdd, Nat.reduceLT, Nat.reduceLeDiff, Int.reduceEq, Nat.reduceEqDiff, Int.reduceMul, ↓reduceIte, Int.cast_ofNat_Int, m1, c1]
  refine call_rows (enc := pushD) (m := 12) (fun h a b c => pushes_ok N h a b c) d1 (by decide) (by decide) (by omega) rfl rfl fun b s2 l2 g2 d2 => ?_
  obtain ⟨X2, q2, m2, c2, h2, n2⟩ := rep_cut pushD b 500 (by omega) (by decide)
  have m2 : dMul (.list (b.map pushD)) (.int 500) = some X2 := m2
  have c2 : dSl X2 none (some 500) = some (.list (q2.map pushD)) := c2
  simp -implicitDefEqProofs only [mSeq, mDo, mRet, mRetN, mSet, mOwn, mKill, mAug, gT, gTs, gTup, mAsg, mOwnM, mApp, mExt, isOl, appT, extT, setT, gIx, mOIx, mOLen, mFreeze, mRetO, mFor, wz_bnd, wz_ok, ret, bad, optM, mVar, mNil, mCons, asB, ofB, mNo, mSome, mSl, mIf, mAnd, mOr, mNot, mChain, mTup, mLst, mFz, mCall, mMeth, mNeg, mIsN, mMs, mAndV, mOrV, mBin, mIter, itemsOf, mRange1, mRange2, mEnum, mListOf, mIsi, wz_bor, wz_borT, wz_noEx, wz_bad, runD, mRepl, pickSem, own_ol, own_fr, own_un, lend_nil, lend_ol, lend_fr, lend_un, isT_str, isT_list, isT_tuple, isT_int, isT_bint, Bool.not_true, Bool.not_false, List.getElem?_cons_zero, List.getElem?_cons_succ, List.getElem?_nil, List.set_cons_zero, List.set_cons_succ, List.replicate_succ, List.replicate_zero, List.cons_append, List.nil_append, List.length_cons, List.length_nil, atI_0, atI_1, atI_2, atI_3, atI_4, ixN_30, ixN_31, ixN_32, szl_0, szl_1, szl_2, szl_3, szl_4, szl_5, szl_6, szl_7, szl_8, szl_9, szl_10, szl_11, szl_12, gd, dEq_i, dNe_i, dLt, dLe, dGt, dGe, dIx_l, dIx_t, Option.bind_some, if_pos, if_neg, if_true, if_false, Nat.zero_add, decide_true, decide_false, Int.toNat_zero, Int.toNat_one, dAdd_i, dSub_i, not_false_eq_true, ite_true, ite_false, Int.reduceLE, Int.reduceLT, Int.reduceNeg, Int.reduceAdd, Int.reduceSub, Int.reduceToNat, Nat.reduceAdd, Nat.reduceLT, Nat.reduceLeDiff, Int.reduceEq, Nat.reduceEqDiff, Int.reduceMul, ↓reduceIte, Int.cast_ofNat_Int, m2, c2]
  refine call_rows (enc := rowD) (m := 12) (fun h a b c => seen_ok N h a b c) d2 (by decide) (by decide) (by omega) rfl rfl fun e s3 l3 g3 d3 => ?_
  obtain ⟨X3, q3, m3, c3, h3, n3⟩ := rep_cut rowD e 300 (by omega) (by decide)
  have m3 : dMul (.list (e.map rowD)) (.int 300) = some X3 := m3
  have c3 : dSl X3 none (some 300) = some (.list (q3.map rowD)) := c3
  simp -implicitDefEqProofs only [mSeq, mDo, mRet, mRetN, mSet, mOwn, mKill, mAug, gT, gTs, gTup, mAsg, mOwnM, mApp, mExt, isOl, appT, extT, setT, gIx, mOIx, mOLen, mFreeze, mRetO, mFor, wz_bnd, wz_ok, ret, bad, optM, mVar, mNil, mCons, asB, ofB, mNo, mSome, mSl, mIf, mAnd, mOr, mNot, mChain, mTup, mLst, mFz, mCall, mMeth, mNeg, mIsN, mMs, mAndV, mOrV, mBin, mIter, itemsOf, mRange1, mRange2, mEnum, mListOf, mIsi, wz_bor, wz_borT, wz_noEx, wz_bad, runD, mRepl, pickSem, own_ol, own_fr, own_un, lend_nil, lend_ol, lend_fr, lend_un, isT_str, isT_list, isT_tuple, isT_int, isT_bint, Bool.not_true, Bool.not_false, List.getElem?_cons_zero, List.getElem?_cons_succ, List.getElem?_nil, List.set_cons_zero, List.set_cons_succ, List.replicate_succ, List.replicate_zero, List.cons_append, List.nil_append, List.length_cons, List.length_nil, atI_0, atI_1, atI_2, atI_3, atI_4, ixN_30, ixN_31, ixN_32, szl_0, szl_1, szl_2, szl_3, szl_4, szl_5, szl_6, szl_7, szl_8, szl_9, szl_10, szl_11, szl_12, gd, dEq_i, dNe_i, dLt, dLe, dGt, dGe, dIx_l, dIx_t, Option.bind_some, if_pos, if_neg, if_true, if_false, Nat.zero_add, decide_true, decide_false, Int.toNat_zero, Int.toNat_one, dAdd_i, dSub_i, not_false_eq_true, ite_true, ite_false, Int.reduceLE, Int.reduceLT, Int.reduceNeg, Int.reduceAdd, Int.reduceSub, Int.reduceToNat, Nat.reduceAdd, Nat.reduceLT, Nat.reduceLeDiff, Int.reduceEq, Nat.reduceEqDiff, Int.reduceMul, ↓reduceIte, Int.cast_ofNat_Int, m3, c3]
  refine call_rows (enc := showD) (m := 20) (fun h a b c => shows_ok N h a b c) d3 (by decide) (by decide) (by omega) rfl rfl fun f s4 l4 g4 d4 => ?_
  obtain ⟨X4, q4, m4, c4, h4, n4⟩ := rep_cut showD f 300 (by omega) (by decide)
  have m4 : dMul (.list (f.map showD)) (.int 300) = some X4 := m4
  have c4 : dSl X4 none (some 300) = some (.list (q4.map showD)) := c4
  have a2 : dAdd (.list [.list (q1.map rowD), .list (q2.map pushD)]) (.list [.list (q3.map rowD), .list (q4.map showD)]) = some (.list (Q4.l ⟨q1, q2, q3, q4⟩)) := by
    show gd (decide (2 + 2 ≤ sizeLine)) _ = _
    exact gd_t _ (decide_eq_true (by decide))
  have ok : Q4.ok ⟨q1, q2, q3, q4⟩ := ⟨⟨fun r hr => g1 r (h1 r hr), by show q1.length ≤ 1000; omega⟩, ⟨fun r hr => g2 r (h2 r hr), by show q2.length ≤ 1000; omega⟩, ⟨fun r hr => g3 r (h3 r hr), by show q3.length ≤ 1000; omega⟩, ⟨fun r hr => g4 r (h4 r hr), by show q4.length ≤ 1000; omega⟩⟩
  have hr4 : rangeD 0 4 = [.int 0, .int 1, .int 2, .int 3] := rfl
  have hi4 : inR 4 = true := rfl
  have hr2 : rangeD 0 2 = [.int 0, .int 1] := rfl
  have hi2 : inR 2 = true := rfl
  simp -implicitDefEqProofs only [mSeq, mDo, mRet, mRetN, mSet, mOwn, mKill, mAug, gT, gTs, gTup, mAsg, mOwnM, mApp, mExt, isOl, appT, extT, setT, gIx, mOIx, mOLen, mFreeze, mRetO, mFor, wz_bnd, wz_ok, ret, bad, optM, mVar, mNil, mCons, asB, ofB, mNo, mSome, mSl, mIf, mAnd, mOr, mNot, mChain, mTup, mLst, mFz, mCall, mMeth, mNeg, mIsN, mMs, mAndV, mOrV, mBin, mIter, itemsOf, mRange1, mRange2, mEnum, mListOf, mIsi, wz_bor, wz_borT, wz_noEx, wz_bad, runD, mRepl, pickSem, own_ol, own_fr, own_un, lend_nil, lend_ol, lend_fr, lend_un, isT_str, isT_list, isT_tuple, isT_int, isT_bint, Bool.not_true, Bool.not_false, List.getElem?_cons_zero, List.getElem?_cons_succ, List.getElem?_nil, List.set_cons_zero, List.set_cons_succ, List.replicate_succ, List.replicate_zero, List.cons_append, List.nil_append, List.length_cons, List.length_nil, atI_0, atI_1, atI_2, atI_3, atI_4, ixN_30, ixN_31, ixN_32, szl_0, szl_1, szl_2, szl_3, szl_4, szl_5, szl_6, szl_7, szl_8, szl_9, szl_10, szl_11, szl_12, gd, dEq_i, dNe_i, dLt, dLe, dGt, dGe, dIx_l, dIx_t, Option.bind_some, if_pos, if_neg, if_true, if_false, Nat.zero_add, decide_true, decide_false, Int.toNat_zero, Int.toNat_one, dAdd_i, dSub_i, not_false_eq_true, ite_true, ite_false, Int.reduceLE, Int.reduceLT, Int.reduceNeg, Int.reduceAdd, Int.reduceSub, Int.reduceToNat, Nat.reduceAdd, Nat.reduceLT, Nat.reduceLeDiff, Int.reduceEq, Nat.reduceEqDiff, Int.reduceMul, ↓reduceIte, Int.cast_ofNat_Int, m4, c4, a2, hr4, hi4]
  refine first4 N ok ?_
  have b1 : dSl (.list (ns.map .int)) none (some 6) = some (.list (cutD (ns.map .int) none (some 6))) := rfl
  have b2 : dAdd (.list (cutD (ns.map .int) none (some 6))) (.list [.int 0]) = some (.list (cutD (ns.map .int) none (some 6) ++ [.int 0])) := gd_t _ (decide_eq_true (by
    have : (cutD (ns.map (PyData.int : Int → D)) none (some 6)).length ≤ (ns.map (PyData.int : Int → D)).length := by
      unfold cutD
      rw [List.length_take, List.length_drop]
      omega
    rw [List.length_map] at this
    rw [sizeLine_v]
    show _ + 1 ≤ _
    omega))
  simp -implicitDefEqProofs only [mSeq, mDo, mRet, mRetN, mSet, mOwn, mKill, mAug, gT, gTs, gTup, mAsg, mOwnM, mApp, mExt, isOl, appT, extT, setT, gIx, mOIx, mOLen, mFreeze, mRetO, mFor, wz_bnd, wz_ok, ret, bad, optM, mVar, mNil, mCons, asB, ofB, mNo, mSome, mSl, mIf, mAnd, mOr, mNot, mChain, mTup, mLst, mFz, mCall, mMeth, mNeg, mIsN, mMs, mAndV, mOrV, mBin, mIter, itemsOf, mRange1, mRange2, mEnum, mListOf, mIsi, wz_bor, wz_borT, wz_noEx, wz_bad, runD, mRepl, pickSem, own_ol, own_fr, own_un, lend_nil, lend_ol, lend_fr, lend_un, isT_str, isT_list, isT_tuple, isT_int, isT_bint, Bool.not_true, Bool.not_false, List.getElem?_cons_zero, List.getElem?_cons_succ, List.getElem?_nil, List.set_cons_zero, List.set_cons_succ, List.replicate_succ, List.replicate_zero, List.cons_append, List.nil_append, List.length_cons, List.length_nil, atI_0, atI_1, atI_2, atI_3, atI_4, ixN_30, ixN_31, ixN_32, szl_0, szl_1, szl_2, szl_3, szl_4, szl_5, szl_6, szl_7, szl_8, szl_9, szl_10, szl_11, szl_12, gd, dEq_i, dNe_i, dLt, dLe, dGt, dGe, dIx_l, dIx_t, Option.bind_some, if_pos, if_neg, if_true, if_false, Nat.zero_add, decide_true, decide_false, Int.toNat_zero, Int.toNat_one, dAdd_i, dSub_i, not_false_eq_true, ite_true, ite_false, Int.reduceLE, Int.reduceLT, Int.reduceNeg, Int.reduceAdd, Int.reduceSub, Int.reduceToNat, Nat.reduceAdd, Nat.reduceLT, Nat.reduceLeDiff, Int.reduceEq, Nat.reduceEqDiff, Int.reduceMul, ↓reduceIte, Int.cast_ofNat_Int, b1, b2]
  refine wz_for (fun ts l => (∀ t ∈ ts, ∃ c : Int, t = .int c) ∧ ∃ x0 x1 x2 x3 x4 x5 x6 x7 x8, l = [x0, x1, x2, x3, x4, x5, x6, x7, x8]) (fun t ts l hI => ?_) (fun l hI => ?_) ⟨cells_ints ns, _, _, _, _, _, _, _, _, _, rfl⟩
  · obtain ⟨ht, x0, x1, x2, x3, x4, x5, x6, x7, x8, rfl⟩ := hI
    obtain ⟨c, rfl⟩ := ht t (List.mem_cons_self ..)
    have ht2 : ∀ u ∈ ts, ∃ c : Int, u = .int c := fun u hu => ht u (List.mem_cons_of_mem _ hu)
    clear ht
    simp -implicitDefEqProofs only [mSeq, mDo, mRet, mRetN, mSet, mOwn, mKill, mAug, gT, gTs, gTup, mAsg, mOwnM, mApp, mExt, isOl, appT, extT, setT, gIx, mOIx, mOLen, mFreeze, mRetO, mFor, wz_bnd, wz_ok, ret, bad, optM, mVar, mNil, mCons, asB, ofB, mNo, mSome, mSl, mIf, mAnd, mOr, mNot, mChain, mTup, mLst, mFz, mCall, mMeth, mNeg, mIsN, mMs, mAndV, mOrV, mBin, mIter, itemsOf, mRange1, mRange2, mEnum, mListOf, mIsi, wz_bor, wz_borT, wz_noEx, wz_bad, runD, mRepl, pickSem, own_ol, own_fr, own_un, lend_nil, lend_ol, lend_fr, lend_un, isT_str, isT_list, isT_tuple, isT_int, isT_bint, Bool.not_true, Bool.not_false, List.getElem?_cons_zero, List.getElem?_cons_succ, List.getElem?_nil, List.set_cons_zero, List.set_cons_succ, List.replicate_succ, List.replicate_zero, List.cons_append, List.nil_append, List.length_cons, List.length_nil, atI_0, atI_1, atI_2, atI_3, atI_4, ixN_30, ixN_31, ixN_32, szl_0, szl_1, szl_2, szl_3, szl_4, szl_5, szl_6, szl_7, szl_8, szl_9, szl_10, szl_11, szl_12, gd, dEq_i, dNe_i, dLt, dLe, dGt, dGe, dIx_l, dIx_t, Option.bind_some, if_pos, if_neg, if_true, if_false, Nat.zero_add, decide_true, decide_false, Int.toNat_zero, Int.toNat_one, dAdd_i, dSub_i, not_false_eq_true, ite_true, ite_false, Int.reduceLE, Int.reduceLT, Int.reduceNeg, Int.reduceAdd, Int.reduceSub, Int.reduceToNat, Nat.reduceAdd, Nat.reduceLT, Nat.reduceLeDiff, Int.reduceEq, Nat.reduceEqDiff, Int.reduceMul, ↓reduceIte, Int.cast_ofNat_Int, killS]
    refine callN_1 ?_
    simp -implicitDefEqProofs only [mSeq, mDo, mRet, mRetN, mSet, mOwn, mKill, mAug, gT, gTs, gTup, mAsg, mOwnM, mApp, mExt, isOl, appT, extT, setT, gIx, mOIx, mOLen, mFreeze, mRetO, mFor, wz_bnd, wz_ok, ret, bad, optM, mVar, mNil, mCons, asB, ofB, mNo, mSome, mSl, mIf, mAnd, mOr, mNot, mChain, mTup, mLst, mFz, mCall, mMeth, mNeg, mIsN, mMs, mAndV, mOrV, mBin, mIter, itemsOf, mRange1, mRange2, mEnum, mListOf, mIsi, wz_bor, wz_borT, wz_noEx, wz_bad, runD, mRepl, pickSem, own_ol, own_fr, own_un, lend_nil, lend_ol, lend_fr, lend_un, isT_str, isT_list, isT_tuple, isT_int, isT_bint, Bool.not_true, Bool.not_false, List.getElem?_cons_zero, List.getElem?_cons_succ, List.getElem?_nil, List.set_cons_zero, List.set_cons_succ, List.replicate_succ, List.replicate_zero, List.cons_append, List.nil_append, List.length_cons, List.length_nil, atI_0, atI_1, atI_2, atI_3, atI_4, ixN_30, ixN_31, ixN_32, szl_0, szl_1, szl_2, szl_3, szl_4, szl_5, szl_6, szl_7, szl_8, szl_9, szl_10, szl_11, szl_12, gd, dEq_i, dNe_i, dLt, dLe, dGt, dGe, dIx_l, dIx_t, Option.bind_some, if_pos, if_neg, if_true, if_false, Nat.zero_add, decide_true, decide_false, Int.toNat_zero, Int.toNat_one, dAdd_i, dSub_i, not_false_eq_true, ite_true, ite_false, Int.reduceLE, Int.reduceLT, Int.reduceNeg, Int.reduceAdd, Int.reduceSub, Int.reduceToNat, Nat.reduceAdd, Nat.reduceLT, Nat.reduceLeDiff, Int.reduceEq, Nat.reduceEqDiff, Int.reduceMul, ↓reduceIte, Int.cast_ofNat_Int]
    refine wz_imp (draws_ok N c) fun fl l ⟨s0, e0, d0⟩ => ⟨_, e0, ?_⟩
    simp -implicitDefEqProofs only [mSeq, mDo, mRet, mRetN, mSet, mOwn, mKill, mAug, gT, gTs, gTup, mAsg, mOwnM, mApp, mExt, isOl, appT, extT, setT, gIx, mOIx, mOLen, mFreeze, mRetO, mFor, wz_bnd, wz_ok, ret, bad, optM, mVar, mNil, mCons, asB, ofB, mNo, mSome, mSl, mIf, mAnd, mOr, mNot, mChain, mTup, mLst, mFz, mCall, mMeth, mNeg, mIsN, mMs, mAndV, mOrV, mBin, mIter, itemsOf, mRange1, mRange2, mEnum, mListOf, mIsi, wz_bor, wz_borT, wz_noEx, wz_bad, runD, mRepl, pickSem, own_ol, own_fr, own_un, lend_nil, lend_ol, lend_fr, lend_un, isT_str, isT_list, isT_tuple, isT_int, isT_bint, Bool.not_true, Bool.not_false, List.getElem?_cons_zero, List.getElem?_cons_succ, List.getElem?_nil, List.set_cons_zero, List.set_cons_succ, List.replicate_succ, List.replicate_zero, List.cons_append, List.nil_append, List.length_cons, List.length_nil, atI_0, atI_1, atI_2, atI_3, atI_4, ixN_30, ixN_31, ixN_32, szl_0, szl_1, szl_2, szl_3, szl_4, szl_5, szl_6, szl_7, szl_8, szl_9, szl_10, szl_11, szl_12, gd, dEq_i, dNe_i, dLt, dLe, dGt, dGe, dIx_l, dIx_t, Option.bind_some, if_pos, if_neg, if_true, if_false, Nat.zero_add, decide_true, decide_false, Int.toNat_zero, Int.toNat_one, dAdd_i, dSub_i, not_false_eq_true, ite_true, ite_false, Int.reduceLE, Int.reduceLT, Int.reduceNeg, Int.reduceAdd, Int.reduceSub, Int.reduceToNat, Nat.reduceAdd, Nat.reduceLT, Nat.reduceLeDiff, Int.reduceEq, Nat.reduceEqDiff, Int.reduceMul, ↓reduceIte, Int.cast_ofNat_Int, hr2, hi2]
    refine wz_for (fun us l => ∃ (qs : List Q4) (s y : SV), l = [x0, s, x2, .un, .fr (.int c), .ol (qs.map qD), y, .un, .un] ∧ qs.length + us.length = 2 ∧ (∀ q ∈ qs, q.ok) ∧ Dr (12000 * qs.length) s) (fun u us l hJ => ?_) (fun l hJ => ?_) ⟨[], s0, _, rfl, rfl, (fun _ z => by cases z), d0⟩
    · obtain ⟨qs, s, y, rfl, hq, hok, hd⟩ := hJ
      rw [List.length_cons] at hq
      have z1 : decide (qs.length < sizeLine) = true := decide_eq_true (by rw [sizeLine_v]; omega)
      simp -implicitDefEqProofs only [mSeq, mDo, mRet, mRetN, mSet, mOwn, mKill, mAug, gT, gTs, gTup, mAsg, mOwnM, mApp, mExt, isOl, appT, extT, setT, gIx, mOIx, mOLen, mFreeze, mRetO, mFor, wz_bnd, wz_ok, ret, bad, optM, mVar, mNil, mCons, asB, ofB, mNo, mSome, mSl, mIf, mAnd, mOr, mNot, mChain, mTup, mLst, mFz, mCall, mMeth, mNeg, mIsN, mMs, mAndV, mOrV, mBin, mIter, itemsOf, mRange1, mRange2, mEnum, mListOf, mIsi, wz_bor, wz_borT, wz_noEx, wz_bad, runD, mRepl, pickSem, own_ol, own_fr, own_un, lend_nil, lend_ol, lend_fr, lend_un, isT_str, isT_list, isT_tuple, isT_int, isT_bint, Bool.not_true, Bool.not_false, List.getElem?_cons_zero, List.getElem?_cons_succ, List.getElem?_nil, List.set_cons_zero, List.set_cons_succ, List.replicate_succ, List.replicate_zero, List.cons_append, List.nil_append, List.length_cons, List.length_nil, atI_0, atI_1, atI_2, atI_3, atI_4, ixN_30, ixN_31, ixN_32, szl_0, szl_1, szl_2, szl_3, szl_4, szl_5, szl_6, szl_7, szl_8, szl_9, szl_10, szl_11, szl_12, gd, dEq_i, dNe_i, dLt, dLe, dGt, dGe, dIx_l, dIx_t, Option.bind_some, if_pos, if_neg, if_true, if_false, Nat.zero_add, decide_true, decide_false, Int.toNat_zero, Int.toNat_one, dAdd_i, dSub_i, not_false_eq_true, ite_true, ite_false, Int.reduceLE, Int.reduceLT, Int.reduceNeg, Int.reduceAdd, Int.reduceSub, Int.reduceToNat, Nat.reduceAdd, Nat.reduceLT, Nat.reduceLeDiff, Int.reduceEq, Nat.reduceEqDiff, Int.reduceMul, ↓reduceIte, Int.cast_ofNat_Int, killS]
      refine call_rows (enc := rowD) (m := 12) (fun h a b c => row_ok N h a b c) hd (by decide) (by decide) (by omega) rfl rfl fun a s1 l1 g1 d1 => ?_
      try simp -implicitDefEqProofs only [mSeq, mDo, mRet, mRetN, mSet, mOwn, mKill, mAug, gT, gTs, gTup, mAsg, mOwnM, mApp, mExt, isOl, appT, extT, setT, gIx, mOIx, mOLen, mFreeze, mRetO, mFor, wz_bnd, wz_ok, ret, bad, optM, mVar, mNil, mCons, asB, ofB, mNo, mSome, mSl, mIf, mAnd, mOr, mNot, mChain, mTup, mLst, mFz, mCall, mMeth, mNeg, mIsN, mMs, mAndV, mOrV, mBin, mIter, itemsOf, mRange1, mRange2, mEnum, mListOf, mIsi, wz_bor, wz_borT, wz_noEx, wz_bad, runD, mRepl, pickSem, own_ol, own_fr, own_un, lend_nil, lend_ol, lend_fr, lend_un, isT_str, isT_list, isT_tuple, isT_int, isT_bint, Bool.not_true, Bool.not_false, List.getElem?_cons_zero, List.getElem?_cons_succ, List.getElem?_nil, List.set_cons_zero, List.set_cons_succ, List.replicate_succ, List.replicate_zero, List.cons_append, List.nil_append, List.length_cons, List.length_nil, atI_0, atI_1, atI_2, atI_3, atI_4, ixN_30, ixN_31, ixN_32, szl_0, szl_1, szl_2, szl_3, szl_4, szl_5, szl_6, szl_7, szl_8, szl_9, szl_10, szl_11, szl_12, gd, dEq_i, dNe_i, dLt, dLe, dGt, dGe, dIx_l, dIx_t, Option.bind_some, if_pos, if_neg, if_true, if_false, Nat.zero_add, decide_true, decide_false, Int.toNat_zero, Int.toNat_one, dAdd_i, dSub_i, not_false_eq_true, ite_true, ite_false, Int.reduceLE, Int.reduceLT, Int.reduceNeg, Int.reduceAdd, Int.reduceSub, Int.reduceToNat, Nat.reduceAdd, Nat.reduceLT, Nat.reduceLeDiff, Int.reduceEq, Nat.reduceEqDiff, Int.reduceMul, ↓reduceIte, Int.cast_ofNat_Int]
      refine call_rows (enc := pushD) (m := 12) (fun h a b c => pushes_ok N h a b c) d1 (by decide) (by decide) (by omega) rfl rfl fun b s2 l2 g2 d2 => ?_
      try simp -implicitDefEqProofs only [mSeq, mDo, mRet, mRetN, mSet, mOwn, mKill, mAug, gT, gTs, gTup, mAsg, mOwnM, mApp, mExt, isOl, appT, extT, setT, gIx, mOIx, mOLen, mFreeze, mRetO, mFor, wz_bnd, wz_ok, ret, bad, optM, mVar, mNil, mCons, asB, ofB, mNo, mSome, mSl, mIf, mAnd, mOr, mNot, mChain, mTup, mLst, mFz, mCall, mMeth, mNeg, mIsN, mMs, mAndV, mOrV, mBin, mIter, itemsOf, mRange1, mRange2, mEnum, mListOf, mIsi, wz_bor, wz_borT, wz_noEx, wz_bad, runD, mRepl, pickSem, own_ol, own_fr, own_un, lend_nil, lend_ol, lend_fr, lend_un, isT_str, isT_list, isT_tuple, isT_int, isT_bint, Bool.not_true, Bool.not_false, List.getElem?_cons_zero, List.getElem?_cons_succ, List.getElem?_nil, List.set_cons_zero, List.set_cons_succ, List.replicate_succ, List.replicate_zero, List.cons_append, List.nil_append, List.length_cons, List.length_nil, atI_0, atI_1, atI_2, atI_3, atI_4, ixN_30, ixN_31, ixN_32, szl_0, szl_1, szl_2, szl_3, szl_4, szl_5, szl_6, szl_7, szl_8, szl_9, szl_10, szl_11, szl_12, gd, dEq_i, dNe_i, dLt, dLe, dGt, dGe, dIx_l, dIx_t, Option.bind_some, if_pos, if_neg, if_true, if_false, Nat.zero_add, decide_true, decide_false, Int.toNat_zero, Int.toNat_one, dAdd_i, dSub_i, not_false_eq_true, ite_true, ite_false, Int.reduceLE, Int.reduceLT, Int.reduceNeg, Int.reduceAdd, Int.reduceSub, Int.reduceToNat, Nat.reduceAdd, Nat.reduceLT, Nat.reduceLeDiff, Int.reduceEq, Nat.reduceEqDiff, Int.reduceMul, ↓reduceIte, Int.cast_ofNat_Int]
      refine call_rows (enc := rowD) (m := 12) (fun h a b c => seen_ok N h a b c) d2 (by decide) (by decide) (by omega) rfl rfl fun e s3 l3 g3 d3 => ?_
      try simp -implicitDefEqProofs only [mSeq, mDo, mRet, mRetN, mSet, mOwn, mKill, mAug, gT, gTs, gTup, mAsg, mOwnM, mApp, mExt, isOl, appT, extT, setT, gIx, mOIx, mOLen, mFreeze, mRetO, mFor, wz_bnd, wz_ok, ret, bad, optM, mVar, mNil, mCons, asB, ofB, mNo, mSome, mSl, mIf, mAnd, mOr, mNot, mChain, mTup, mLst, mFz, mCall, mMeth, mNeg, mIsN, mMs, mAndV, mOrV, mBin, mIter, itemsOf, mRange1, mRange2, mEnum, mListOf, mIsi, wz_bor, wz_borT, wz_noEx, wz_bad, runD, mRepl, pickSem, own_ol, own_fr, own_un, lend_nil, lend_ol, lend_fr, lend_un, isT_str, isT_list, isT_tuple, isT_int, isT_bint, Bool.not_true, Bool.not_false, List.getElem?_cons_zero, List.getElem?_cons_succ, List.getElem?_nil, List.set_cons_zero, List.set_cons_succ, List.replicate_succ, List.replicate_zero, List.cons_append, List.nil_append, List.length_cons, List.length_nil, atI_0, atI_1, atI_2, atI_3, atI_4, ixN_30, ixN_31, ixN_32, szl_0, szl_1, szl_2, szl_3, szl_4, szl_5, szl_6, szl_7, szl_8, szl_9, szl_10, szl_11, szl_12, gd, dEq_i, dNe_i, dLt, dLe, dGt, dGe, dIx_l, dIx_t, Option.bind_some, if_pos, if_neg, if_true, if_false, Nat.zero_add, decide_true, decide_false, Int.toNat_zero, Int.toNat_one, dAdd_i, dSub_i, not_false_eq_true, ite_true, ite_false, Int.reduceLE, Int.reduceLT, Int.reduceNeg, Int.reduceAdd, Int.reduceSub, Int.reduceToNat, Nat.reduceAdd, Nat.reduceLT, Nat.reduceLeDiff, Int.reduceEq, Nat.reduceEqDiff, Int.reduceMul, ↓reduceIte, Int.cast_ofNat_Int]
      refine call_rows (enc := showD) (m := 20) (fun h a b c => shows_ok N h a b c) d3 (by decide) (by decide) (by omega) rfl rfl fun f s4 l4 g4 d4 => ?_
      simp -implicitDefEqProofs only [mSeq, mDo, mRet, mRetN, mSet, mOwn, mKill, mAug, gT, gTs, gTup, mAsg, mOwnM, mApp, mExt, isOl, appT, extT, setT, gIx, mOIx, mOLen, mFreeze, mRetO, mFor, wz_bnd, wz_ok, ret, bad, optM, mVar, mNil, mCons, asB, ofB, mNo, mSome, mSl, mIf, mAnd, mOr, mNot, mChain, mTup, mLst, mFz, mCall, mMeth, mNeg, mIsN, mMs, mAndV, mOrV, mBin, mIter, itemsOf, mRange1, mRange2, mEnum, mListOf, mIsi, wz_bor, wz_borT, wz_noEx, wz_bad, runD, mRepl, pickSem, own_ol, own_fr, own_un, lend_nil, lend_ol, lend_fr, lend_un, isT_str, isT_list, isT_tuple, isT_int, isT_bint, Bool.not_true, Bool.not_false, List.getElem?_cons_zero, List.getElem?_cons_succ, List.getElem?_nil, List.set_cons_zero, List.set_cons_succ, List.replicate_succ, List.replicate_zero, List.cons_append, List.nil_append, List.length_cons, List.length_nil, atI_0, atI_1, atI_2, atI_3, atI_4, ixN_30, ixN_31, ixN_32, szl_0, szl_1, szl_2, szl_3, szl_4, szl_5, szl_6, szl_7, szl_8, szl_9, szl_10, szl_11, szl_12, gd, dEq_i, dNe_i, dLt, dLe, dGt, dGe, dIx_l, dIx_t, Option.bind_some, if_pos, if_neg, if_true, if_false, Nat.zero_add, decide_true, decide_false, Int.toNat_zero, Int.toNat_one, dAdd_i, dSub_i, not_false_eq_true, ite_true, ite_false, Int.reduceLE, Int.reduceLT, Int.reduceNeg, Int.reduceAdd, Int.reduceSub, Int.reduceToNat, Nat.reduceAdd, Nat.reduceLT, Nat.reduceLeDiff, Int.reduceEq, Nat.reduceEqDiff, Int.reduceMul, ↓reduceIte, Int.cast_ofNat_Int, List.length_map, z1]
      refine ⟨qs ++ [⟨a, b, e, f⟩], s4, _, by rw [List.map_append]; rfl, by rw [List.length_append, List.length_singleton]; omega, fun q hq => ?_, ?_⟩
      · rcases List.mem_append.mp hq with z | z
        · exact hok q z
        · rw [List.mem_singleton.mp z]
          exact ⟨⟨g1, by show a.length ≤ 1000; omega⟩, ⟨g2, by show b.length ≤ 1000; omega⟩, ⟨g3, by show e.length ≤ 1000; omega⟩, ⟨g4, by show f.length ≤ 1000; omega⟩⟩
      · rw [List.length_append, List.length_singleton]
        exact d4.mono (by omega)
    · obtain ⟨qs, s, y, rfl, hq, hok, hd⟩ := hJ
      rw [List.length_nil] at hq
      match qs, hq, hok with
      | [p, q], _, hok =>
        have okp := hok p (List.mem_cons_self ..)
        have okq := hok q (List.mem_cons_of_mem _ (List.mem_cons_self ..))
        have t1 := steps_text_ok N (enc := rowD) (out := deedS) (fun r hr => step_text_d N (okp.a.1 r hr).1 (str_nm (okp.a.1 r hr).2) (len_nm (okp.a.1 r hr).2)) (words_of (kd_row N) okp.a.1 okp.a.2)
        have t2 := steps_text_ok N (enc := pushD) (out := stepS) (fun r hr => step_text_p N (okp.b.1 r hr)) (words_of (kd_pushes N) okp.b.1 okp.b.2)
        have t3 := seen_text_ok N okp.c.1 (words_of (kd_seen N) okp.c.1 okp.c.2)
        have t4 := shows_text_ok N okp.d.1 (words_of (kd_shows N) okp.d.1 okp.d.2)
        have u1 := read_row_ok N okp.a.1 (words_of (kd_row N) okp.a.1 okp.a.2)
        have u2 := read_pushes_ok N okp.b.1 (words_of (kd_pushes N) okp.b.1 okp.b.2)
        have u3 := read_shown_ok N okp.c.1 (words_of (kd_seen N) okp.c.1 okp.c.2)
        have u4 := read_shows_ok N okp.d.1 (words_of (kd_shows N) okp.d.1 okp.d.2)
        have e1 : atI p.l 0 = some (.list (p.a.map rowD)) := rfl
        have e2 : atI p.l 1 = some (.list (p.b.map pushD)) := rfl
        have e3 : atI p.l 2 = some (.list (p.c.map rowD)) := rfl
        have e4 : atI p.l 3 = some (.list (p.d.map showD)) := rfl
        have a3 : dAdd (.list [.list (p.a.map rowD), .list (p.b.map pushD)]) (.list [.list (p.c.map rowD), .list (p.d.map showD)]) = some (.list p.l) := by
          show gd (decide (2 + 2 ≤ sizeLine)) _ = _
          exact gd_t _ (decide_eq_true (by decide))
        have n1 := ne_self (shaped_q p)
        simp -implicitDefEqProofs only [mSeq, mDo, mRet, mRetN, mSet, mOwn, mKill, mAug, gT, gTs, gTup, mAsg, mOwnM, mApp, mExt, isOl, appT, extT, setT, gIx, mOIx, mOLen, mFreeze, mRetO, mFor, wz_bnd, wz_ok, ret, bad, optM, mVar, mNil, mCons, asB, ofB, mNo, mSome, mSl, mIf, mAnd, mOr, mNot, mChain, mTup, mLst, mFz, mCall, mMeth, mNeg, mIsN, mMs, mAndV, mOrV, mBin, mIter, itemsOf, mRange1, mRange2, mEnum, mListOf, mIsi, wz_bor, wz_borT, wz_noEx, wz_bad, runD, mRepl, pickSem, own_ol, own_fr, own_un, lend_nil, lend_ol, lend_fr, lend_un, isT_str, isT_list, isT_tuple, isT_int, isT_bint, Bool.not_true, Bool.not_false, List.getElem?_cons_zero, List.getElem?_cons_succ, List.getElem?_nil, List.set_cons_zero, List.set_cons_succ, List.replicate_succ, List.replicate_zero, List.cons_append, List.nil_append, List.length_cons, List.length_nil, atI_0, atI_1, atI_2, atI_3, atI_4, ixN_30, ixN_31, ixN_32, szl_0, szl_1, szl_2, szl_3, szl_4, szl_5, szl_6, szl_7, szl_8, szl_9, szl_10, szl_11, szl_12, gd, dEq_i, dNe_i, dLt, dLe, dGt, dGe, dIx_l, dIx_t, Option.bind_some, if_pos, if_neg, if_true, if_false, Nat.zero_add, decide_true, decide_false, Int.toNat_zero, Int.toNat_one, dAdd_i, dSub_i, not_false_eq_true, ite_true, ite_false, Int.reduceLE, Int.reduceLT, Int.reduceNeg, Int.reduceAdd, Int.reduceSub, Int.reduceToNat, Nat.reduceAdd, Nat.reduceLT, Nat.reduceLeDiff, Int.reduceEq, Nat.reduceEqDiff, Int.reduceMul, ↓reduceIte, Int.cast_ofNat_Int, killS, List.map_cons, List.map_nil, qD]
        refine callN_1 (callF_1 ?_)
        simp -implicitDefEqProofs only [mSeq, mDo, mRet, mRetN, mSet, mOwn, mKill, mAug, gT, gTs, gTup, mAsg, mOwnM, mApp, mExt, isOl, appT, extT, setT, gIx, mOIx, mOLen, mFreeze, mRetO, mFor, wz_bnd, wz_ok, ret, bad, optM, mVar, mNil, mCons, asB, ofB, mNo, mSome, mSl, mIf, mAnd, mOr, mNot, mChain, mTup, mLst, mFz, mCall, mMeth, mNeg, mIsN, mMs, mAndV, mOrV, mBin, mIter, itemsOf, mRange1, mRange2, mEnum, mListOf, mIsi, wz_bor, wz_borT, wz_noEx, wz_bad, runD, mRepl, pickSem, own_ol, own_fr, own_un, lend_nil, lend_ol, lend_fr, lend_un, isT_str, isT_list, isT_tuple, isT_int, isT_bint, Bool.not_true, Bool.not_false, List.getElem?_cons_zero, List.getElem?_cons_succ, List.getElem?_nil, List.set_cons_zero, List.set_cons_succ, List.replicate_succ, List.replicate_zero, List.cons_append, List.nil_append, List.length_cons, List.length_nil, atI_0, atI_1, atI_2, atI_3, atI_4, ixN_30, ixN_31, ixN_32, szl_0, szl_1, szl_2, szl_3, szl_4, szl_5, szl_6, szl_7, szl_8, szl_9, szl_10, szl_11, szl_12, gd, dEq_i, dNe_i, dLt, dLe, dGt, dGe, dIx_l, dIx_t, Option.bind_some, if_pos, if_neg, if_true, if_false, Nat.zero_add, decide_true, decide_false, Int.toNat_zero, Int.toNat_one, dAdd_i, dSub_i, not_false_eq_true, ite_true, ite_false, Int.reduceLE, Int.reduceLT, Int.reduceNeg, Int.reduceAdd, Int.reduceSub, Int.reduceToNat, Nat.reduceAdd, Nat.reduceLT, Nat.reduceLeDiff, Int.reduceEq, Nat.reduceEqDiff, Int.reduceMul, ↓reduceIte, Int.cast_ofNat_Int, e1]
        refine wz_imp t1 fun fl l e => ⟨_, e, ?_⟩
        refine wz_imp u1 fun fl l e => ⟨_, e, ?_⟩
        simp -implicitDefEqProofs only [mSeq, mDo, mRet, mRetN, mSet, mOwn, mKill, mAug, gT, gTs, gTup, mAsg, mOwnM, mApp, mExt, isOl, appT, extT, setT, gIx, mOIx, mOLen, mFreeze, mRetO, mFor, wz_bnd, wz_ok, ret, bad, optM, mVar, mNil, mCons, asB, ofB, mNo, mSome, mSl, mIf, mAnd, mOr, mNot, mChain, mTup, mLst, mFz, mCall, mMeth, mNeg, mIsN, mMs, mAndV, mOrV, mBin, mIter, itemsOf, mRange1, mRange2, mEnum, mListOf, mIsi, wz_bor, wz_borT, wz_noEx, wz_bad, runD, mRepl, pickSem, own_ol, own_fr, own_un, lend_nil, lend_ol, lend_fr, lend_un, isT_str, isT_list, isT_tuple, isT_int, isT_bint, Bool.not_true, Bool.not_false, List.getElem?_cons_zero, List.getElem?_cons_succ, List.getElem?_nil, List.set_cons_zero, List.set_cons_succ, List.replicate_succ, List.replicate_zero, List.cons_append, List.nil_append, List.length_cons, List.length_nil, atI_0, atI_1, atI_2, atI_3, atI_4, ixN_30, ixN_31, ixN_32, szl_0, szl_1, szl_2, szl_3, szl_4, szl_5, szl_6, szl_7, szl_8, szl_9, szl_10, szl_11, szl_12, gd, dEq_i, dNe_i, dLt, dLe, dGt, dGe, dIx_l, dIx_t, Option.bind_some, if_pos, if_neg, if_true, if_false, Nat.zero_add, decide_true, decide_false, Int.toNat_zero, Int.toNat_one, dAdd_i, dSub_i, not_false_eq_true, ite_true, ite_false, Int.reduceLE, Int.reduceLT, Int.reduceNeg, Int.reduceAdd, Int.reduceSub, Int.reduceToNat, Nat.reduceAdd, Nat.reduceLT, Nat.reduceLeDiff, Int.reduceEq, Nat.reduceEqDiff, Int.reduceMul, ↓reduceIte, Int.cast_ofNat_Int]
        refine callN_1 (callF_1 ?_)
        simp -implicitDefEqProofs only [mSeq, mDo, mRet, mRetN, mSet, mOwn, mKill, mAug, gT, gTs, gTup, mAsg, mOwnM, mApp, mExt, isOl, appT, extT, setT, gIx, mOIx, mOLen, mFreeze, mRetO, mFor, wz_bnd, wz_ok, ret, bad, optM, mVar, mNil, mCons, asB, ofB, mNo, mSome, mSl, mIf, mAnd, mOr, mNot, mChain, mTup, mLst, mFz, mCall, mMeth, mNeg, mIsN, mMs, mAndV, mOrV, mBin, mIter, itemsOf, mRange1, mRange2, mEnum, mListOf, mIsi, wz_bor, wz_borT, wz_noEx, wz_bad, runD, mRepl, pickSem, own_ol, own_fr, own_un, lend_nil, lend_ol, lend_fr, lend_un, isT_str, isT_list, isT_tuple, isT_int, isT_bint, Bool.not_true, Bool.not_false, List.getElem?_cons_zero, List.getElem?_cons_succ, List.getElem?_nil, List.set_cons_zero, List.set_cons_succ, List.replicate_succ, List.replicate_zero, List.cons_append, List.nil_append, List.length_cons, List.length_nil, atI_0, atI_1, atI_2, atI_3, atI_4, ixN_30, ixN_31, ixN_32, szl_0, szl_1, szl_2, szl_3, szl_4, szl_5, szl_6, szl_7, szl_8, szl_9, szl_10, szl_11, szl_12, gd, dEq_i, dNe_i, dLt, dLe, dGt, dGe, dIx_l, dIx_t, Option.bind_some, if_pos, if_neg, if_true, if_false, Nat.zero_add, decide_true, decide_false, Int.toNat_zero, Int.toNat_one, dAdd_i, dSub_i, not_false_eq_true, ite_true, ite_false, Int.reduceLE, Int.reduceLT, Int.reduceNeg, Int.reduceAdd, Int.reduceSub, Int.reduceToNat, Nat.reduceAdd, Nat.reduceLT, Nat.reduceLeDiff, Int.reduceEq, Nat.reduceEqDiff, Int.reduceMul, ↓reduceIte, Int.cast_ofNat_Int, e2]
        refine wz_imp t2 fun fl l e => ⟨_, e, ?_⟩
        refine wz_imp u2 fun fl l e => ⟨_, e, ?_⟩
        simp -implicitDefEqProofs only [mSeq, mDo, mRet, mRetN, mSet, mOwn, mKill, mAug, gT, gTs, gTup, mAsg, mOwnM, mApp, mExt, isOl, appT, extT, setT, gIx, mOIx, mOLen, mFreeze, mRetO, mFor, wz_bnd, wz_ok, ret, bad, optM, mVar, mNil, mCons, asB, ofB, mNo, mSome, mSl, mIf, mAnd, mOr, mNot, mChain, mTup, mLst, mFz, mCall, mMeth, mNeg, mIsN, mMs, mAndV, mOrV, mBin, mIter, itemsOf, mRange1, mRange2, mEnum, mListOf, mIsi, wz_bor, wz_borT, wz_noEx, wz_bad, runD, mRepl, pickSem, own_ol, own_fr, own_un, lend_nil, lend_ol, lend_fr, lend_un, isT_str, isT_list, isT_tuple, isT_int, isT_bint, Bool.not_true, Bool.not_false, List.getElem?_cons_zero, List.getElem?_cons_succ, List.getElem?_nil, List.set_cons_zero, List.set_cons_succ, List.replicate_succ, List.replicate_zero, List.cons_append, List.nil_append, List.length_cons, List.length_nil, atI_0, atI_1, atI_2, atI_3, atI_4, ixN_30, ixN_31, ixN_32, szl_0, szl_1, szl_2, szl_3, szl_4, szl_5, szl_6, szl_7, szl_8, szl_9, szl_10, szl_11, szl_12, gd, dEq_i, dNe_i, dLt, dLe, dGt, dGe, dIx_l, dIx_t, Option.bind_some, if_pos, if_neg, if_true, if_false, Nat.zero_add, decide_true, decide_false, Int.toNat_zero, Int.toNat_one, dAdd_i, dSub_i, not_false_eq_true, ite_true, ite_false, Int.reduceLE, Int.reduceLT, Int.reduceNeg, Int.reduceAdd, Int.reduceSub, Int.reduceToNat, Nat.reduceAdd, Nat.reduceLT, Nat.reduceLeDiff, Int.reduceEq, Nat.reduceEqDiff, Int.reduceMul, ↓reduceIte, Int.cast_ofNat_Int]
        refine callN_1 (callF_1 ?_)
        simp -implicitDefEqProofs only [mSeq, mDo, mRet, mRetN, mSet, mOwn, mKill, mAug, gT, gTs, gTup, mAsg, mOwnM, mApp, mExt, isOl, appT, extT, setT, gIx, mOIx, mOLen, mFreeze, mRetO, mFor, wz_bnd, wz_ok, ret, bad, optM, mVar, mNil, mCons, asB, ofB, mNo, mSome, mSl, mIf, mAnd, mOr, mNot, mChain, mTup, mLst, mFz, mCall, mMeth, mNeg, mIsN, mMs, mAndV, mOrV, mBin, mIter, itemsOf, mRange1, mRange2, mEnum, mListOf, mIsi, wz_bor, wz_borT, wz_noEx, wz_bad, runD, mRepl, pickSem, own_ol, own_fr, own_un, lend_nil, lend_ol, lend_fr, lend_un, isT_str, isT_list, isT_tuple, isT_int, isT_bint, Bool.not_true, Bool.not_false, List.getElem?_cons_zero, List.getElem?_cons_succ, List.getElem?_nil, List.set_cons_zero, List.set_cons_succ, List.replicate_succ, List.replicate_zero, List.cons_append, List.nil_append, List.length_cons, List.length_nil, atI_0, atI_1, atI_2, atI_3, atI_4, ixN_30, ixN_31, ixN_32, szl_0, szl_1, szl_2, szl_3, szl_4, szl_5, szl_6, szl_7, szl_8, szl_9, szl_10, szl_11, szl_12, gd, dEq_i, dNe_i, dLt, dLe, dGt, dGe, dIx_l, dIx_t, Option.bind_some, if_pos, if_neg, if_true, if_false, Nat.zero_add, decide_true, decide_false, Int.toNat_zero, Int.toNat_one, dAdd_i, dSub_i, not_false_eq_true, ite_true, ite_false, Int.reduceLE, Int.reduceLT, Int.reduceNeg, Int.reduceAdd, Int.reduceSub, Int.reduceToNat, Nat.reduceAdd, Nat.reduceLT, Nat.reduceLeDiff, Int.reduceEq, Nat.reduceEqDiff, Int.reduceMul, ↓reduceIte, Int.cast_ofNat_Int, e3]
        refine wz_imp t3 fun fl l e => ⟨_, e, ?_⟩
        refine wz_imp u3 fun fl l e => ⟨_, e, ?_⟩
        simp -implicitDefEqProofs only [mSeq, mDo, mRet, mRetN, mSet, mOwn, mKill, mAug, gT, gTs, gTup, mAsg, mOwnM, mApp, mExt, isOl, appT, extT, setT, gIx, mOIx, mOLen, mFreeze, mRetO, mFor, wz_bnd, wz_ok, ret, bad, optM, mVar, mNil, mCons, asB, ofB, mNo, mSome, mSl, mIf, mAnd, mOr, mNot, mChain, mTup, mLst, mFz, mCall, mMeth, mNeg, mIsN, mMs, mAndV, mOrV, mBin, mIter, itemsOf, mRange1, mRange2, mEnum, mListOf, mIsi, wz_bor, wz_borT, wz_noEx, wz_bad, runD, mRepl, pickSem, own_ol, own_fr, own_un, lend_nil, lend_ol, lend_fr, lend_un, isT_str, isT_list, isT_tuple, isT_int, isT_bint, Bool.not_true, Bool.not_false, List.getElem?_cons_zero, List.getElem?_cons_succ, List.getElem?_nil, List.set_cons_zero, List.set_cons_succ, List.replicate_succ, List.replicate_zero, List.cons_append, List.nil_append, List.length_cons, List.length_nil, atI_0, atI_1, atI_2, atI_3, atI_4, ixN_30, ixN_31, ixN_32, szl_0, szl_1, szl_2, szl_3, szl_4, szl_5, szl_6, szl_7, szl_8, szl_9, szl_10, szl_11, szl_12, gd, dEq_i, dNe_i, dLt, dLe, dGt, dGe, dIx_l, dIx_t, Option.bind_some, if_pos, if_neg, if_true, if_false, Nat.zero_add, decide_true, decide_false, Int.toNat_zero, Int.toNat_one, dAdd_i, dSub_i, not_false_eq_true, ite_true, ite_false, Int.reduceLE, Int.reduceLT, Int.reduceNeg, Int.reduceAdd, Int.reduceSub, Int.reduceToNat, Nat.reduceAdd, Nat.reduceLT, Nat.reduceLeDiff, Int.reduceEq, Nat.reduceEqDiff, Int.reduceMul, ↓reduceIte, Int.cast_ofNat_Int]
        refine callN_1 (callF_1 ?_)
        simp -implicitDefEqProofs only [mSeq, mDo, mRet, mRetN, mSet, mOwn, mKill, mAug, gT, gTs, gTup, mAsg, mOwnM, mApp, mExt, isOl, appT, extT, setT, gIx, mOIx, mOLen, mFreeze, mRetO, mFor, wz_bnd, wz_ok, ret, bad, optM, mVar, mNil, mCons, asB, ofB, mNo, mSome, mSl, mIf, mAnd, mOr, mNot, mChain, mTup, mLst, mFz, mCall, mMeth, mNeg, mIsN, mMs, mAndV, mOrV, mBin, mIter, itemsOf, mRange1, mRange2, mEnum, mListOf, mIsi, wz_bor, wz_borT, wz_noEx, wz_bad, runD, mRepl, pickSem, own_ol, own_fr, own_un, lend_nil, lend_ol, lend_fr, lend_un, isT_str, isT_list, isT_tuple, isT_int, isT_bint, Bool.not_true, Bool.not_false, List.getElem?_cons_zero, List.getElem?_cons_succ, List.getElem?_nil, List.set_cons_zero, List.set_cons_succ, List.replicate_succ, List.replicate_zero, List.cons_append, List.nil_append, List.length_cons, List.length_nil, atI_0, atI_1, atI_2, atI_3, atI_4, ixN_30, ixN_31, ixN_32, szl_0, szl_1, szl_2, szl_3, szl_4, szl_5, szl_6, szl_7, szl_8, szl_9, szl_10, szl_11, szl_12, gd, dEq_i, dNe_i, dLt, dLe, dGt, dGe, dIx_l, dIx_t, Option.bind_some, if_pos, if_neg, if_true, if_false, Nat.zero_add, decide_true, decide_false, Int.toNat_zero, Int.toNat_one, dAdd_i, dSub_i, not_false_eq_true, ite_true, ite_false, Int.reduceLE, Int.reduceLT, Int.reduceNeg, Int.reduceAdd, Int.reduceSub, Int.reduceToNat, Nat.reduceAdd, Nat.reduceLT, Nat.reduceLeDiff, Int.reduceEq, Nat.reduceEqDiff, Int.reduceMul, ↓reduceIte, Int.cast_ofNat_Int, e4]
        refine wz_imp t4 fun fl l e => ⟨_, e, ?_⟩
        refine wz_imp u4 fun fl l e => ⟨_, e, ?_⟩
        simp -implicitDefEqProofs only [mSeq, mDo, mRet, mRetN, mSet, mOwn, mKill, mAug, gT, gTs, gTup, mAsg, mOwnM, mApp, mExt, isOl, appT, extT, setT, gIx, mOIx, mOLen, mFreeze, mRetO, mFor, wz_bnd, wz_ok, ret, bad, optM, mVar, mNil, mCons, asB, ofB, mNo, mSome, mSl, mIf, mAnd, mOr, mNot, mChain, mTup, mLst, mFz, mCall, mMeth, mNeg, mIsN, mMs, mAndV, mOrV, mBin, mIter, itemsOf, mRange1, mRange2, mEnum, mListOf, mIsi, wz_bor, wz_borT, wz_noEx, wz_bad, runD, mRepl, pickSem, own_ol, own_fr, own_un, lend_nil, lend_ol, lend_fr, lend_un, isT_str, isT_list, isT_tuple, isT_int, isT_bint, Bool.not_true, Bool.not_false, List.getElem?_cons_zero, List.getElem?_cons_succ, List.getElem?_nil, List.set_cons_zero, List.set_cons_succ, List.replicate_succ, List.replicate_zero, List.cons_append, List.nil_append, List.length_cons, List.length_nil, atI_0, atI_1, atI_2, atI_3, atI_4, ixN_30, ixN_31, ixN_32, szl_0, szl_1, szl_2, szl_3, szl_4, szl_5, szl_6, szl_7, szl_8, szl_9, szl_10, szl_11, szl_12, gd, dEq_i, dNe_i, dLt, dLe, dGt, dGe, dIx_l, dIx_t, Option.bind_some, if_pos, if_neg, if_true, if_false, Nat.zero_add, decide_true, decide_false, Int.toNat_zero, Int.toNat_one, dAdd_i, dSub_i, not_false_eq_true, ite_true, ite_false, Int.reduceLE, Int.reduceLT, Int.reduceNeg, Int.reduceAdd, Int.reduceSub, Int.reduceToNat, Nat.reduceAdd, Nat.reduceLT, Nat.reduceLeDiff, Int.reduceEq, Nat.reduceEqDiff, Int.reduceMul, ↓reduceIte, Int.cast_ofNat_Int, a3, hr4, hi4]
        refine wz_for (fun us l => (∀ u ∈ us, ∃ q : Q4, q.ok ∧ u = .list q.l) ∧ ∃ y3 y8, l = [x0, s, x2, y3, .fr (.int c), .ol [.list p.l, .list q.l], .un, .fr (.list p.l), y8]) (fun u us l hL => ?_) (fun l hL => ?_) ⟨fun u hu => ?_, _, _, rfl⟩
        · obtain ⟨hu, y3, y8, rfl⟩ := hL
          obtain ⟨z, hz, rfl⟩ := hu u (List.mem_cons_self ..)
          simp -implicitDefEqProofs only [mSeq, mDo, mRet, mRetN, mSet, mOwn, mKill, mAug, gT, gTs, gTup, mAsg, mOwnM, mApp, mExt, isOl, appT, extT, setT, gIx, mOIx, mOLen, mFreeze, mRetO, mFor, wz_bnd, wz_ok, ret, bad, optM, mVar, mNil, mCons, asB, ofB, mNo, mSome, mSl, mIf, mAnd, mOr, mNot, mChain, mTup, mLst, mFz, mCall, mMeth, mNeg, mIsN, mMs, mAndV, mOrV, mBin, mIter, itemsOf, mRange1, mRange2, mEnum, mListOf, mIsi, wz_bor, wz_borT, wz_noEx, wz_bad, runD, mRepl, pickSem, own_ol, own_fr, own_un, lend_nil, lend_ol, lend_fr, lend_un, isT_str, isT_list, isT_tuple, isT_int, isT_bint, Bool.not_true, Bool.not_false, List.getElem?_cons_zero, List.getElem?_cons_succ, List.getElem?_nil, List.set_cons_zero, List.set_cons_succ, List.replicate_succ, List.replicate_zero, List.cons_append, List.nil_append, List.length_cons, List.length_nil, atI_0, atI_1, atI_2, atI_3, atI_4, ixN_30, ixN_31, ixN_32, szl_0, szl_1, szl_2, szl_3, szl_4, szl_5, szl_6, szl_7, szl_8, szl_9, szl_10, szl_11, szl_12, gd, dEq_i, dNe_i, dLt, dLe, dGt, dGe, dIx_l, dIx_t, Option.bind_some, if_pos, if_neg, if_true, if_false, Nat.zero_add, decide_true, decide_false, Int.toNat_zero, Int.toNat_one, dAdd_i, dSub_i, not_false_eq_true, ite_true, ite_false, Int.reduceLE, Int.reduceLT, Int.reduceNeg, Int.reduceAdd, Int.reduceSub, Int.reduceToNat, Nat.reduceAdd, Nat.reduceLT, Nat.reduceLeDiff, Int.reduceEq, Nat.reduceEqDiff, Int.reduceMul, ↓reduceIte, Int.cast_ofNat_Int, killS, hr4, hi4]
          refine last4 N hz fun y9 => ?_
          exact ⟨fun v hv => hu v (List.mem_cons_of_mem _ hv), _, _, rfl⟩
        · obtain ⟨hu, y3, y8, rfl⟩ := hL
          simp -implicitDefEqProofs only [mSeq, mDo, mRet, mRetN, mSet, mOwn, mKill, mAug, gT, gTs, gTup, mAsg, mOwnM, mApp, mExt, isOl, appT, extT, setT, gIx, mOIx, mOLen, mFreeze, mRetO, mFor, wz_bnd, wz_ok, ret, bad, optM, mVar, mNil, mCons, asB, ofB, mNo, mSome, mSl, mIf, mAnd, mOr, mNot, mChain, mTup, mLst, mFz, mCall, mMeth, mNeg, mIsN, mMs, mAndV, mOrV, mBin, mIter, itemsOf, mRange1, mRange2, mEnum, mListOf, mIsi, wz_bor, wz_borT, wz_noEx, wz_bad, runD, mRepl, pickSem, own_ol, own_fr, own_un, lend_nil, lend_ol, lend_fr, lend_un, isT_str, isT_list, isT_tuple, isT_int, isT_bint, Bool.not_true, Bool.not_false, List.getElem?_cons_zero, List.getElem?_cons_succ, List.getElem?_nil, List.set_cons_zero, List.set_cons_succ, List.replicate_succ, List.replicate_zero, List.cons_append, List.nil_append, List.length_cons, List.length_nil, atI_0, atI_1, atI_2, atI_3, atI_4, ixN_30, ixN_31, ixN_32, szl_0, szl_1, szl_2, szl_3, szl_4, szl_5, szl_6, szl_7, szl_8, szl_9, szl_10, szl_11, szl_12, gd, dEq_i, dNe_i, dLt, dLe, dGt, dGe, dIx_l, dIx_t, Option.bind_some, if_pos, if_neg, if_true, if_false, Nat.zero_add, decide_true, decide_false, Int.toNat_zero, Int.toNat_one, dAdd_i, dSub_i, not_false_eq_true, ite_true, ite_false, Int.reduceLE, Int.reduceLT, Int.reduceNeg, Int.reduceAdd, Int.reduceSub, Int.reduceToNat, Nat.reduceAdd, Nat.reduceLT, Nat.reduceLeDiff, Int.reduceEq, Nat.reduceEqDiff, Int.reduceMul, ↓reduceIte, Int.cast_ofNat_Int, killS, n1]
          exact ⟨ht2, _, _, _, _, _, _, _, _, _, rfl⟩
        · simp only [List.mem_cons, List.not_mem_nil, or_false] at hu
          rcases hu with rfl | rfl
          · exact ⟨q, okq, rfl⟩
          · exact ⟨p, okp, rfl⟩
  · obtain ⟨ht, x0, x1, x2, x3, x4, x5, x6, x7, x8, rfl⟩ := hI
    simp -implicitDefEqProofs only [mSeq, mDo, mRet, mRetN, mSet, mOwn, mKill, mAug, gT, gTs, gTup, mAsg, mOwnM, mApp, mExt, isOl, appT, extT, setT, gIx, mOIx, mOLen, mFreeze, mRetO, mFor, wz_bnd, wz_ok, ret, bad, optM, mVar, mNil, mCons, asB, ofB, mNo, mSome, mSl, mIf, mAnd, mOr, mNot, mChain, mTup, mLst, mFz, mCall, mMeth, mNeg, mIsN, mMs, mAndV, mOrV, mBin, mIter, itemsOf, mRange1, mRange2, mEnum, mListOf, mIsi, wz_bor, wz_borT, wz_noEx, wz_bad, runD, mRepl, pickSem, own_ol, own_fr, own_un, lend_nil, lend_ol, lend_fr, lend_un, isT_str, isT_list, isT_tuple, isT_int, isT_bint, Bool.not_true, Bool.not_false, List.getElem?_cons_zero, List.getElem?_cons_succ, List.getElem?_nil, List.set_cons_zero, List.set_cons_succ, List.replicate_succ, List.replicate_zero, List.cons_append, List.nil_append, List.length_cons, List.length_nil, atI_0, atI_1, atI_2, atI_3, atI_4, ixN_30, ixN_31, ixN_32, szl_0, szl_1, szl_2, szl_3, szl_4, szl_5, szl_6, szl_7, szl_8, szl_9, szl_10, szl_11, szl_12, gd, dEq_i, dNe_i, dLt, dLe, dGt, dGe, dIx_l, dIx_t, Option.bind_some, if_pos, if_neg, if_true, if_false, Nat.zero_add, decide_true, decide_false, Int.toNat_zero, Int.toNat_one, dAdd_i, dSub_i, not_false_eq_true, ite_true, ite_false, Int.reduceLE, Int.reduceLT, Int.reduceNeg, Int.reduceAdd, Int.reduceSub, Int.reduceToNat, Nat.reduceAdd, Nat.reduceLT, Nat.reduceLeDiff, Int.reduceEq, Nat.reduceEqDiff, Int.reduceMul, ↓reduceIte, Int.cast_ofNat_Int, killS]
theorem final : PySem.Challenge.rw_clicktrain_k72_rows_and_shows_as_texts.Holds := holds_of fun ns hns => by
  obtain ⟨fl, l, e, h⟩ := wz_eq (law_ok 0 hns)
  subst h
  exact ⟨0, l, e⟩
end Tz
theorem PySem.Challenge.cw_clicktrain_k72_rows_and_shows_as_texts_holds : PySem.Challenge.rw_clicktrain_k72_rows_and_shows_as_texts.Holds := by
  exact Tz.final
