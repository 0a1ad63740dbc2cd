import PyProof.Rows.All
import Wide.All
import OpenK.AllK
import Wide.FinOn
import PySem.Challenge.RW_seatssure_k14_whole_seatings_of_twelve_p
import HandS.ForMost
import HandS.DictComp
import HandS.Zip
import HandS.Gcd
import HandS.Wide
import HandS.IsInst
import HandS.SetFor
import HandS.TupAny
import HandS.Conv
import KE.DataMinMax
import KE.DataCmp
import KE.KTupSum
import KE.KDictCopyH
import KE.KDictList
set_option Elab.async false
set_option linter.all false
set_option maxRecDepth 100000
set_option maxHeartbeats 4000000
set_option exponentiation.threshold 2000
/-! Data-level layer over the hand layer: values as plain data. -/
namespace FL
open PySem PySem.Spec PyProof.Rows L2

/-- plain data -/
inductive D where
  | non | bl (b : Bool) | int (i : Int) | str (s : Str) | tup (xs : List D) | lst (xs : List D) | raw (v : V)
abbrev Ex := L2.Same
theorem ex_t {K : PySem.W.Frag} {H H' : Hp} {a : Addr} {xs : List V} (e : Ex H H') (h : SqT K H a xs) : SqT K H' a xs := by
  rcases h with (h | ⟨o, h⟩) | h
  · exact .inl (.inl (e _ _ h))
  · exact .inl (.inr ⟨o, e _ _ h⟩)
  · exact .inr h
theorem ex_new {H : Hp} {p : Addr} {o : HO} (h : H p = none) : Ex H (upd H p o) := fun a u e => by
  rw [upd_ne (ne_of_none e h)]
  exact e

mutual
/-- the value v stands for the data in the heap G -/
def Rp (K : PySem.W.Frag) (G : Hp) : D → V → Prop
  | .non, v => v = .non
  | .bl b, v => v = .bl b
  | .int i, v => v = .int i
  | .str s, v => v = .str s
  | .tup xs, v => ∃ a vs, v = V.ref a ∧ SqT K G a vs ∧ xs.length ≤ sizeLine ∧ Rps K G xs vs
  | .lst xs, v => ∃ a vs, v = V.ref a ∧ SqL K G a vs ∧ xs.length ≤ sizeLine ∧ Rps K G xs vs
  | .raw w, v => v = w
def Rps (K : PySem.W.Frag) (G : Hp) : List D → List V → Prop
  | [], vs => vs = []
  | x :: xs, vs => ∃ v r, vs = v :: r ∧ Rp K G x v ∧ Rps K G xs r
end
section
variable {K : PySem.W.Frag} {G G' H H' : Hp}
mutual
theorem Rp.mono (e : Ex G G') : ∀ (d : D) (v : V), Rp K G d v → Rp K G' d v
  | .non, _, h => h
  | .bl _, _, h => h
  | .int _, _, h => h
  | .str _, _, h => h
  | .raw _, _, h => h
  | .tup xs, v, h => by
    obtain ⟨a, vs, e1, h1, h2, h3⟩ := h
    exact ⟨a, vs, e1, ex_t e h1, h2, Rps.mono e xs vs h3⟩
  | .lst xs, v, h => by
    obtain ⟨a, vs, e1, h1, h2, h3⟩ := h
    exact ⟨a, vs, e1, e.seq h1, h2, Rps.mono e xs vs h3⟩
theorem Rps.mono (e : Ex G G') : ∀ (xs : List D) (vs : List V), Rps K G xs vs → Rps K G' xs vs
  | [], _, h => h
  | x :: xs, vs, h => by
    obtain ⟨v, r, e1, h1, h2⟩ := h
    exact ⟨v, r, e1, Rp.mono e x v h1, Rps.mono e xs r h2⟩
end
theorem rps_iff : ∀ {xs : List D} {vs : List V}, Rps K G xs vs ↔ Paired (Rp K G) xs vs
  | [], vs => by
    constructor
    · intro h
      cases (show vs = [] from h)
      exact .nil
    · intro h
      cases h
      rfl
  | x :: xs, vs => by
    constructor
    · rintro ⟨v, r, rfl, h1, h2⟩
      exact .cons h1 (rps_iff.mp h2)
    · intro h
      cases h with
      | cons h1 h2 => exact ⟨_, _, rfl, h1, rps_iff.mpr h2⟩
end

/-! ### Paired lists -/
section
variable {α β : Type} {F F' : α → β → Prop}
theorem pd_get : ∀ {xs : List α} {ys : List β} {i : Nat} {x : α}, Paired F xs ys → xs[i]? = some x → ∃ y, ys[i]? = some y ∧ F x y
  | _, _, _, _, .nil, e => by simp at e
  | _, _, 0, _, .cons r _, e => by simp at e; subst e; exact ⟨_, rfl, r⟩
  | _, _, i + 1, x, .cons _ t, e => by
    obtain ⟨u, h1, h2⟩ := pd_get (i := i) (x := x) t (by simpa using e)
    exact ⟨u, by simpa using h1, h2⟩
theorem pd_get' : ∀ {xs : List α} {ys : List β} {i : Nat} {y : β}, Paired F xs ys → ys[i]? = some y → ∃ x, xs[i]? = some x ∧ F x y
  | _, _, _, _, .nil, e => by simp at e
  | _, _, 0, _, .cons r _, e => by simp at e; subst e; exact ⟨_, rfl, r⟩
  | _, _, i + 1, x, .cons _ t, e => by
    obtain ⟨u, h1, h2⟩ := pd_get' (i := i) (y := x) t (by simpa using e)
    exact ⟨u, by simpa using h1, h2⟩
theorem pd_app : ∀ {xs xs' : List α} {ys ys' : List β}, Paired F xs ys → Paired F xs' ys' → Paired F (xs ++ xs') (ys ++ ys')
  | _, _, _, _, .nil, s => s
  | _, _, _, _, .cons r t, s => .cons r (pd_app t s)
theorem pd_take : ∀ {xs : List α} {ys : List β} (n : Nat), Paired F xs ys → Paired F (xs.take n) (ys.take n)
  | _, _, 0, _ => .nil
  | _, _, _ + 1, .nil => .nil
  | _, _, n + 1, .cons r t => .cons r (pd_take n t)
theorem pd_drop : ∀ {xs : List α} {ys : List β} (n : Nat), Paired F xs ys → Paired F (xs.drop n) (ys.drop n)
  | _, _, 0, r => r
  | _, _, _ + 1, .nil => .nil
  | _, _, n + 1, .cons _ t => pd_drop n t
theorem pd_set {x : α} {y : β} (r : F x y) : ∀ {xs : List α} {ys : List β} (i : Nat), Paired F xs ys → Paired F (xs.set i x) (ys.set i y)
  | _, _, _, .nil => .nil
  | _, _, 0, .cons _ t => .cons r t
  | _, _, i + 1, .cons q t => .cons q (pd_set r i t)
theorem pd_imp (h : ∀ a b, F a b → F' a b) : ∀ {xs : List α} {ys : List β}, Paired F xs ys → Paired F' xs ys
  | _, _, .nil => .nil
  | _, _, .cons r t => .cons (h _ _ r) (pd_imp h t)
theorem pd_map {γ : Type} {g : γ → α} {k : γ → β} (h : ∀ c, F (g c) (k c)) : ∀ cs : List γ, Paired F (cs.map g) (cs.map k)
  | [] => .nil
  | c :: cs => .cons (h c) (pd_map h cs)
theorem pd_eraseIdx : ∀ {xs : List α} {ys : List β} (i : Nat), Paired F xs ys → Paired F (xs.eraseIdx i) (ys.eraseIdx i)
  | _, _, _, .nil => .nil
  | _, _, 0, .cons _ t => t
  | _, _, i + 1, .cons q t => .cons q (pd_eraseIdx i t)
end

/-- new things: what was known stays, nothing old comes into the known part -/
structure Nw (G H G' H' : Hp) : Prop where
  ex : Ex G G'
  hx : Ex H H'
  sub : Ex G' H'
  no : ∀ a, H a ≠ none → G a = none → G' a = none
section
variable {K : PySem.W.Frag} {G H G' H' G2 H2 : Hp}
theorem Nw.refl (s : Ex G H) : Nw G H G H := ⟨Same.refl G, Same.refl H, s, fun _ _ h => h⟩
theorem Nw.trans (a : Nw G H G' H') (b : Nw G' H' G2 H2) : Nw G H G2 H2 :=
  ⟨a.ex.trans b.ex, a.hx.trans b.hx, b.sub, fun x h1 h2 => by
    refine b.no x ?_ (a.no x h1 h2)
    cases q : H x with
    | none => exact absurd q h1
    | some o => rw [a.hx x o q]; simp⟩
theorem free_of (s : Ex G H) {p : Addr} (h : H p = none) : G p = none := s.free h
theorem ex_upd2 (s : Ex G H) {p : Addr} {o : HO} : Ex (upd G p o) (upd H p o) := fun a u e => by
  by_cases h : a = p
  · subst h
    rw [upd_same] at e ⊢
    exact e
  · rw [upd_ne h] at e ⊢
    exact s a u e
theorem Nw.new (s : Ex G H) {p : Addr} {o : HO} (h : H p = none) : Nw G H (upd G p o) (upd H p o) :=
  ⟨ex_new (s.free h), ex_new h, ex_upd2 s, fun a h1 h2 => by
    by_cases e : a = p
    · subst e; exact absurd h h1
    · rw [upd_ne e]; exact h2⟩
/-- a new object that stays out of the known part -/
theorem Nw.own (s : Ex G H) {p : Addr} {o : HO} (h : H p = none) : Nw G H G (upd H p o) :=
  ⟨Same.refl G, ex_new h, s.trans (ex_new h), fun _ _ h2 => h2⟩
theorem Rp.nw (n : Nw G H G' H') {d : D} {v : V} (h : Rp K G d v) : Rp K G' d v := Rp.mono n.ex d v h
end

/-! ### the slots -/
/-- a slot: empty, plain data, an owned list, an owned dict, an owned dict while a loop walks it -/
inductive Sl where
  | no | fz (d : D) | ol (xs : List D) | od (kvs : List (Key × D)) | ld (o : Obj) (kvs : List (Key × D))
def Sl.isOwn : Sl → Bool
  | .ol _ => true
  | .od _ => true
  | .ld _ _ => true
  | _ => false
def Sl.isLd : Sl → Bool
  | .ld _ _ => true
  | _ => false
abbrev RpK (K : PySem.W.Frag) (G : Hp) (kvs : List (Key × D)) (ws : List (Key × V)) : Prop := Paired (fun (p : Key × D) (q : Key × V) => p.1 = q.1 ∧ Rp K G p.2 q.2) kvs ws
/-- what stands at the address of an owned slot -/
def OwnAt (K : PySem.W.Frag) (G H : Hp) (a : Addr) : Sl → Prop
  | .ol xs => ∃ vs, H a = some (.lst vs) ∧ xs.length ≤ sizeLine ∧ Rps K G xs vs
  | .od kvs => ∃ ws, H a = some (.dK ws) ∧ kvs.length ≤ sizeLine ∧ RpK K G kvs ws
  | .ld o kvs => ∃ ws, H a = some (.frz o (.dK ws)) ∧ kvs.length ≤ sizeLine ∧ RpK K G kvs ws
  | _ => False
abbrev SEnv := List Sl
/-- an address that some slot owns -/
def Owned (σ : L2.St) (env : SEnv) (a : Addr) : Prop := ∃ (i : Nat) (s : Sl), env[i]? = some s ∧ s.isOwn = true ∧ σ[i]? = some (some (V.ref a))
/-- .. that may be written -/
def OwnedW (σ : L2.St) (env : SEnv) (a : Addr) : Prop := ∃ (i : Nat) (s : Sl), env[i]? = some s ∧ s.isOwn = true ∧ s.isLd = false ∧ σ[i]? = some (some (V.ref a))
theorem OwnedW.owned {σ : L2.St} {env : SEnv} {a : Addr} (h : OwnedW σ env a) : Owned σ env a := let ⟨i, s, e1, e2, _, e3⟩ := h; ⟨i, s, e1, e2, e3⟩
/-- a base: the known heap, the heap, what may change, the borrowed list's address (slot 0) -/
structure Bs where
  G0 : Hp
  H0 : Hp
  mu : Addr → Prop
  pa : Option Addr
  lk : Nat → Option Addr
structure SRep (K : PySem.W.Frag) (B : Bs) (G H : Hp) (σ : L2.St) (env : SEnv) : Prop where
  g0 : Ex B.G0 G
  sub : Ex G H
  fr : ∀ a o, B.H0 a = some o → ¬ B.mu a → H a = some o
  no : ∀ a, B.H0 a ≠ none → B.G0 a = none → G a = none
  len : σ.length = env.length
  fz : ∀ (i : Nat) (d : D), env[i]? = some (Sl.fz d) → ∃ v, σ[i]? = some (some v) ∧ Rp K G d v
  ow : ∀ (i : Nat) (s : Sl), env[i]? = some s → s.isOwn = true → ∃ a, σ[i]? = some (some (V.ref a)) ∧ G a = none ∧ OwnAt K G H a s ∧ (B.H0 a = none ∨ B.mu a ∨ s.isLd = true)
  dis : ∀ (i j : Nat) (s t : Sl) (a : Addr), env[i]? = some s → s.isOwn = true → env[j]? = some t → t.isOwn = true → σ[i]? = some (some (V.ref a)) → σ[j]? = some (some (V.ref a)) → i = j
  mu : ∀ a, B.mu a → OwnedW σ env a
  pot : ∀ a, B.pa = some a → σ[0]? = some (some (V.ref a)) ∧ ∃ xs, env[0]? = some (Sl.ol xs)
  lk : ∀ i a, B.lk i = some a → σ[i]? = some (some (V.ref a)) ∧ ∃ o kvs, env[i]? = some (Sl.ld o kvs)
section
variable {K : PySem.W.Frag} {B : Bs} {G H G' H' : Hp} {σ : L2.St} {env : SEnv}
theorem OwnAt.some {a : Addr} {s : Sl} (h : OwnAt K G H a s) : ∃ o, H a = some o := by
  cases s with
  | no => exact h.elim
  | fz d => exact h.elim
  | ol xs => obtain ⟨vs, e, _⟩ := h; exact ⟨_, e⟩
  | od kvs => obtain ⟨vs, e, _⟩ := h; exact ⟨_, e⟩
  | ld o kvs => obtain ⟨vs, e, _⟩ := h; exact ⟨_, e⟩
theorem RpK.mono (e : Ex G G') {kvs : List (Key × D)} {ws : List (Key × V)} (r : RpK K G kvs ws) : RpK K G' kvs ws := pd_imp (fun p q h => ⟨h.1, Rp.mono e _ _ h.2⟩) r
theorem OwnAt.mono {a : Addr} {s : Sl} (h : OwnAt K G H a s) (e : Ex G G') (k : H' a = H a) : OwnAt K G' H' a s := by
  cases s with
  | no => exact h.elim
  | fz d => exact h.elim
  | ol xs =>
    obtain ⟨vs, e1, z, r⟩ := h
    exact ⟨vs, k.trans e1, z, Rps.mono e _ _ r⟩
  | od kvs =>
    obtain ⟨vs, e1, z, r⟩ := h
    exact ⟨vs, k.trans e1, z, RpK.mono e r⟩
  | ld o kvs =>
    obtain ⟨vs, e1, z, r⟩ := h
    exact ⟨vs, k.trans e1, z, RpK.mono e r⟩
/-- an owned address stands in the heap and outside of the known part -/
theorem SRep.owned (r : SRep K B G H σ env) {a : Addr} (h : Owned σ env a) : (∃ o, H a = some o) ∧ G a = none := by
  obtain ⟨i, s, e1, e2, e3⟩ := h
  obtain ⟨b, h1, h2, h3, _⟩ := r.ow i s e1 e2
  rw [e3] at h1
  cases h1
  exact ⟨h3.some, h2⟩
/-- an entry object stands in the heap -/
theorem SRep.there (r : SRep K B G H σ env) {a : Addr} (h : B.H0 a ≠ none) : H a ≠ none := by
  by_cases m : B.mu a
  · obtain ⟨⟨o, e⟩, _⟩ := r.owned (r.mu a m).owned
    rw [e]; simp
  · cases q : B.H0 a with
    | none => exact absurd q h
    | some o => rw [r.fr a o q m]; simp
theorem SRep.ext (r : SRep K B G H σ env) (n : Nw G H G' H') : SRep K B G' H' σ env where
  g0 := r.g0.trans n.ex
  sub := n.sub
  fr := fun a o h1 h2 => n.hx a o (r.fr a o h1 h2)
  no := fun a h1 h2 => n.no a (r.there h1) (r.no a h1 h2)
  len := r.len
  fz := fun i d h => by
    obtain ⟨v, h1, h2⟩ := r.fz i d h
    exact ⟨v, h1, Rp.nw n h2⟩
  ow := fun i s h1 h2 => by
    obtain ⟨a, e1, e2, e3, e4⟩ := r.ow i s h1 h2
    obtain ⟨o, e5⟩ := e3.some
    exact ⟨a, e1, n.no a (by rw [e5]; simp) e2, e3.mono n.ex ((n.hx a o e5).trans e5.symm), e4⟩
  dis := r.dis
  mu := r.mu
  pot := r.pot
  lk := r.lk
/-- the base told anew: all that stands now -/
def Bs.here (B : Bs) (G H : Hp) (σ : L2.St) (env : SEnv) : Bs := ⟨G, H, OwnedW σ env, B.pa, B.lk⟩
theorem SRep.rebase (r : SRep K B G H σ env) : SRep K (B.here G H σ env) G H σ env where
  g0 := Same.refl G
  sub := r.sub
  fr := fun a o h _ => h
  no := fun a _ h => h
  len := r.len
  fz := r.fz
  ow := fun i s h1 h2 => by
    obtain ⟨a, e1, e2, e3, e4⟩ := r.ow i s h1 h2
    refine ⟨a, e1, e2, e3, .inr ?_⟩
    cases z : s.isLd with
    | true => exact .inr rfl
    | false => exact .inl ⟨i, s, h1, h2, z, e1⟩
  dis := r.dis
  mu := fun a h => h
  pot := r.pot
  lk := r.lk
theorem SRep.unbase {σ' : L2.St} {env' : SEnv} (r : SRep K B G H σ env) (r' : SRep K (B.here G H σ env) G' H' σ' env') : SRep K B G' H' σ' env' where
  g0 := r.g0.trans r'.g0
  sub := r'.sub
  fr := fun a o h1 h2 => by
    refine r'.fr a o (r.fr a o h1 h2) fun hm => ?_
    obtain ⟨i, s, e1, e2, e0, e3⟩ := hm
    obtain ⟨b, g1, _, _, g4⟩ := r.ow i s e1 e2
    rw [e3] at g1
    cases g1
    rcases g4 with g4 | g4 | g4
    · rw [h1] at g4; cases g4
    · exact h2 g4
    · rw [e0] at g4; cases g4
  no := fun a h1 h2 => r'.no a (r.there h1) (r.no a h1 h2)
  len := r'.len
  fz := r'.fz
  ow := fun i s h1 h2 => by
    obtain ⟨a, e1, e2, e3, e4⟩ := r'.ow i s h1 h2
    refine ⟨a, e1, e2, e3, ?_⟩
    rcases e4 with e4 | e4 | e4
    · left
      cases q : B.H0 a with
      | none => rfl
      | some o => exact absurd (show H a = none from e4) (r.there (by rw [q]; simp))
    · obtain ⟨j, t, f1, f2, f0, f3⟩ := (show OwnedW σ env a from e4)
      obtain ⟨b, g1, _, _, g4⟩ := r.ow j t f1 f2
      rw [f3] at g1
      cases g1
      rcases g4 with g4 | g4 | g4
      · exact .inl g4
      · exact .inr (.inl g4)
      · rw [f0] at g4; cases g4
    · exact .inr (.inr e4)
  dis := r'.dis
  mu := fun a h => r'.mu a (r.mu a h)
  pot := r'.pot
  lk := r'.lk
/-- another object changes: neither known nor owned, nor of the entry -/
theorem SRep.other (r : SRep K B G H σ env) {p : Addr} {o : HO} (h1 : G p = none) (h2 : ¬ Owned σ env p) (h3 : B.H0 p = none) : SRep K B G (upd H p o) σ env where
  g0 := r.g0
  sub := fun a u e => by rw [upd_ne (fun z => by rw [z, h1] at e; cases e)]; exact r.sub a u e
  fr := fun a u e m => by rw [upd_ne (fun z => by rw [z, h3] at e; cases e)]; exact r.fr a u e m
  no := r.no
  len := r.len
  fz := r.fz
  ow := fun i s e1 e2 => by
    obtain ⟨a, g1, g2, g3, g4⟩ := r.ow i s e1 e2
    exact ⟨a, g1, g2, g3.mono (Same.refl G) (upd_ne fun z => h2 ⟨i, s, e1, e2, by rw [g1, z]⟩), g4⟩
  dis := r.dis
  mu := r.mu
  pot := r.pot
  lk := r.lk
/-- an object that was outside comes into the known part -/
theorem SRep.know (r : SRep K B G H σ env) {p : Addr} {o : HO} (h1 : H p = some o) (h2 : ¬ Owned σ env p) (h3 : B.H0 p = none) (h4 : G p = none) : SRep K B (upd G p o) H σ env where
  g0 := r.g0.trans (ex_new h4)
  sub := fun a u e => by
    by_cases z : a = p
    · subst z; rw [upd_same] at e; cases e; exact h1
    · rw [upd_ne z] at e; exact r.sub a u e
  fr := r.fr
  no := fun a e1 e2 => by rw [upd_ne (fun z => by rw [z] at e1; exact e1 h3)]; exact r.no a e1 e2
  len := r.len
  fz := fun i d h => by
    obtain ⟨v, g1, g2⟩ := r.fz i d h
    exact ⟨v, g1, Rp.mono (ex_new h4) _ _ g2⟩
  ow := fun i s e1 e2 => by
    obtain ⟨a, g1, g2, g3, g4⟩ := r.ow i s e1 e2
    have hne : a ≠ p := fun z => h2 ⟨i, s, e1, e2, by rw [g1, z]⟩
    exact ⟨a, g1, by rw [upd_ne hne]; exact g2, g3.mono (ex_new h4) rfl, g4⟩
  dis := r.dis
  mu := r.mu
  pot := r.pot
  lk := r.lk
/-- a slot gets plain data -/
def canSet (env : SEnv) (i : Nat) : Bool := match env[i]? with
  | some s => !s.isOwn
  | none => false
theorem canSet_lt {i : Nat} (h : canSet env i = true) : i < env.length ∧ ∀ s, env[i]? = some s → s.isOwn = false := by
  unfold canSet at h
  cases e : env[i]? with
  | none => rw [e] at h; cases h
  | some s =>
    rw [e] at h
    refine ⟨(List.getElem?_eq_some_iff.mp e).1, fun t ht => ?_⟩
    cases ht
    simpa using h
theorem SRep.put (r : SRep K B G H σ env) {i : Nat} {s : Sl} {o : Option V} (h : canSet env i = true) (hs : s.isOwn = false) (hd : ∀ d, s = .fz d → ∃ v, o = some v ∧ Rp K G d v) : SRep K B G H (σ.set i o) (env.set i s) := by
  obtain ⟨hi, hn⟩ := canSet_lt h
  have hσ : i < σ.length := by rw [r.len]; exact hi
  have low : ∀ (j : Nat) (t : Sl), (env.set i s)[j]? = some t → t.isOwn = true → i ≠ j ∧ env[j]? = some t := fun j t e1 e2 => by
    by_cases z : i = j
    · subst z
      rw [List.getElem?_set_self hi] at e1
      cases e1
      rw [hs] at e2; cases e2
    · rw [List.getElem?_set_ne z] at e1
      exact ⟨z, e1⟩
  refine ⟨r.g0, r.sub, r.fr, r.no, by rw [List.length_set, List.length_set]; exact r.len, fun j d e => ?_, fun j t e1 e2 => ?_, fun j k t u a e1 e2 e3 e4 e5 e6 => ?_, fun a h => ?_, fun a h => ?_, fun k a h => ?_⟩
  · by_cases z : i = j
    · subst z
      rw [List.getElem?_set_self hi] at e
      cases e
      obtain ⟨v, h1, h2⟩ := hd d rfl
      exact ⟨v, by rw [List.getElem?_set_self hσ, h1], h2⟩
    · rw [List.getElem?_set_ne z] at e ⊢
      exact r.fz j d e
  · obtain ⟨z, e3⟩ := low j t e1 e2
    rw [List.getElem?_set_ne z]
    exact r.ow j t e3 e2
  · obtain ⟨z1, g1⟩ := low j t e1 e2
    obtain ⟨z2, g2⟩ := low k u e3 e4
    rw [List.getElem?_set_ne z1] at e5
    rw [List.getElem?_set_ne z2] at e6
    exact r.dis j k t u a g1 e2 g2 e4 e5 e6
  · obtain ⟨j, t, e1, e2, e0, e3⟩ := r.mu a h
    have z : i ≠ j := fun z => by subst z; rw [hn t e1] at e2; cases e2
    exact ⟨j, t, by rw [List.getElem?_set_ne z]; exact e1, e2, e0, by rw [List.getElem?_set_ne z]; exact e3⟩
  · obtain ⟨e1, xs, e2⟩ := r.pot a h
    have z : i ≠ 0 := fun z => by subst z; have := hn _ e2; cases this
    exact ⟨by rw [List.getElem?_set_ne z]; exact e1, xs, by rw [List.getElem?_set_ne z]; exact e2⟩
  · obtain ⟨e1, q, kvs, e2⟩ := r.lk k a h
    have z : i ≠ k := fun z => by subst z; have := hn _ e2; cases this
    exact ⟨by rw [List.getElem?_set_ne z]; exact e1, q, kvs, by rw [List.getElem?_set_ne z]; exact e2⟩
theorem SRep.setD (r : SRep K B G H σ env) {i : Nat} {d : D} {v : V} (h : canSet env i = true) (hv : Rp K G d v) : SRep K B G H (σ.set i (some v)) (env.set i (.fz d)) :=
  r.put h rfl fun d' e => by cases e; exact ⟨v, rfl, hv⟩
theorem SRep.setNo (r : SRep K B G H σ env) {i : Nat} (h : canSet env i = true) : SRep K B G H (σ.set i none) (env.set i .no) :=
  r.put h rfl fun d' e => by cases e
end
end FL

namespace FL
open PySem PySem.Spec PyProof.Rows L2

/-! ### what data-level code asks -/
abbrev DE := SEnv → (D → SEnv → Prop) → Prop
abbrev DT := SEnv → (Bool → SEnv → Prop) → Prop
abbrev DA := SEnv → (List D → SEnv → Prop) → Prop
structure DEnds where
  nx : SEnv → Prop
  rt : D → SEnv → Prop
  bk : SEnv → Prop := fun _ => False
  ct : SEnv → Prop := fun _ => False
abbrev DS := DEnds → SEnv → Prop

section
variable (K : PySem.W.Frag)
/-- the value stands for the data: a list's own object in the whole heap, its items in the known part -/
def RpS (G H : Hp) : D → V → Prop
  | .tup xs, v => ∃ a vs, v = V.ref a ∧ SqT K G a vs ∧ xs.length ≤ sizeLine ∧ Rps K G xs vs
  | .lst xs, v => ∃ a vs, v = V.ref a ∧ SqL K H a vs ∧ xs.length ≤ sizeLine ∧ Rps K G xs vs
  | .non, v => v = .non
  | .bl b, v => v = .bl b
  | .int i, v => v = .int i
  | .str s, v => v = .str s
  | .raw w, v => v = w
/-- readings -/
def TEd (de : DE) : TE := fun σ H Q => ∃ B G env R, SRep K B G H σ env ∧ de env R ∧ ∀ d env' v G' H', SRep K B G' H' σ env' → Ex G G' → Rp K G' d v → R d env' → Q v H'
def TEs (de : DE) : TE := fun σ H Q => ∃ B G env R, SRep K B G H σ env ∧ de env R ∧ ∀ d env' v G' H', SRep K B G' H' σ env' → Ex G G' → RpS K G' H' d v → R d env' → Q v H'
def TTd (dt : DT) : TT := fun σ H Q => ∃ B G env R, SRep K B G H σ env ∧ dt env R ∧ ∀ b env' G' H', SRep K B G' H' σ env' → Ex G G' → R b env' → Q b H'
def TAd (da : DA) : TA := fun σ H Q => ∃ B G env R, SRep K B G H σ env ∧ da env R ∧ ∀ ds env' vs G' H', SRep K B G' H' σ env' → Ex G G' → Rps K G' ds vs → R ds env' → Q vs H'
def Bs.fn (B : Bs) : Prop := ∀ a, B.mu a → B.pa = some a
def TSd (ds : DS) : TS := fun E σ H => ∃ B G env DE, Bs.fn B ∧ SRep K B G H σ env ∧ ds DE env ∧
  (∀ σ' G' H' env', SRep K B G' H' σ' env' → DE.nx env' → E.nx σ' H') ∧
  (∀ d v σ' G' H' env', SRep K B G' H' σ' env' → Rp K G' d v → DE.rt d env' → E.rt v H') ∧
  (∀ σ' G' H' env', SRep K B G' H' σ' env' → DE.bk env' → E.bk σ' H') ∧
  (∀ σ' G' H' env', SRep K B G' H' σ' env' → DE.ct env' → E.ct σ' H')
end
/-- an expression, a test .. of the text does what the data-level code asks -/
def PEd (X : Cx) (e : Expr) (de : DE) : Prop := PE X e (TEd X.K de)
def PEs (X : Cx) (e : Expr) (de : DE) : Prop := PE X e (TEs X.K de)
def PTd (X : Cx) (e : Expr) (dt : DT) : Prop := PT X e (TTd X.K dt)
def PWd (X : Cx) (e : Expr) (dt : DT) : Prop := PW X e (TTd X.K dt)
def PAd (X : Cx) (es : List Expr) (da : DA) : Prop := PA X es (TAd X.K da)
def PSd (X : Cx) (st : Stmt) (ds : DS) : Prop := PS X st (TSd X.K ds)
def PSsd (X : Cx) (st : List Stmt) (ds : DS) : Prop := PSs X st (TSd X.K ds)

theorem PE.imp' {X : Cx} {e : Expr} {t t' : TE} (h : PE X e t) (i : ∀ σ H Q, t' σ H Q → t σ H Q) : PE X e t' := ⟨fun pins s σ H Q I q => h.run pins s σ H Q I (i σ H Q q)⟩
theorem PT.imp' {X : Cx} {e : Expr} {t t' : TT} (h : PT X e t) (i : ∀ σ H Q, t' σ H Q → t σ H Q) : PT X e t' := ⟨fun pins s σ H Q I q => h.run pins s σ H Q I (i σ H Q q)⟩
theorem PW.imp' {X : Cx} {e : Expr} {t t' : TT} (h : PW X e t) (i : ∀ σ H Q, t' σ H Q → t σ H Q) : PW X e t' := ⟨fun wh pins s σ H Q I q => h.run wh pins s σ H Q I (i σ H Q q)⟩
theorem PA.imp' {X : Cx} {e : List Expr} {t t' : TA} (h : PA X e t) (i : ∀ σ H Q, t' σ H Q → t σ H Q) : PA X e t' := ⟨fun pos pins s σ H Q I q => h.run pos pins s σ H Q I (i σ H Q q)⟩
theorem PS.imp' {X : Cx} {e : Stmt} {t t' : TS} (h : PS X e t) (i : ∀ D σ H, t' D σ H → t D σ H) : PS X e t' := ⟨fun pins s σ H D I q => h.run pins s σ H D I (i D σ H q)⟩
theorem PSs.imp' {X : Cx} {e : List Stmt} {t t' : TS} (h : PSs X e t) (i : ∀ D σ H, t' D σ H → t D σ H) : PSs X e t' := ⟨fun pins s σ H D I q => h.run pins s σ H D I (i D σ H q)⟩
theorem PE.back {X : Cx} {e : Expr} {t t' : TE} (h : PE X e t') (i : ∀ σ H Q, t σ H Q → t' σ H Q) : PE X e t := PE.imp' h i

theorem Rp.toS {K : PySem.W.Frag} {G H : Hp} (s : Ex G H) : ∀ {d : D} {v : V}, Rp K G d v → RpS K G H d v
  | .non, _, h => h
  | .bl _, _, h => h
  | .int _, _, h => h
  | .str _, _, h => h
  | .raw _, _, h => h
  | .tup _, _, h => h
  | .lst _, _, h => let ⟨a, vs, e, h1, h2, h3⟩ := h; ⟨a, vs, e, s.seq h1, h2, h3⟩
theorem PEd.toS {X : Cx} {e : Expr} {de : DE} (h : PEd X e de) : PEs X e de := PE.imp' h fun σ H Q ⟨B, G, env, R, r, q, k⟩ =>
  ⟨B, G, env, R, r, q, fun d env' v G' H' r' x p c => k d env' v G' H' r' x (by
    exact Rp.toS r'.sub p) c⟩
end FL

namespace FL
open PySem PySem.Spec PyProof.Rows L2

/-! ### operations on data -/
abbrev G2 := D → D → (D → Prop) → Prop
abbrev GN := List D → (D → Prop) → Prop
section
variable (K : PySem.W.Frag)
def R2d (g : G2) : R2 := fun x y H Q => ∃ G dx dy R, Ex G H ∧ RpS K G H dx x ∧ RpS K G H dy y ∧ g dx dy R ∧ ∀ d v G' H', Nw G H G' H' → Rp K G' d v → R d → Q v H'
def RNd (g : GN) : List V → Hp → VK → Prop := fun vs H Q => ∃ G ds R, Ex G H ∧ Paired (RpS K G H) ds vs ∧ g ds R ∧ ∀ d v G' H', Nw G H G' H' → Rp K G' d v → R d → Q v H'
end
def OpD (X : Cx) (f : Value → Value → Sem Value) (g : G2) : Prop := OpR X f (R2d X.K g)
def IxD (X : Cx) (g : G2) : Prop := IxR X (R2d X.K g)
def CallD (X : Cx) (f : Value) (g : GN) : Prop := CallR X f (RNd X.K g)
theorem OpR.back {X : Cx} {f : Value → Value → Sem Value} {r r' : R2} (h : OpR X f r) (i : ∀ x y H Q, r' x y H Q → r x y H Q) : OpR X f r' := fun pins s σ H x y v u Q I rx ry q => h pins s σ H x y v u Q I rx ry (i x y H Q q)
theorem IxR.back {X : Cx} {r r' : R2} (h : IxR X r) (i : ∀ x y H Q, r' x y H Q → r x y H Q) : IxR X r' := fun a b pins s σ H x y v u Q I rx ry q => h a b pins s σ H x y v u Q I rx ry (i x y H Q q)
theorem CallR.back {X : Cx} {f : Value} {r r' : List V → Hp → VK → Prop} (h : CallR X f r) (i : ∀ xs H Q, r' xs H Q → r xs H Q) : CallR X f r' := fun pins s σ H xs us Q I rx q => h pins s σ H xs us Q I rx (i xs H Q q)

/-- ints alone -/
def gI (C : Int → Int → Prop) (f : Int → Int → D) : G2 := fun x y R => match x, y with
  | .int i, .int j => C i j ∧ R (f i j)
  | _, _ => False
def gI0 (f : Int → Int → D) : G2 := fun x y R => match x, y with
  | .int i, .int j => R (f i j)
  | _, _ => False
def gAdd : G2 := fun x y R => match x, y with
  | .int i, .int j => R (.int (i + j))
  | .tup a, .tup b => a.length + b.length ≤ sizeLine ∧ R (.tup (a ++ b))
  | .lst a, .lst b => a.length + b.length ≤ sizeLine ∧ R (.lst (a ++ b))
  | _, _ => False
mutual
def toP : D → PyData
  | .non => .none
  | .bl b => .bool b
  | .int i => .int i
  | .str s => .str s
  | .tup xs => .tuple (toPs xs)
  | .lst xs => .list (toPs xs)
  | .raw _ => .dict []
def toPs : List D → List PyData
  | [] => []
  | x :: xs => toP x :: toPs xs
end
theorem toPs_map : ∀ xs : List D, toPs xs = xs.map toP
  | [] => rfl
  | x :: xs => by rw [toPs, toPs_map xs]; rfl
mutual
/-- data that may be compared: no raw values -/
def okD : D → Bool
  | .raw _ => false
  | .str s => PyData.canLay0 (.str s)
  | .tup xs => okDs xs
  | .lst xs => okDs xs
  | _ => true
def okDs : List D → Bool
  | [] => true
  | x :: xs => okD x && okDs xs
end
mutual
def depD : D → Nat
  | .tup xs => depDs xs + 1
  | .lst xs => depDs xs + 1
  | _ => 0
def depDs : List D → Nat
  | [] => 0
  | x :: xs => max (depD x) (depDs xs)
end
mutual
theorem canLay_ok : ∀ d : D, okD d = true → (toP d).canLay0 = true
  | .non, _ => rfl
  | .bl _, _ => rfl
  | .int _, _ => rfl
  | .str s, h => h
  | .tup xs, h => by
    show PyData.canLay0 (.tuple (toPs xs)) = true
    rw [PyData.canLay0]
    exact canLays_ok xs h
  | .lst xs, h => by
    show PyData.canLay0 (.list (toPs xs)) = true
    rw [PyData.canLay0]
    exact canLays_ok xs h
  | .raw _, h => by cases h
theorem canLays_ok : ∀ xs : List D, okDs xs = true → PyData.canLayAll0 (toPs xs) = true
  | [], _ => rfl
  | x :: xs, h => by
    have h' : (okD x && okDs xs) = true := h
    rw [Bool.and_eq_true] at h'
    show PyData.canLayAll0 (toP x :: toPs xs) = true
    rw [PyData.canLayAll0, canLay_ok x h'.1, canLays_ok xs h'.2]
    rfl
end
mutual
theorem dep_eq : ∀ d : D, okD d = true → (toP d).depth = depD d
  | .non, _ => rfl
  | .bl _, _ => rfl
  | .int _, _ => rfl
  | .str s, h => rfl
  | .tup xs, h => by
    show PyData.depth (.tuple (toPs xs)) = depDs xs + 1
    rw [PyData.depth, deps_eq xs h]
  | .lst xs, h => by
    show PyData.depth (.list (toPs xs)) = depDs xs + 1
    rw [PyData.depth, deps_eq xs h]
  | .raw _, h => by cases h
theorem deps_eq : ∀ xs : List D, okDs xs = true → PyData.depthAll (toPs xs) = depDs xs
  | [], _ => rfl
  | x :: xs, h => by
    have h' : (okD x && okDs xs) = true := h
    rw [Bool.and_eq_true] at h'
    show PyData.depthAll (toP x :: toPs xs) = max (depD x) (depDs xs)
    rw [PyData.depthAll, dep_eq x h'.1, deps_eq xs h'.2]
end
/-- == may be asked -/
def cmpD (d : D) : Bool := okD d && decide (depD d ≤ 64)
theorem shaped_ok {d : D} (h : cmpD d = true) : SeqAt.shaped (toP d) = true := by
  unfold cmpD at h
  rw [Bool.and_eq_true] at h
  unfold SeqAt.shaped
  rw [canLay_ok d h.1, dep_eq d h.1, h.2]
  rfl
section
variable {K : PySem.W.Frag} {G H : Hp}
mutual
theorem dp_of : ∀ (d : D) (v : V), okD d = true → Rp K G d v → Dp K G v (toP d)
  | .non, _, _, h => by cases (show _ = V.non from h); exact .non
  | .bl b, _, _, h => by cases (show _ = V.bl b from h); exact .bl b
  | .int i, _, _, h => by cases (show _ = V.int i from h); exact .int i
  | .str s, _, _, h => by cases (show _ = V.str s from h); exact .str s
  | .tup xs, v, o, h => by
    obtain ⟨a, vs, rfl, h1, _, h3⟩ := h
    exact .tup h1 (dps_of xs vs o h3)
  | .lst xs, v, o, h => by
    obtain ⟨a, vs, rfl, h1, _, h3⟩ := h
    exact .lst h1 (dps_of xs vs o h3)
  | .raw _, _, o, _ => by cases o
theorem dps_of : ∀ (xs : List D) (vs : List V), okDs xs = true → Rps K G xs vs → DpAll K G vs (toPs xs)
  | [], vs, _, h => by cases (show vs = [] from h); exact .nil
  | x :: xs, vs, o, h => by
    have h' : (okD x && okDs xs) = true := o
    rw [Bool.and_eq_true] at h'
    obtain ⟨v, r, rfl, h1, h2⟩ := h
    exact .cons (dp_of x v h'.1 h1) (dps_of xs r h'.2 h2)
end
theorem dp_ofS (s : Ex G H) : ∀ {d : D} {v : V}, okD d = true → RpS K G H d v → Dp K H v (toP d)
  | .non, _, _, h => by cases (show _ = V.non from h); exact .non
  | .bl b, _, _, h => by cases (show _ = V.bl b from h); exact .bl b
  | .int i, _, _, h => by cases (show _ = V.int i from h); exact .int i
  | .str t, _, _, h => by cases (show _ = V.str t from h); exact .str t
  | .tup xs, v, o, h => by
    obtain ⟨a, vs, rfl, h1, _, h3⟩ := h
    exact .tup (ex_t s h1) (dps_of xs vs o (Rps.mono s _ _ h3))
  | .lst xs, v, o, h => by
    obtain ⟨a, vs, rfl, h1, _, h3⟩ := h
    exact .lst h1 (dps_of xs vs o (Rps.mono s _ _ h3))
  | .raw _, _, o, _ => by cases o
end
def eqD (x y : D) : Bool := PyData.eqv (toP x) (toP y)
def gEq : G2 := fun x y R => (cmpD x = true ∧ cmpD y = true) ∧ R (.bl (eqD x y))
def gNe : G2 := fun x y R => (cmpD x = true ∧ cmpD y = true) ∧ R (.bl (!eqD x y))
def ltD (x y : D) : Bool := PySem.W.dataLt (toP x) (toP y)
def likeD (x y : D) : Bool := PySem.W.alike (toP x) (toP y)
/-- <, by a rule for ints and one for sequences -/
def gCmp (f : Int → Int → Bool) (h : D → D → Bool) : G2 := fun x y R => match x, y with
  | .int i, .int j => R (.bl (f i j))
  | .tup a, .tup b => (cmpD (.tup a) = true ∧ cmpD (.tup b) = true ∧ likeD (.tup a) (.tup b) = true) ∧ R (.bl (h (.tup a) (.tup b)))
  | .lst a, .lst b => (cmpD (.lst a) = true ∧ cmpD (.lst b) = true ∧ likeD (.lst a) (.lst b) = true) ∧ R (.bl (h (.lst a) (.lst b)))
  | _, _ => False
def gLt := gCmp (fun i j => decide (i < j)) ltD
def gGt := gCmp (fun i j => decide (j < i)) fun x y => ltD y x
def gLe := gCmp (fun i j => decide (i ≤ j)) fun x y => !ltD y x
def gGe := gCmp (fun i j => decide (j ≤ i)) fun x y => !ltD x y
def gIsN : G2 := fun x y R => match y with
  | .non => (match x with | .non => R (.bl true) | .raw _ => False | _ => R (.bl false))
  | _ => False
def gNotN : G2 := fun x y R => match y with
  | .non => (match x with | .non => R (.bl false) | .raw _ => False | _ => R (.bl true))
  | _ => False
def itemsOf : D → Option (List D)
  | .tup xs => some xs
  | .lst xs => some xs
  | _ => none
/-- flat things in a list or tuple of flat things -/
def flatD : D → Bool
  | .non => true | .bl _ => true | .int _ => true | .str _ => true
  | _ => false
def inD (x : D) (xs : List D) : Bool := xs.any fun y => eqD y x
def gIn (neg : Bool) : G2 := fun x y R => match itemsOf y with
  | some xs => (flatD x = true ∧ xs.all flatD = true) ∧ R (.bl (if neg then !inD x xs else inD x xs))
  | none => False
/-- x[i] -/
def gIx : G2 := fun x y R => match itemsOf x, y with
  | some xs, .int i => (match atI xs i with | some d => R d | none => False)
  | _, _ => False

section
variable {X : Cx}
theorem opd_I {op : Value → Value → Sem Value} {C : Int → Int → Prop} {f : Int → Int → Int} (h : OpR X op (rI C fun i j => .int (f i j))) : OpD X op (gI C fun i j => .int (f i j)) := OpR.back h fun x y H Q ⟨G, dx, dy, R, s, hx, hy, g, k⟩ => by
  cases dx <;> cases dy <;> first | exact g.elim | skip
  cases (show x = _ from hx)
  cases (show y = _ from hy)
  exact ⟨_, _, rfl, rfl, g.1, k (.int (f _ _)) _ G H (Nw.refl s) rfl g.2⟩
theorem opd_I0 {op : Value → Value → Sem Value} {f : Int → Int → Int} (h : OpR X op (rI0 fun i j => .int (f i j))) : OpD X op (gI0 fun i j => .int (f i j)) := OpR.back h fun x y H Q ⟨G, dx, dy, R, s, hx, hy, g, k⟩ => by
  cases dx <;> cases dy <;> first | exact g.elim | skip
  cases (show x = _ from hx)
  cases (show y = _ from hy)
  exact ⟨_, _, rfl, rfl, k (.int (f _ _)) _ G H (Nw.refl s) rfl g⟩
theorem opd_sub : OpD X (binaryOp .Sub) (gI0 fun i j => .int (i - j)) := opd_I0 op_sub
/-- a product: one of both below 2 ^ 64, or both together below a million bits -/
def CMulA (i j : Int) : Prop := CMul i j ∨ CMulW i j
theorem op_mulA : OpR X (binaryOp .Mult) (rI CMulA fun i j => .int (i * j)) := opI fun _ _ _ _ _ _ _ hc q => mul_int q (hc.elim CMul.ok CMulW.ok)
theorem opd_mul : OpD X (binaryOp .Mult) (gI CMulA fun i j => .int (i * j)) := opd_I op_mulA
theorem opd_div : OpD X (binaryOp .FloorDiv) (gI CDivW fun i j => .int (i / j)) := opd_I op_fdivW
theorem opd_mod : OpD X (binaryOp .Mod) (gI (fun _ j => 0 < j) fun i j => .int (i % j)) := opd_I op_mod
theorem opd_pow : OpD X (binaryOp .Pow) (gI CPow fun i j => .int (i ^ j.toNat)) := opd_I op_pow
/-- list + list -/
def rCatL (K : PySem.W.Frag) : R2 := fun x y H Q => ∃ a b xs ys, x = V.ref a ∧ y = V.ref b ∧ SqL K H a xs ∧ SqL K H b ys ∧ xs.length + ys.length ≤ sizeLine ∧ ∀ p, H p = none → Q (.ref p) (upd H p (.lst (xs ++ ys)))
theorem op_catL : OpR X (binaryOp .Add) (rCatL X.K) := by
  intro pins s σ H x y v u Q I rx ry h
  obtain ⟨l, b, xs, zs, rfl, rfl, hH, hB, hz, q⟩ := h
  cases rx
  cases ry
  obtain ⟨its, r, hl, z⟩ := I.list hH
  obtain ⟨its2, r2, hl2, z2⟩ := I.list hB
  obtain ⟨⟨cls, dd, data, sl⟩, ho, hc, n, hd⟩ := hl.isList
  obtain ⟨⟨cls2, dd2, data2, sl2⟩, ho2, hc2, n2, hd2⟩ := hl2.isList
  simp only at hc hd hc2 hd2
  subst hc hd hc2 hd2
  have e1 := r.length
  have e2 := r2.length
  have e : its.toArray ++ its2.toArray = (its ++ its2).toArray := by simp
  refine concat_meets ⟨_, ho, rfl⟩ ⟨_, ho2, rfl⟩ noFill_list_add seq_list_add PySem.F.slot_list_add PySem.F.entry_list_add (PySem.F.args_list_add_2 _ _) (list_addW l b its.toArray its2.toArray n n2 dd dd2 sl sl2 (by rw [List.size_toArray, List.size_toArray, ← e1, ← e2]; exact hz)) ⟨ho, ho2, ?_⟩
  rw [e]
  exact ⟨V.ref _, _, I.lnew (t' := s.toks) (r.append r2) (by rw [List.length_append]; omega), rfl, q _ I.fresh⟩
theorem Rps.len {K : PySem.W.Frag} {G : Hp} {xs : List D} {vs : List V} (h : Rps K G xs vs) : xs.length = vs.length := (rps_iff.mp h).length
theorem Rps.app {K : PySem.W.Frag} {G : Hp} {xs ys : List D} {vs ws : List V} (h : Rps K G xs vs) (h' : Rps K G ys ws) : Rps K G (xs ++ ys) (vs ++ ws) := rps_iff.mpr (pd_app (rps_iff.mp h) (rps_iff.mp h'))
/-- a new list, a new tuple of known items -/
theorem rp_lst {K : PySem.W.Frag} {G : Hp} {p : Addr} {xs : List D} {vs : List V} (hz : xs.length ≤ sizeLine) (h : Rps K G xs vs) (hp : G p = none) : Rp K (upd G p (.lst vs)) (.lst xs) (.ref p) :=
  ⟨p, vs, rfl, SqL.of upd_same, hz, Rps.mono (ex_new hp) _ _ h⟩
theorem rp_tup {K : PySem.W.Frag} {G : Hp} {p : Addr} {xs : List D} {vs : List V} (hz : xs.length ≤ sizeLine) (h : Rps K G xs vs) (hp : G p = none) : Rp K (upd G p (.tup vs)) (.tup xs) (.ref p) :=
  ⟨p, vs, rfl, SqT.of upd_same, hz, Rps.mono (ex_new hp) _ _ h⟩
theorem opd_add : OpD X (binaryOp .Add) gAdd := OpR.back (op_add.or (op_catA.or op_catL)) fun x y H Q ⟨G, dx, dy, R, s, hx, hy, g, k⟩ => by
  cases dx <;> cases dy <;> first | exact g.elim | skip
  · cases (show x = _ from hx)
    cases (show y = _ from hy)
    exact .inl ⟨_, _, rfl, rfl, k (.int _) _ G H (Nw.refl s) rfl g⟩
  · rename_i as bs
    obtain ⟨a, vs, rfl, h1, h2, h3⟩ := hx
    obtain ⟨b, ws, rfl, g1, g2, g3⟩ := hy
    have e1 := Rps.len h3
    have e2 := Rps.len g3
    have hz : (as ++ bs).length ≤ sizeLine := by rw [List.length_append]; exact g.1
    have hr : Rps X.K G (as ++ bs) (vs ++ ws) := Rps.app h3 g3
    refine .inr (.inl ⟨a, b, vs, ws, rfl, rfl, ex_t s h1, ex_t s g1, by rw [← e1, ← e2]; exact g.1, fun z => ?_, fun _ z => ?_, fun _ _ p hp => ?_⟩)
    · refine k (.tup (as ++ bs)) _ G H (Nw.refl s) ⟨b, vs ++ ws, rfl, ?_, hz, hr⟩ g.2
      rw [z]
      exact g1
    · refine k (.tup (as ++ bs)) _ G H (Nw.refl s) ⟨a, vs ++ ws, rfl, ?_, hz, hr⟩ g.2
      rw [z, List.append_nil]
      exact h1
    · exact k (.tup (as ++ bs)) _ _ _ (Nw.new s hp) (rp_tup hz hr (free_of s hp)) g.2
  · rename_i as bs
    obtain ⟨a, vs, rfl, h1, h2, h3⟩ := hx
    obtain ⟨b, ws, rfl, g1, g2, g3⟩ := hy
    have e1 := Rps.len h3
    have e2 := Rps.len g3
    refine .inr (.inr ⟨a, b, vs, ws, rfl, rfl, h1, g1, by rw [← e1, ← e2]; exact g.1, fun p hp => ?_⟩)
    exact k (.lst (as ++ bs)) _ _ _ (Nw.new s hp) (rp_lst (by rw [List.length_append]; exact g.1) (Rps.app h3 g3) (free_of s hp)) g.2
theorem opd_eq (hu : X.A.units + 64 < cLine) : OpD X (compareOp .Eq) gEq := OpR.back (op_eqD hu) fun x y H Q ⟨G, dx, dy, R, s, hx, hy, g, k⟩ => by
  have o1 := g.1.1
  have o2 := g.1.2
  have p1 : okD dx = true := by unfold cmpD at o1; rw [Bool.and_eq_true] at o1; exact o1.1
  have p2 : okD dy = true := by unfold cmpD at o2; rw [Bool.and_eq_true] at o2; exact o2.1
  exact ⟨toP dx, toP dy, dp_ofS s p1 hx, dp_ofS s p2 hy, shaped_ok o1, shaped_ok o2, k (.bl _) _ G H (Nw.refl s) rfl g.2⟩
theorem opd_ne (hu : X.A.units + 64 < cLine) : OpD X (compareOp .NotEq) gNe := OpR.back (op_neD hu) fun x y H Q ⟨G, dx, dy, R, s, hx, hy, g, k⟩ => by
  have o1 := g.1.1
  have o2 := g.1.2
  have p1 : okD dx = true := by unfold cmpD at o1; rw [Bool.and_eq_true] at o1; exact o1.1
  have p2 : okD dy = true := by unfold cmpD at o2; rw [Bool.and_eq_true] at o2; exact o2.1
  exact ⟨toP dx, toP dy, dp_ofS s p1 hx, dp_ofS s p2 hy, shaped_ok o1, shaped_ok o2, k (.bl _) _ G H (Nw.refl s) rfl g.2⟩
end
end FL

namespace FL
open PySem PySem.Spec PyProof.Rows L2
section
variable {X : Cx}
/-- an order of data, by the library's rule -/
theorem op_ordD {op : CmpOp} {f : PyData → PyData → Bool} (hu : X.A.units + 64 < cLine)
    (rule : ∀ {s : Shared} {a b : Value} {da db : PyData} {as bs : List Addr} {Q : Value → Shared → Prop} {E : Value → Shared → Prop}, Reads s.heap a da as → Reads s.heap b db bs → PySem.W.alike da db = true → da ≠ .none → X.A.units + min da.depth db.depth < cLine → Q (.bool (f da db)) s →
      wpAny (model X.prog X.w) X.A (compareOp op a b) Q E s) :
    OpR X (compareOp op) (fun x y H Q => ∃ d e, Dp X.K H x d ∧ Dp X.K H y e ∧ PySem.W.alike d e = true ∧ d ≠ .none ∧ d.depth ≤ 64 ∧ Q (.bl (f d e)) H) := by
  intro pins s σ H x y v u Q I rx ry h
  obtain ⟨d, e, hd, he, al, hn, h64, q⟩ := h
  obtain ⟨as, r1⟩ := Dp.reads I d x v hd rx
  obtain ⟨bs, r2⟩ := Dp.reads I e y u he ry
  have : min d.depth e.depth ≤ d.depth := Nat.min_le_left _ _
  exact rule r1 r2 al hn (by omega) ⟨.bl _, H, I, rfl, q⟩
theorem okD_of {d : D} (h : cmpD d = true) : okD d = true ∧ depD d ≤ 64 := by
  unfold cmpD at h
  rw [Bool.and_eq_true] at h
  exact ⟨h.1, of_decide_eq_true h.2⟩
theorem opd_cmp {op : CmpOp} {fi : Int → Int → Bool} {f : PyData → PyData → Bool} {h : D → D → Bool} (hi : OpR X (compareOp op) (rI0 fun i j => .bl (fi i j)))
    (hd : OpR X (compareOp op) (fun x y H Q => ∃ d e, Dp X.K H x d ∧ Dp X.K H y e ∧ PySem.W.alike d e = true ∧ d ≠ .none ∧ d.depth ≤ 64 ∧ Q (.bl (f d e)) H)) (hf : ∀ x y, h x y = f (toP x) (toP y)) :
    OpD X (compareOp op) (gCmp fi h) := OpR.back (hi.or hd) fun x y H Q ⟨G, dx, dy, R, s, hx, hy, g, k⟩ => by
  cases dx <;> cases dy <;> first | exact g.elim | skip
  · cases (show x = _ from hx)
    cases (show y = _ from hy)
    exact .inl ⟨_, _, rfl, rfl, k (.bl _) _ G H (Nw.refl s) rfl g⟩
  · obtain ⟨⟨c1, c2, c3⟩, g⟩ := g
    obtain ⟨o1, d1⟩ := okD_of c1
    obtain ⟨o2, d2⟩ := okD_of c2
    refine .inr ⟨_, _, dp_ofS s o1 hx, dp_ofS s o2 hy, (show PySem.W.alike _ _ = true from c3), (fun z => by cases z), (by rw [dep_eq _ o1]; exact d1), ?_⟩
    rw [← hf]
    exact k (.bl _) _ G H (Nw.refl s) rfl g
  · obtain ⟨⟨c1, c2, c3⟩, g⟩ := g
    obtain ⟨o1, d1⟩ := okD_of c1
    obtain ⟨o2, d2⟩ := okD_of c2
    refine .inr ⟨_, _, dp_ofS s o1 hx, dp_ofS s o2 hy, (show PySem.W.alike _ _ = true from c3), (fun z => by cases z), (by rw [dep_eq _ o1]; exact d1), ?_⟩
    rw [← hf]
    exact k (.bl _) _ G H (Nw.refl s) rfl g
theorem opd_lt (hu : X.A.units + 64 < cLine) : OpD X (compareOp .Lt) gLt := opd_cmp op_lt (op_ordD hu fun ra rb h hn hu' hq => PySem.W.lt_data ra rb h hn hu' hq) fun _ _ => rfl
theorem opd_gt (hu : X.A.units + 64 < cLine) : OpD X (compareOp .Gt) gGt := opd_cmp op_gt (op_ordD (f := fun a b => PySem.W.dataLt b a) hu fun ra rb h hn hu' hq => PySem.W.gt_data ra rb h hn hu' hq) fun _ _ => rfl
theorem opd_le (hu : X.A.units + 64 < cLine) : OpD X (compareOp .LtE) gLe := opd_cmp op_le (op_ordD (f := fun a b => !PySem.W.dataLt b a) hu fun ra rb h hn hu' hq => PySem.W.le_data ra rb h hn hu' hq) fun _ _ => rfl
theorem opd_ge (hu : X.A.units + 64 < cLine) : OpD X (compareOp .GtE) gGe := opd_cmp op_ge (op_ordD (f := fun a b => !PySem.W.dataLt a b) hu fun ra rb h hn hu' hq => PySem.W.ge_data ra rb h hn hu' hq) fun _ _ => rfl
theorem opd_isN : OpD X (compareOp .Is) gIsN := OpR.back op_isN fun x y H Q ⟨G, dx, dy, R, s, hx, hy, g, k⟩ => by
  cases dy <;> first | exact g.elim | skip
  refine ⟨hy, ?_⟩
  cases dx with
  | non => cases (show x = _ from hx); exact k (.bl true) _ G H (Nw.refl s) rfl g
  | raw w => exact g.elim
  | bl b => cases (show x = _ from hx); exact k (.bl false) _ G H (Nw.refl s) rfl g
  | int b => cases (show x = _ from hx); exact k (.bl false) _ G H (Nw.refl s) rfl g
  | str b => cases (show x = _ from hx); exact k (.bl false) _ G H (Nw.refl s) rfl g
  | tup b => obtain ⟨a, vs, rfl, _⟩ := hx; exact k (.bl false) _ G H (Nw.refl s) rfl g
  | lst b => obtain ⟨a, vs, rfl, _⟩ := hx; exact k (.bl false) _ G H (Nw.refl s) rfl g
theorem opd_notN : OpD X (compareOp .IsNot) gNotN := OpR.back op_notN fun x y H Q ⟨G, dx, dy, R, s, hx, hy, g, k⟩ => by
  cases dy <;> first | exact g.elim | skip
  refine ⟨hy, ?_⟩
  cases dx with
  | non => cases (show x = _ from hx); exact k (.bl false) _ G H (Nw.refl s) rfl g
  | raw w => exact g.elim
  | bl b => cases (show x = _ from hx); exact k (.bl true) _ G H (Nw.refl s) rfl g
  | int b => cases (show x = _ from hx); exact k (.bl true) _ G H (Nw.refl s) rfl g
  | str b => cases (show x = _ from hx); exact k (.bl true) _ G H (Nw.refl s) rfl g
  | tup b => obtain ⟨a, vs, rfl, _⟩ := hx; exact k (.bl true) _ G H (Nw.refl s) rfl g
  | lst b => obtain ⟨a, vs, rfl, _⟩ := hx; exact k (.bl true) _ G H (Nw.refl s) rfl g
end
section
variable {K : PySem.W.Frag} {G H : Hp}
theorem flat_rp {d : D} {v : V} (f : flatD d = true) (h : Rp K G d v) : flatV v = true := by
  cases d with
  | non => cases (show v = _ from h); rfl
  | bl b => cases (show v = _ from h); rfl
  | int b => cases (show v = _ from h); rfl
  | str b => cases (show v = _ from h); rfl
  | tup _ => cases f
  | lst _ => cases f
  | raw _ => cases f
theorem flats_rp : ∀ {xs : List D} {vs : List V}, xs.all flatD = true → Paired (Rp K G) xs vs → vs.all flatV = true
  | _, _, _, .nil => rfl
  | x :: xs, _, f, .cons h t => by
    rw [List.all_cons, Bool.and_eq_true] at f ⊢
    exact ⟨flat_rp f.1 h, flats_rp f.2 t⟩
theorem flat_rpS {d : D} {v : V} (f : flatD d = true) (h : RpS K G H d v) : flatV v = true ∧ Rp K G d v := by
  cases d with
  | non => cases (show v = _ from h); exact ⟨rfl, rfl⟩
  | bl b => cases (show v = _ from h); exact ⟨rfl, rfl⟩
  | int b => cases (show v = _ from h); exact ⟨rfl, rfl⟩
  | str b => cases (show v = _ from h); exact ⟨rfl, rfl⟩
  | tup _ => cases f
  | lst _ => cases f
  | raw _ => cases f
theorem eqV_rp {d e : D} {v w : V} (fd : flatD d = true) (fe : flatD e = true) (h : Rp K G d v) (h' : Rp K G e w) : eqV v w = eqD d e := by
  cases d <;> first | cases fd | skip
  all_goals (cases e <;> first | cases fe | skip)
  all_goals (cases (show v = _ from h); cases (show w = _ from h'))
  all_goals first | rfl | skip
theorem inV_rp {x : D} {v : V} (fx : flatD x = true) (hx : Rp K G x v) : ∀ {xs : List D} {vs : List V}, xs.all flatD = true → Paired (Rp K G) xs vs → inV v vs = inD x xs
  | _, _, _, .nil => rfl
  | y :: ys, _, f, .cons h t => by
    rw [List.all_cons, Bool.and_eq_true] at f
    show (eqV _ v || inV v _) = (eqD y x || inD x ys)
    rw [eqV_rp f.1 fx h hx, inV_rp fx hx f.2 t]
theorem items_rpS {d : D} {v : V} {xs : List D} (s : Ex G H) (e : itemsOf d = some xs) (h : RpS K G H d v) : ∃ a vs, v = V.ref a ∧ (SqL K H a vs ∨ SqT K H a vs) ∧ xs.length ≤ sizeLine ∧ Paired (Rp K G) xs vs := by
  cases d <;> first | cases e | skip
  · obtain ⟨a, vs, h0, h1, h2, h3⟩ := h
    exact ⟨a, vs, h0, .inr (ex_t s h1), h2, rps_iff.mp h3⟩
  · obtain ⟨a, vs, h0, h1, h2, h3⟩ := h
    exact ⟨a, vs, h0, .inl h1, h2, rps_iff.mp h3⟩
end
section
variable {X : Cx}
theorem opd_in : OpD X (compareOp .In) (gIn false) := OpR.back op_in_seq fun x y H Q ⟨G, dx, dy, R, s, hx, hy, g, k⟩ => by
  unfold gIn at g
  cases e : itemsOf dy with
  | none => rw [e] at g; exact g.elim
  | some xs =>
    rw [e] at g
    obtain ⟨⟨f1, f2⟩, g⟩ := g
    obtain ⟨a, vs, rfl, hs, _, hp⟩ := items_rpS s e hy
    obtain ⟨f3, hx'⟩ := flat_rpS f1 hx
    refine ⟨a, vs, rfl, hs, f3, flats_rp f2 hp, ?_⟩
    have := inV_rp f1 hx' f2 hp
    rw [if_neg Bool.false_ne_true] at g ⊢
    rw [this]
    exact k (.bl _) _ G H (Nw.refl s) rfl g
theorem opd_notIn : OpD X (compareOp .NotIn) (gIn true) := OpR.back op_notIn_seq fun x y H Q ⟨G, dx, dy, R, s, hx, hy, g, k⟩ => by
  unfold gIn at g
  cases e : itemsOf dy with
  | none => rw [e] at g; exact g.elim
  | some xs =>
    rw [e] at g
    obtain ⟨⟨f1, f2⟩, g⟩ := g
    obtain ⟨a, vs, rfl, hs, _, hp⟩ := items_rpS s e hy
    obtain ⟨f3, hx'⟩ := flat_rpS f1 hx
    refine ⟨a, vs, rfl, hs, f3, flats_rp f2 hp, ?_⟩
    have := inV_rp f1 hx' f2 hp
    rw [if_pos rfl] at g ⊢
    rw [this]
    exact k (.bl _) _ G H (Nw.refl s) rfl g
theorem atI_pd {α β : Type} {F : α → β → Prop} {xs : List α} {ys : List β} (h : Paired F xs ys) {i : Int} {x : α} (e : atI xs i = some x) : ∃ y, atI ys i = some y ∧ F x y := by
  unfold atI at e ⊢
  rw [← h.length]
  cases e1 : ixN xs.length i with
  | none => rw [e1] at e; cases e
  | some j =>
    rw [e1] at e
    exact pd_get h (show xs[j]? = some x from e)
theorem ixd_ix : IxD X gIx := IxR.back (ix_list.or ix_tup) fun x y H Q ⟨G, dx, dy, R, s, hx, hy, g, k⟩ => by
  unfold gIx at g
  cases e : itemsOf dx with
  | none => rw [e] at g; exact g.elim
  | some xs =>
    rw [e] at g
    cases dy <;> first | exact g.elim | skip
    rename_i i
    cases (show y = _ from hy)
    obtain ⟨a, vs, rfl, hs, _, hp⟩ := items_rpS s e hx
    simp only at g
    cases e2 : atI xs i with
    | none => rw [e2] at g; exact g.elim
    | some d =>
      rw [e2] at g
      obtain ⟨w, e3, hw⟩ := atI_pd hp e2
      rcases hs with hs | hs
      · exact .inl ⟨a, vs, i, w, rfl, rfl, hs, e3, k d w G H (Nw.refl s) hw g⟩
      · exact .inr ⟨a, vs, i, w, rfl, rfl, hs, e3, k d w G H (Nw.refl s) hw g⟩
end
end FL

namespace FL
open PySem PySem.Spec PyProof.Rows L2

/-! ### expressions -/
def dVar (i : Nat) : DE := fun env R => match env[i]? with
  | some (.fz d) => R d env
  | _ => False
def dOwn (i : Nat) : DE := fun env R => match env[i]? with
  | some (.ol xs) => R (.lst xs) env
  | _ => False
def dC (d : D) : DE := fun env R => R d env
def dBin (g : G2) (da db : DE) : DE := fun env R => da env fun x env1 => db env1 fun y env2 => g x y fun d => R d env2
/-- the left side an owned list's name -/
def dBinN (g : G2) (i : Nat) (db : DE) : DE := fun env R => match env[i]? with
  | some (.ol _) => db env fun y env1 => (match env1[i]? with
    | some (.ol xs) => g (.lst xs) y fun d => R d env1
    | _ => False)
  | _ => False
def dNeg (da : DE) : DE := fun env R => da env fun x env1 => match x with
  | .int i => R (.int (-i)) env1
  | _ => False
def dNot (da : DE) : DE := fun env R => da env fun x env1 => match x with
  | .bl b => R (.bl (!b)) env1
  | _ => False
def dChain (g g' : G2) (da db dc : DE) : DE := fun env R => da env fun x env1 => db env1 fun y env2 => g x y fun d => match d with
  | .bl true => dc env2 fun z env3 => g' y z fun e => R e env3
  | .bl false => R (.bl false) env2
  | _ => False
def dAnd (da db : DE) : DE := fun env R => da env fun x env1 => match x with
  | .bl true => db env1 R
  | .bl false => R (.bl false) env1
  | _ => False
def dOr (da db : DE) : DE := fun env R => da env fun x env1 => match x with
  | .bl true => R (.bl true) env1
  | .bl false => db env1 R
  | _ => False
def tB1 (da : DE) : DT := fun env R => da env fun x env1 => match x with
  | .bl b => R b env1
  | _ => False
def tAnd1 (t u : DT) : DT := fun env R => t env fun b env1 => if b = true then u env1 R else R false env1
def tOr1 (t u : DT) : DT := fun env R => t env fun b env1 => if b = true then R true env1 else u env1 R
def tNot1 (t : DT) : DT := fun env R => t env fun b env1 => R (!b) env1
def dIf (t : DT) (da db : DE) : DE := fun env R => t env fun b env1 => if b = true then da env1 R else db env1 R
def aNil : DA := fun env R => R [] env
def aCons (de : DE) (da : DA) : DA := fun env R => de env fun x env1 => da env1 fun xs env2 => R (x :: xs) env2
def dTup (da : DA) : DE := fun env R => da env fun xs env1 => xs.length ≤ sizeLine ∧ R (.tup xs) env1
def dLst (da : DA) : DE := fun env R => da env fun xs env1 => xs.length ≤ sizeLine ∧ R (.lst xs) env1
def dCB (g : GN) (da : DA) : DE := fun env R => da env fun xs env1 => g xs fun d => R d env1
abbrev FSpec := List D → (D → Prop) → Prop
/-- a def with a borrowed first argument -/
abbrev PSpec := List D → List D → (D → List D → Prop) → Prop
def dCall (n : Nat) (F : FSpec) (da : DA) : DE := fun env R => da env fun xs env1 => xs.length = n ∧ F xs fun d => R d env1
def dCallP (n : Nat) (F : PSpec) (i : Nat) (da : DA) : DE := fun env R => match env[i]? with
  | some (.ol _) => da env fun xs env1 => (match env1[i]? with
    | some (.ol ys) => xs.length = n ∧ F ys xs fun d zs => R d (env1.set i (.ol zs))
    | _ => False)
  | _ => False

section
variable {X : Cx} {a b c e : Expr} {da db dc de : DE} {pos p : Pos}
/-- what the reading of an expression hands on -/
theorem TEd.of {K : PySem.W.Frag} {de : DE} {σ : L2.St} {H : Hp} {Q : VK} {B : Bs} {G : Hp} {env : SEnv} {R : D → SEnv → Prop} (r : SRep K B G H σ env) (q : de env R)
    (k : ∀ d env' v G' H', SRep K B G' H' σ env' → Ex G G' → Rp K G' d v → R d env' → Q v H') : TEd K de σ H Q := ⟨B, G, env, R, r, q, k⟩
theorem de_var {i : Nat} {x : Str} (h : PE X (.Name x pos) (tVar i)) : PEd X (.Name x pos) (dVar i) := PE.imp' h fun σ H Q ⟨B, G, env, R, r, q, k⟩ => by
  unfold dVar at q
  split at q
  · rename_i d e
    obtain ⟨v, h1, h2⟩ := r.fz i d e
    exact ⟨v, h1, k d env v G H r (Same.refl G) h2 q⟩
  · exact q.elim
theorem de_own {i : Nat} {x : Str} (h : PE X (.Name x pos) (tVar i)) : PEs X (.Name x pos) (dOwn i) := PE.imp' h fun σ H Q ⟨B, G, env, R, r, q, k⟩ => by
  unfold dOwn at q
  split at q
  · rename_i xs e
    obtain ⟨a, h1, h2, ⟨vs, h3, h4, h5⟩, _⟩ := r.ow i _ e rfl
    exact ⟨_, h1, k (.lst xs) env _ G H r (Same.refl G) ⟨a, vs, rfl, SqL.of h3, h4, h5⟩ q⟩
  · exact q.elim
theorem de_c {v : V} {d : D} (h : PE X e (tC v)) (hd : ∀ (K : PySem.W.Frag) (G : Hp), Rp K G d v) : PEd X e (dC d) := PE.imp' h fun σ H Q ⟨B, G, env, R, r, q, k⟩ => k d env v G H r (Same.refl G) (hd _ _) q
theorem de_int {i : Int} {j pos} : PEd X (.Constant (.int i) j pos) (dC (.int i)) := de_c pe_int fun _ _ => rfl
theorem de_bl {b : Bool} {j pos} : PEd X (.Constant (.bool b) j pos) (dC (.bl b)) := de_c pe_bl fun _ _ => rfl
theorem de_non {j pos} : PEd X (.Constant .none j pos) (dC .non) := de_c pe_non fun _ _ => rfl
theorem de_str {x : Str} {j pos} : PEd X (.Constant (.str x) j pos) (dC (.str x)) := de_c pe_str fun _ _ => rfl
/-- a module's constant int -/
theorem de_gint {x : Str} {i : Int} (hg : Gl X x) (hm : ∃ t, X.mg x = some (.int i t)) (hd : (x == ("__debug__" : Str)) = false := by decide) : PEd X (.Name x pos) (dC (.int i)) := by
  obtain ⟨t, hm⟩ := hm
  exact de_c (pe_glob (v := .int i) hg hm ⟨t, rfl⟩ hd) fun _ _ => rfl
theorem de_gstr {x : Str} {i : Str} (hg : Gl X x) (hm : ∃ t, X.mg x = some (.str i t)) (hd : (x == ("__debug__" : Str)) = false := by decide) : PEd X (.Name x pos) (dC (.str i)) := by
  obtain ⟨t, hm⟩ := hm
  exact de_c (pe_glob (v := .str i) hg hm ⟨t, rfl⟩ hd) fun _ _ => rfl
/-- a two-place operation -/
theorem bin_ok {r : R2} {g : G2} {K : PySem.W.Frag} (hr : ∀ x y H Q, R2d K g x y H Q → r x y H Q) {σ : L2.St} {H : Hp} {Q : VK} (h : TEd K (dBin g da db) σ H Q) : tOp r (TEd K da) (TEs K db) σ H Q := by
  obtain ⟨B, G, env, R, r1, q, k⟩ := h
  exact ⟨B, G, env, _, r1, q, fun x env1 v G1 H1 r1 e1 p1 c1 => ⟨B, G1, env1, _, r1, c1, fun y env2 w G2 H2 r2 e2 p2 c2 =>
    hr _ _ _ _ ⟨G2, x, y, _, r2.sub, Rp.toS r2.sub (Rp.mono e2 _ _ p1), p2, c2, fun d v' G3 H3 n p3 c3 => k d env2 v' G3 H3 (r2.ext n) (e1.trans (e2.trans n.ex)) p3 c3⟩⟩⟩
theorem binN_ok {r : R2} {g : G2} {K : PySem.W.Frag} {i : Nat} (hr : ∀ x y H Q, R2d K g x y H Q → r x y H Q) {σ : L2.St} {H : Hp} {Q : VK} (h : TEd K (dBinN g i db) σ H Q) : tOp r (tVar i) (TEs K db) σ H Q := by
  obtain ⟨B, G, env, R, r1, q, k⟩ := h
  unfold dBinN at q
  split at q
  · rename_i xs0 e0
    obtain ⟨a, h1, _⟩ := r1.ow i _ e0 rfl
    refine ⟨_, h1, B, G, env, _, r1, q, fun y env1 w G1 H1 r2 e1 p1 c1 => ?_⟩
    split at c1
    · rename_i xs e2
      obtain ⟨a', g1, g2, ⟨vs, g3, g4, g5⟩, _⟩ := r2.ow i _ e2 rfl
      rw [h1] at g1
      cases g1
      exact hr _ _ _ _ ⟨G1, .lst xs, y, _, r2.sub, ⟨a, vs, rfl, SqL.of g3, g4, g5⟩, p1, c1, fun d v' G3 H3 n p3 c3 => k d env1 v' G3 H3 (r2.ext n) (e1.trans n.ex) p3 c3⟩
    · exact c1.elim
  · exact q.elim
theorem de_bin {op : Operator} {g : G2} (ho : OpD X (binaryOp op) g) (ha : PEd X a da) (hb : PEs X b db) : PEd X (.BinOp a op b pos) (dBin g da db) := PE.imp' (pe_op ho ha hb) fun _ _ _ h => bin_ok (fun _ _ _ _ h => h) h
theorem de_cmp {op : CmpOp} {g : G2} (ho : OpD X (compareOp op) g) (ha : PEd X a da) (hb : PEs X b db) (hm : behindInMarks op b = false) : PEd X (.Compare a [op] [b] pos) (dBin g da db) := PE.imp' (pe_cmpR ho ha hb hm) fun _ _ _ h => bin_ok (fun _ _ _ _ h => h) h
theorem de_cmpN {op : CmpOp} {g : G2} {i : Nat} {x : Str} (ho : OpD X (compareOp op) g) (ha : PE X (.Name x p) (tVar i)) (hb : PEs X b db) (hm : behindInMarks op b = false) : PEd X (.Compare (.Name x p) [op] [b] pos) (dBinN g i db) := PE.imp' (pe_cmpR ho ha hb hm) fun _ _ _ h => binN_ok (fun _ _ _ _ h => h) h
theorem de_ix {g : G2} (ho : IxD X g) (ha : PEd X a da) (hb : PEs X b db) (hs : PlainIx b) : PEd X (.Subscript a b pos) (dBin g da db) := PE.imp' (pe_ix ho ha hb hs) fun _ _ _ h => bin_ok (fun _ _ _ _ h => h) h
theorem de_ixN {g : G2} {i : Nat} {x : Str} (ho : IxD X g) (ha : PE X (.Name x p) (tVar i)) (hb : PEs X b db) (hs : PlainIx b) : PEd X (.Subscript (.Name x p) b pos) (dBinN g i db) := PE.imp' (pe_ix ho ha hb hs) fun _ _ _ h => binN_ok (fun _ _ _ _ h => h) h
theorem test_ok {K : PySem.W.Frag} {t : TE} (ht : ∀ σ H Q, TEd K de σ H Q → t σ H Q) {σ : L2.St} {H : Hp} {Q : Bool → Hp → Prop} (h : TTd K (tB1 de) σ H Q) : tTest t σ H Q := by
  obtain ⟨B, G, env, R, r1, q, k⟩ := h
  refine ht _ _ _ ⟨B, G, env, _, r1, q, fun x env1 v G1 H1 r2 e1 p1 c1 => ?_⟩
  cases x <;> first | exact c1.elim | skip
  cases (show v = _ from p1)
  exact ⟨_, rfl, k _ env1 G1 H1 r2 e1 c1⟩
theorem dt_cmp {op : CmpOp} {g : G2} (ho : OpD X (compareOp op) g) (ha : PEd X a da) (hb : PEs X b db) (hm : behindInMarks op b = false) : PTd X (.Compare a [op] [b] pos) (tB1 (dBin g da db)) :=
  PT.imp' (pt_cmpR ho ha hb hm) fun _ _ _ h => test_ok (fun _ _ _ h => bin_ok (fun _ _ _ _ h => h) h) h
theorem dt_cmpN {op : CmpOp} {g : G2} {i : Nat} {x : Str} (ho : OpD X (compareOp op) g) (ha : PE X (.Name x p) (tVar i)) (hb : PEs X b db) (hm : behindInMarks op b = false) : PTd X (.Compare (.Name x p) [op] [b] pos) (tB1 (dBinN g i db)) :=
  PT.imp' (pt_cmpR ho ha hb hm) fun _ _ _ h => test_ok (fun _ _ _ h => binN_ok (fun _ _ _ _ h => h) h) h
theorem dt_val (h : PEd X e de) (he : ∀ whole, isTrue e X.env whole = (do let v ← whole; standAt e.pos; holding [v] (truthy v)) := by intro _; rfl) : PTd X e (tB1 de) :=
  PT.imp' (pt_val h he) fun _ _ _ h => test_ok (t := TEd X.K de) (fun _ _ _ h => h) h
theorem chain_ok {K : PySem.W.Frag} {g g' : G2} {σ : L2.St} {H : Hp} {Q : VK} (h : TEd K (dChain g g' da db dc) σ H Q) : tChain (R2d K g) (R2d K g') (TEd K da) (TEd K db) (TEd K dc) σ H Q := by
  obtain ⟨B, G, env, R, r1, q, k⟩ := h
  refine ⟨B, G, env, _, r1, q, fun x env1 v G1 H1 r1 e1 p1 c1 => ⟨B, G1, env1, _, r1, c1, fun y env2 w G2 H2 r2 e2 p2 c2 =>
    ⟨G2, x, y, _, r2.sub, Rp.toS r2.sub (Rp.mono e2 _ _ p1), Rp.toS r2.sub p2, c2, fun d v' G3 H3 n p3 c3 => ?_⟩⟩⟩
  cases d <;> first | exact c3.elim | skip
  rename_i bb
  cases (show v' = _ from p3)
  refine ⟨bb, rfl, ?_⟩
  have r3 := r2.ext n
  cases bb with
  | true =>
    rw [if_pos rfl]
    exact ⟨B, G3, env2, _, r3, c3, fun z env4 u G4 H4 r4 e4 p4 c4 => ⟨G4, y, z, _, r4.sub, Rp.toS r4.sub (Rp.mono (n.ex.trans e4) _ _ p2), Rp.toS r4.sub p4, c4,
      fun d5 v5 G5 H5 n5 p5 c5 => k d5 env4 v5 G5 H5 (r4.ext n5) (e1.trans (e2.trans (n.ex.trans (e4.trans n5.ex)))) p5 c5⟩⟩
  | false =>
    rw [if_neg Bool.false_ne_true]
    exact k (.bl false) env2 _ G3 H3 r3 (e1.trans (e2.trans n.ex)) rfl c3
theorem de_chain {op op' : CmpOp} {g g' : G2} (ho : OpD X (compareOp op) g) (ho' : OpD X (compareOp op') g') (ha : PEd X a da) (hb : PEd X b db) (hc : PEd X c dc) (hm : lastMarks [op, op'] [b, c] = false := by with_unfolding_all rfl) :
    PEd X (.Compare a [op, op'] [b, c] pos) (dChain g g' da db dc) := PE.imp' (pe_chain ho ho' ha hb hc hm) fun _ _ _ h => chain_ok h
theorem dt_chain {op op' : CmpOp} {g g' : G2} (ho : OpD X (compareOp op) g) (ho' : OpD X (compareOp op') g') (ha : PEd X a da) (hb : PEd X b db) (hc : PEd X c dc) (hm : lastMarks [op, op'] [b, c] = false := by with_unfolding_all rfl) :
    PTd X (.Compare a [op, op'] [b, c] pos) (tB1 (dChain g g' da db dc)) := PT.imp' (pt_chain ho ho' ha hb hc hm) fun _ _ _ h => test_ok (fun _ _ _ h => chain_ok h) h
theorem de_neg (ha : PEd X a da) : PEd X (.UnaryOp .USub a pos) (dNeg da) := PE.imp' (pe_un un_neg ha) fun σ H Q ⟨B, G, env, R, r, q, k⟩ => ⟨B, G, env, _, r, q, fun x env1 v G1 H1 r1 e1 p1 c1 => by
  cases x <;> first | exact c1.elim | skip
  cases (show v = _ from p1)
  exact ⟨_, rfl, k (.int _) env1 _ G1 H1 r1 e1 rfl c1⟩⟩
theorem de_not (ha : PEd X a da) : PEd X (.UnaryOp .Not a pos) (dNot da) := PE.imp' (pe_not ha) fun σ H Q ⟨B, G, env, R, r, q, k⟩ => ⟨B, G, env, _, r, q, fun x env1 v G1 H1 r1 e1 p1 c1 => by
  cases x <;> first | exact c1.elim | skip
  cases (show v = _ from p1)
  exact ⟨_, rfl, k (.bl _) env1 _ G1 H1 r1 e1 rfl c1⟩⟩
variable {rest : List Expr}
theorem de_one {op : BoolOp} (h : PEd X a da) : PEd X (.BoolOp op [a] pos) da := pe_one h
theorem de_and (ha : PEd X a da) (hb : PEd X (.BoolOp .And (b :: rest) pos) db) : PEd X (.BoolOp .And (a :: b :: rest) pos) (dAnd da db) := PE.imp' (pe_and ha hb) fun σ H Q ⟨B, G, env, R, r, q, k⟩ => ⟨B, G, env, _, r, q, fun x env1 v G1 H1 r1 e1 p1 c1 => by
  cases x <;> first | exact c1.elim | skip
  rename_i bb
  cases (show v = _ from p1)
  refine ⟨_, rfl, ?_⟩
  cases bb with
  | true => exact ⟨B, G1, env1, R, r1, c1, fun d env' v G' H' r' x p c => k d env' v G' H' r' (e1.trans x) p c⟩
  | false => exact k (.bl false) env1 _ G1 H1 r1 e1 rfl c1⟩
theorem de_or (ha : PEd X a da) (hb : PEd X (.BoolOp .Or (b :: rest) pos) db) : PEd X (.BoolOp .Or (a :: b :: rest) pos) (dOr da db) := PE.imp' (pe_or ha hb) fun σ H Q ⟨B, G, env, R, r, q, k⟩ => ⟨B, G, env, _, r, q, fun x env1 v G1 H1 r1 e1 p1 c1 => by
  cases x <;> first | exact c1.elim | skip
  rename_i bb
  cases (show v = _ from p1)
  refine ⟨_, rfl, ?_⟩
  cases bb with
  | false => exact ⟨B, G1, env1, R, r1, c1, fun d env' v G' H' r' x p c => k d env' v G' H' r' (e1.trans x) p c⟩
  | true => exact k (.bl true) env1 _ G1 H1 r1 e1 rfl c1⟩
variable {t u : DT}
theorem dt_pw (h : PWd X e t) : PTd X e t := PW.pt h
theorem dw_and1 (h : PTd X a t) : PWd X (.BoolOp .And [a] pos) t := pw_and1 h
theorem dw_or1 (h : PTd X a t) : PWd X (.BoolOp .Or [a] pos) t := pw_or1 h
theorem dw_and (ha : PTd X a t) (hb : PWd X (.BoolOp .And (b :: rest) pos) u) : PWd X (.BoolOp .And (a :: b :: rest) pos) (tAnd1 t u) := PW.imp' (pw_and ha hb) fun σ H Q ⟨B, G, env, R, r, q, k⟩ => ⟨B, G, env, _, r, q, fun bb env1 G1 H1 r1 e1 c1 => by
  cases bb with
  | true =>
    rw [if_pos rfl] at c1 ⊢
    exact ⟨B, G1, env1, R, r1, c1, fun d env' G' H' r' x c => k d env' G' H' r' (e1.trans x) c⟩
  | false =>
    rw [if_neg Bool.false_ne_true] at c1 ⊢
    exact k false env1 G1 H1 r1 e1 c1⟩
theorem dw_or (ha : PTd X a t) (hb : PWd X (.BoolOp .Or (b :: rest) pos) u) : PWd X (.BoolOp .Or (a :: b :: rest) pos) (tOr1 t u) := PW.imp' (pw_or ha hb) fun σ H Q ⟨B, G, env, R, r, q, k⟩ => ⟨B, G, env, _, r, q, fun bb env1 G1 H1 r1 e1 c1 => by
  cases bb with
  | false =>
    rw [if_neg Bool.false_ne_true] at c1 ⊢
    exact ⟨B, G1, env1, R, r1, c1, fun d env' G' H' r' x c => k d env' G' H' r' (e1.trans x) c⟩
  | true =>
    rw [if_pos rfl] at c1 ⊢
    exact k true env1 G1 H1 r1 e1 c1⟩
theorem dt_not (h : PTd X a t) : PTd X (.UnaryOp .Not a pos) (tNot1 t) := PT.imp' (pt_not h) fun σ H Q ⟨B, G, env, R, r, q, k⟩ => ⟨B, G, env, _, r, q, fun bb env1 G1 H1 r1 e1 c1 => k _ env1 G1 H1 r1 e1 c1⟩
theorem de_if (hc : PTd X c t) (ha : PEd X a da) (hb : PEd X b db) : PEd X (.IfExp c a b pos) (dIf t da db) := PE.imp' (pe_ifExp hc ha hb) fun σ H Q ⟨B, G, env, R, r, q, k⟩ => ⟨B, G, env, _, r, q, fun bb env1 G1 H1 r1 e1 c1 => by
  cases bb with
  | false =>
    rw [if_neg Bool.false_ne_true] at c1 ⊢
    exact ⟨B, G1, env1, R, r1, c1, fun d env' v G' H' r' x p c => k d env' v G' H' r' (e1.trans x) p c⟩
  | true =>
    rw [if_pos rfl] at c1 ⊢
    exact ⟨B, G1, env1, R, r1, c1, fun d env' v G' H' r' x p c => k d env' v G' H' r' (e1.trans x) p c⟩⟩
variable {es : List Expr} {ds : DA}
theorem da_nil : PAd X [] aNil := PA.imp' pa_nil fun σ H Q ⟨B, G, env, R, r, q, k⟩ => k [] env [] G H r (Same.refl G) rfl q
theorem da_cons (ha : PEd X a da) (hr : PAd X es ds) (hs : starEach (a :: es) X.env = (false, eval a X.env) :: starEach es X.env := by rfl) : PAd X (a :: es) (aCons da ds) := PA.imp' (pa_cons ha hr hs) fun σ H Q ⟨B, G, env, R, r, q, k⟩ =>
  ⟨B, G, env, _, r, q, fun x env1 v G1 H1 r1 e1 p1 c1 => ⟨B, G1, env1, _, r1, c1, fun xs env2 vs G2 H2 r2 e2 p2 c2 => k (x :: xs) env2 (v :: vs) G2 H2 r2 (e1.trans e2) ⟨v, vs, rfl, Rp.mono e2 _ _ p1, p2⟩ c2⟩⟩
theorem de_tup {x1 : Nat} (h : PAd X es ds) : PEd X (.Tuple es x1 pos) (dTup ds) := PE.imp' (pe_tup h) fun σ H Q ⟨B, G, env, R, r, q, k⟩ => ⟨B, G, env, _, r, q, fun xs env1 vs G1 H1 r1 e1 p1 c1 =>
  ⟨by rw [← Rps.len p1]; exact c1.1, fun p hp => k (.tup xs) env1 _ _ _ (r1.ext (Nw.new r1.sub hp)) (e1.trans (ex_new (free_of r1.sub hp))) (rp_tup c1.1 p1 (free_of r1.sub hp)) c1.2⟩⟩
theorem de_lst (h : PAd X es ds) : PEd X (.List es pos) (dLst ds) := PE.imp' (pe_lst h) fun σ H Q ⟨B, G, env, R, r, q, k⟩ => ⟨B, G, env, _, r, q, fun xs env1 vs G1 H1 r1 e1 p1 c1 =>
  ⟨by rw [← Rps.len p1]; exact c1.1, fun p hp => k (.lst xs) env1 _ _ _ (r1.ext (Nw.new r1.sub hp)) (e1.trans (ex_new (free_of r1.sub hp))) (rp_lst c1.1 p1 (free_of r1.sub hp)) c1.2⟩⟩
/-- a call of a built-in by values -/
theorem cb_ok {K : PySem.W.Frag} {g : GN} {σ : L2.St} {H : Hp} {Q : VK} (h : TEd K (dCB g ds) σ H Q) : tCB (RNd K g) (TAd K ds) σ H Q := by
  obtain ⟨B, G, env, R, r, q, k⟩ := h
  exact ⟨B, G, env, _, r, q, fun xs env1 vs G1 H1 r1 e1 p1 c1 => ⟨G1, xs, _, r1.sub, pd_imp (fun _ _ h => Rp.toS r1.sub h) (rps_iff.mp p1), c1, fun d v G2 H2 n p2 c2 => k d env1 v G2 H2 (r1.ext n) (e1.trans n.ex) p2 c2⟩⟩
theorem de_callB {x : Str} {id : String} {g : GN} (hc : CallD X (.builtin id) g) (hg : Gl X x) (hm : X.mg x = none) (hv : bootBuiltins x = some (.builtin id)) (ha : PAd X (e :: es) ds) (hn : x ≠ "__name__" := by decide) (hdb : (x == ("__debug__" : Str)) = false := by decide)
    (he : starEach (e :: es) X.env = (false, eval e X.env) :: starEach es X.env := by rfl) (hpl : (backTo pos (starEach es X.env)).any (·.1) = false := by rfl) : PEd X (.Call (.Name x p) (e :: es) [] pos) (dCB g ds) :=
  PE.imp' (pe_callB hc hg hm hv ha hn hdb he hpl) fun _ _ _ h => cb_ok h
theorem de_callTy {x : Str} {T : String} {g : GN} (hc : CallD X (.type T) g) (hg : Gl X x) (hm : X.mg x = none) (hv : bootBuiltins x = some (.type T)) (ha : PAd X (e :: es) ds) (hn : x ≠ "__name__" := by decide) (hdb : (x == ("__debug__" : Str)) = false := by decide)
    (he : starEach (e :: es) X.env = (false, eval e X.env) :: starEach es X.env := by rfl) (hpl : (backTo pos (starEach es X.env)).any (·.1) = false := by rfl) : PEd X (.Call (.Name x p) (e :: es) [] pos) (dCB g ds) :=
  PE.imp' (pe_callTy hc hg hm hv ha hn hdb he hpl) fun _ _ _ h => cb_ok h
theorem de_callBf {x : Str} {id : String} {g : GN} (hc : CallD X (.builtin id) g) (hg : Gl X x) (hm : X.mg x = some (.builtin id)) (ha : PAd X (e :: es) ds) (hdb : (x == ("__debug__" : Str)) = false := by decide)
    (he : starEach (e :: es) X.env = (false, eval e X.env) :: starEach es X.env := by rfl) (hpl : (backTo pos (starEach es X.env)).any (·.1) = false := by rfl) : PEd X (.Call (.Name x p) (e :: es) [] pos) (dCB g ds) :=
  PE.imp' (pe_callBfun hc hg hm ha hdb he hpl) fun _ _ _ h => cb_ok h
/-- one argument, an owned list's name or any expression -/
def TA1 (K : PySem.W.Frag) (de : DE) : TA := fun σ H Q => TEs K de σ H fun v H' => Q [v] H'
theorem pa1 (ha : PEs X a da) (hs : starEach [a] X.env = [(false, eval a X.env)] := by rfl) : PA X [a] (TA1 X.K da) := PA.imp' (pa_cons ha pa_nil hs) fun σ H Q h => h
theorem cb1_ok {K : PySem.W.Frag} {g : GN} {σ : L2.St} {H : Hp} {Q : VK} (h : TEd K (dCB g (aCons da aNil)) σ H Q) : tCB (RNd K g) (TA1 K da) σ H Q := by
  obtain ⟨B, G, env, R, r, q, k⟩ := h
  exact ⟨B, G, env, _, r, q, fun x env1 v G1 H1 r1 e1 p1 c1 => ⟨G1, [x], _, r1.sub, .cons p1 .nil, c1, fun d v G2 H2 n p2 c2 => k d env1 v G2 H2 (r1.ext n) (e1.trans n.ex) p2 c2⟩⟩
theorem de_callB1 {x : Str} {id : String} {g : GN} (hc : CallD X (.builtin id) g) (hg : Gl X x) (hm : X.mg x = none) (hv : bootBuiltins x = some (.builtin id)) (ha : PEs X e de) (hn : x ≠ "__name__" := by decide) (hdb : (x == ("__debug__" : Str)) = false := by decide)
    (he : starEach [e] X.env = [(false, eval e X.env)] := by rfl) : PEd X (.Call (.Name x p) [e] [] pos) (dCB g (aCons de aNil)) :=
  PE.imp' (pe_callB hc hg hm hv (pa1 ha he) hn hdb he rfl) fun _ _ _ h => cb1_ok h
theorem de_callTy1 {x : Str} {T : String} {g : GN} (hc : CallD X (.type T) g) (hg : Gl X x) (hm : X.mg x = none) (hv : bootBuiltins x = some (.type T)) (ha : PEs X e de) (hn : x ≠ "__name__" := by decide) (hdb : (x == ("__debug__" : Str)) = false := by decide)
    (he : starEach [e] X.env = [(false, eval e X.env)] := by rfl) : PEd X (.Call (.Name x p) [e] [] pos) (dCB g (aCons de aNil)) :=
  PE.imp' (pe_callTy hc hg hm hv (pa1 ha he) hn hdb he rfl) fun _ _ _ h => cb1_ok h
end
end FL

namespace FL
open PySem PySem.Spec PyProof.Rows L2

/-! ### built-ins by values -/
def intsOf : List D → Option (List Int)
  | [] => some []
  | .int i :: r => (intsOf r).map (i :: ·)
  | _ :: _ => none
def blsOf : List D → Option (List Bool)
  | [] => some []
  | .bl i :: r => (blsOf r).map (i :: ·)
  | _ :: _ => none
theorem intsOf_ints : ∀ ns : List Int, intsOf (ns.map D.int) = some ns
  | [] => rfl
  | n :: ns => by rw [List.map_cons, intsOf, intsOf_ints ns]; rfl
theorem blsOf_bls : ∀ ns : List Bool, blsOf (ns.map D.bl) = some ns
  | [] => rfl
  | n :: ns => by rw [List.map_cons, blsOf, blsOf_bls ns]; rfl
theorem intsOf_eq : ∀ {xs : List D} {ns : List Int}, intsOf xs = some ns → xs = ns.map D.int
  | [], ns, h => by cases h; rfl
  | .int i :: r, ns, h => by
    rw [intsOf] at h
    cases e : intsOf r with
    | none => rw [e] at h; cases h
    | some ms => rw [e] at h; cases h; rw [List.map_cons, ← intsOf_eq e]
  | .non :: r, ns, h => by cases h
  | .bl _ :: r, ns, h => by cases h
  | .str _ :: r, ns, h => by cases h
  | .tup _ :: r, ns, h => by cases h
  | .lst _ :: r, ns, h => by cases h
  | .raw _ :: r, ns, h => by cases h
theorem blsOf_eq : ∀ {xs : List D} {ns : List Bool}, blsOf xs = some ns → xs = ns.map D.bl
  | [], ns, h => by cases h; rfl
  | .bl i :: r, ns, h => by
    rw [blsOf] at h
    cases e : blsOf r with
    | none => rw [e] at h; cases h
    | some ms => rw [e] at h; cases h; rw [List.map_cons, ← blsOf_eq e]
  | .non :: r, ns, h => by cases h
  | .int _ :: r, ns, h => by cases h
  | .str _ :: r, ns, h => by cases h
  | .tup _ :: r, ns, h => by cases h
  | .lst _ :: r, ns, h => by cases h
  | .raw _ :: r, ns, h => by cases h
theorem ints_rp {K : PySem.W.Frag} {G : Hp} : ∀ {ns : List Int} {vs : List V}, Paired (Rp K G) (ns.map D.int) vs → vs = ns.map V.int
  | [], _, .nil => rfl
  | n :: ns, _, .cons h t => by rw [List.map_cons, ← ints_rp t, (show _ = V.int n from h)]
theorem bls_rp {K : PySem.W.Frag} {G : Hp} : ∀ {ns : List Bool} {vs : List V}, Paired (Rp K G) (ns.map D.bl) vs → vs = ns.map V.bl
  | [], _, .nil => rfl
  | n :: ns, _, .cons h t => by rw [List.map_cons, ← bls_rp t, (show _ = V.bl n from h)]
def g1 (f : D → (D → Prop) → Prop) : GN := fun xs R => match xs with
  | [x] => f x R
  | _ => False
def gLen : GN := g1 fun x R => match itemsOf x with
  | some xs => R (.int xs.length)
  | none => False
def gInt1 : GN := g1 fun x R => match x with
  | .int i => R (.int i)
  | .bl b => R (.int (if b then 1 else 0))
  | _ => False
def gAbs : GN := g1 fun x R => match x with
  | .int i => R (.int (if i < 0 then -i else i))
  | _ => False
def g2i (f : Int → Int → Int) : GN := fun xs R => match xs with
  | [.int i, .int j] => R (.int (f i j))
  | _ => False
def gMax2 : GN := g2i fun i j => if j > i then j else i
def gMin2 : GN := g2i fun i j => if j < i then j else i
def gGcd : GN := g2i fun i j => ((Nat.gcd i.natAbs j.natAbs : Nat) : Int)
def gInts (f : List Int → (D → Prop) → Prop) : GN := g1 fun x R => match itemsOf x with
  | some xs => (match intsOf xs with | some ns => f ns R | none => False)
  | none => False
def gSum : GN := gInts fun ns R => R (.int ns.sum)
def gMax1 : GN := gInts fun ns R => 0 < ns.length ∧ ∀ m, m ∈ ns → (∀ y, y ∈ ns → y ≤ m) → R (.int m)
def gMin1 : GN := gInts fun ns R => 0 < ns.length ∧ ∀ m, m ∈ ns → (∀ y, y ∈ ns → m ≤ y) → R (.int m)
def gBls (f : List Bool → Bool) : GN := g1 fun x R => match x with
  | .lst xs => (match blsOf xs with | some bs => R (.bl (f bs)) | none => False)
  | _ => False
def gAll : GN := gBls fun bs => bs.all id
def gAny : GN := gBls fun bs => bs.any id
def gTuple : GN := g1 fun x R => match itemsOf x with
  | some xs => R (.tup xs)
  | none => False
def gList : GN := g1 fun x R => match itemsOf x with
  | some xs => R (.lst xs)
  | none => False
def tyOfD : D → Option String
  | .non => some "NoneType"
  | .bl _ => some "bool"
  | .int _ => some "int"
  | .str _ => some "str"
  | .tup _ => some "tuple"
  | _ => none
def gIsi (T : String) : GN := fun xs R => match xs with
  | [x, .raw (.ty U)] => U = T ∧ (match tyOfD x with | some t => (match kitB t T with | some b => R (.bl b) | none => False) | none => False)
  | _ => False
section
variable {X : Cx}
theorem paired1 {F : D → V → Prop} {x : D} {vs : List V} (h : Paired F [x] vs) : ∃ v, vs = [v] ∧ F x v := by
  cases h with
  | cons h t => cases t; exact ⟨_, rfl, h⟩
theorem paired2 {F : D → V → Prop} {x y : D} {vs : List V} (h : Paired F [x, y] vs) : ∃ v w, vs = [v, w] ∧ F x v ∧ F y w := by
  cases h with
  | cons h t => cases t with | cons h' t' => cases t'; exact ⟨_, _, rfl, h, h'⟩
/-- a one-place built-in over an int or bool .. -/
theorem call1 {f : Value} {g : D → (D → Prop) → Prop} {r : List V → Hp → VK → Prop} (hc : CallR X f r)
    (h : ∀ G H x v R Q, Ex G H → RpS X.K G H x v → g x R → (∀ d w G' H', Nw G H G' H' → Rp X.K G' d w → R d → Q w H') → r [v] H Q) : CallD X f (g1 g) := CallR.back hc fun xs H Q ⟨G, ds, R, s, hp, g, k⟩ => by
  unfold g1 at g
  split at g
  · obtain ⟨v, rfl, hv⟩ := paired1 hp
    exact h G H _ v R Q s hv g k
  · exact g.elim
theorem cd_len : CallD X (.builtin "len") gLen := call1 call_len_seq fun G H x v R Q s hv g k => by
  cases e : itemsOf x with
  | none => rw [e] at g; exact g.elim
  | some xs =>
    rw [e] at g
    obtain ⟨a, vs, rfl, hs, hz, hp⟩ := items_rpS s e hv
    refine ⟨a, vs, rfl, hs, ?_⟩
    rw [← hp.length]
    exact k (.int _) _ G H (Nw.refl s) rfl g
theorem cd_int1 : CallD X (.type "int") gInt1 := call1 call_int1 fun G H x v R Q s hv g k => by
  cases x <;> first | exact g.elim | skip
  · cases (show v = _ from hv); exact .inr ⟨_, rfl, k (.int _) _ G H (Nw.refl s) rfl g⟩
  · cases (show v = _ from hv); exact .inl ⟨_, rfl, k (.int _) _ G H (Nw.refl s) rfl g⟩
theorem cd_abs : CallD X (.builtin "abs") gAbs := call1 call_abs fun G H x v R Q s hv g k => by
  cases x <;> first | exact g.elim | skip
  cases (show v = _ from hv)
  exact ⟨_, rfl, k (.int _) _ G H (Nw.refl s) rfl g⟩
theorem call2i {f : Value} {h : Int → Int → Int} {r : List V → Hp → VK → Prop} (hc : CallR X f r) (hr : ∀ i j H (Q : VK), Q (.int (h i j)) H → r [.int i, .int j] H Q) : CallD X f (g2i h) := CallR.back hc fun xs H Q ⟨G, ds, R, s, hp, g, k⟩ => by
  unfold g2i at g
  split at g
  · obtain ⟨v, w, rfl, hv, hw⟩ := paired2 hp
    cases (show v = _ from hv)
    cases (show w = _ from hw)
    exact hr _ _ _ _ (k (.int _) _ G H (Nw.refl s) rfl g)
  · exact g.elim
theorem cd_max2 (hc : X.calm = true) : CallD X (.builtin "max") gMax2 := call2i (call_max2 hc) fun i j H Q q => ⟨i, j, rfl, q⟩
theorem cd_min2 (hc : X.calm = true) : CallD X (.builtin "min") gMin2 := call2i (call_min2 hc) fun i j H Q q => ⟨i, j, rfl, q⟩
theorem cd_gcd : CallD X (.builtin "math.gcd") gGcd := call2i cr_gcd fun i j H Q q => ⟨i, j, rfl, q⟩
/-- over the ints of a list or tuple -/
theorem callInts {f : Value} {g : List Int → (D → Prop) → Prop} {r : List V → Hp → VK → Prop} (hc : CallR X f r)
    (h : ∀ G H a ns R Q, Ex G H → (SqL X.K H a (ns.map V.int) ∨ SqT X.K H a (ns.map V.int)) → g ns R → (∀ i, R (.int i) → Q (.int i) H) → r [.ref a] H Q) : CallD X f (gInts g) := call1 hc fun G H x v R Q s hv g k => by
  cases e : itemsOf x with
  | none => rw [e] at g; exact g.elim
  | some xs =>
    rw [e] at g
    simp only at g
    cases e2 : intsOf xs with
    | none => rw [e2] at g; exact g.elim
    | some ns =>
      rw [e2] at g
      obtain ⟨a, vs, rfl, hs, hz, hp⟩ := items_rpS s e hv
      have e3 := intsOf_eq e2
      subst e3
      have e4 := ints_rp hp
      subst e4
      exact h G H a ns R Q s hs g fun i hi => k (.int i) _ G H (Nw.refl s) rfl hi
def rSumA (K : PySem.W.Frag) : List V → Hp → VK → Prop := fun vs H Q => ∃ (a : Addr) (ns : List Int), vs = [V.ref a] ∧ SqT K H a (ns.map V.int) ∧ Q (.int ns.sum) H
theorem cr_sumT (hc : X.calm = true) : CallR X (.builtin "sum") (rSumA X.K) := by
  intro pins s σ H vs us Q I r h
  obtain ⟨a, ns, rfl, hs, q⟩ := h
  have eu := Vals.ref1 r
  subst eu
  obtain ⟨its, rv, pl, hz⟩ := I.tuple hs
  have hi : IntsAre its ns := intsAre_of rv
  obtain ⟨xs, e⟩ := hi.allInts.items
  have hn : numsOf (intItems xs).toList = ns := by rw [← e]; exact hi.numsOf
  rw [nums_intItems] at hn
  rw [e] at pl
  refine PySem.W.ktm_sumG (I.ok.hd hc) (show s.heap.IsTuple a (intItems xs) from pl) fun h' tk t' hk => ?_
  rw [preSum_eq, List.take_of_length_le (by simp), hn]
  exact ⟨.int _, H, I.kept hk, ⟨_, rfl⟩, q⟩
theorem cd_sum (hc : X.calm = true) : CallD X (.builtin "sum") gSum := callInts ((cr_sum hc).or (cr_sumT hc)) fun G H a ns R Q s hs g k => by
  rcases hs with hs | hs
  · exact .inl ⟨a, ns, rfl, hs, k _ g⟩
  · exact .inr ⟨a, ns, rfl, hs, k _ g⟩
def rMaxT (K : PySem.W.Frag) : List V → Hp → VK → Prop := fun vs H Q => ∃ (a : Addr) (ns : List Int), vs = [V.ref a] ∧ SqT K H a (ns.map V.int) ∧ 0 < ns.length ∧ ∀ m, m ∈ ns → (∀ y, y ∈ ns → y ≤ m) → Q (.int m) H
def rMinT (K : PySem.W.Frag) : List V → Hp → VK → Prop := fun vs H Q => ∃ (a : Addr) (ns : List Int), vs = [V.ref a] ∧ SqT K H a (ns.map V.int) ∧ 0 < ns.length ∧ ∀ m, m ∈ ns → (∀ y, y ∈ ns → m ≤ y) → Q (.int m) H
theorem alike_ints : ∀ ns : List Int, PySem.W.AlikeAll (ns.map PyData.int) := fun ns => ⟨fun x hx y hy => by
  obtain ⟨i, _, rfl⟩ := List.mem_map.mp hx
  obtain ⟨j, _, rfl⟩ := List.mem_map.mp hy
  rfl, fun x hx => by
  obtain ⟨i, _, rfl⟩ := List.mem_map.mp hx
  intro z; cases z⟩
theorem depthAll_ints : ∀ ns : List Int, PyData.depthAll (ns.map PyData.int) = 0
  | [] => rfl
  | n :: ns => by
    rw [List.map_cons, PyData.depthAll, depthAll_ints ns]
    rfl
theorem fold_max : ∀ (ns : List Int) (n : Int), n ≤ ns.foldl max n ∧ (∀ y ∈ ns, y ≤ ns.foldl max n) ∧ (ns.foldl max n = n ∨ ns.foldl max n ∈ ns)
  | [], n => ⟨Int.le_refl _, fun y h => (by cases h), .inl rfl⟩
  | m :: ns, n => by
    obtain ⟨h1, h2, h3⟩ := fold_max ns (max n m)
    show n ≤ ns.foldl max (max n m) ∧ (∀ y ∈ m :: ns, y ≤ ns.foldl max (max n m)) ∧ (ns.foldl max (max n m) = n ∨ ns.foldl max (max n m) ∈ m :: ns)
    refine ⟨by omega, fun y hy => ?_, ?_⟩
    · rcases List.mem_cons.mp hy with rfl | hy
      · omega
      · exact h2 y hy
    · rcases h3 with h3 | h3
      · by_cases c : n ≤ m
        · exact .inr (List.mem_cons.mpr (.inl (by omega)))
        · exact .inl (by omega)
      · exact .inr (List.mem_cons_of_mem _ h3)
theorem fold_min : ∀ (ns : List Int) (n : Int), ns.foldl min n ≤ n ∧ (∀ y ∈ ns, ns.foldl min n ≤ y) ∧ (ns.foldl min n = n ∨ ns.foldl min n ∈ ns)
  | [], n => ⟨Int.le_refl _, fun y h => (by cases h), .inl rfl⟩
  | m :: ns, n => by
    obtain ⟨h1, h2, h3⟩ := fold_min ns (min n m)
    show ns.foldl min (min n m) ≤ n ∧ (∀ y ∈ m :: ns, ns.foldl min (min n m) ≤ y) ∧ (ns.foldl min (min n m) = n ∨ ns.foldl min (min n m) ∈ m :: ns)
    refine ⟨by omega, fun y hy => ?_, ?_⟩
    · rcases List.mem_cons.mp hy with rfl | hy
      · omega
      · exact h2 y hy
    · rcases h3 with h3 | h3
      · by_cases c : n ≤ m
        · exact .inl (by omega)
        · exact .inr (List.mem_cons.mpr (.inl (by omega)))
      · exact .inr (List.mem_cons_of_mem _ h3)
theorem readsAll_ints {h : Heap} : ∀ {its : List Value} {ns : List Int}, IntsAre its ns → ∃ as, ReadsAll h its (ns.map PyData.int) as := fun {its} => by
  induction its with
  | nil => intro ns h; cases h; exact ⟨_, ReadsAll.nil⟩
  | cons v vs ih =>
    intro ns h
    cases h with
    | cons n t h1 =>
      obtain ⟨as, r⟩ := ih h1
      exact ⟨_, ReadsAll.cons (Reads.int _ _) r⟩
theorem cr_maxT (hc : X.calm = true) (hu : X.A.units + 64 < cLine) : CallR X (.builtin "max") (rMaxT X.K) := by
  intro pins s σ H vs us Q I r h
  obtain ⟨a, ns, rfl, hs, hne, q⟩ := h
  have eu := Vals.ref1 r
  subst eu
  obtain ⟨its, rv, pl, hz⟩ := I.tuple hs
  have hi : IntsAre its ns := intsAre_of rv
  cases ns with
  | nil => exact absurd hne (Nat.lt_irrefl _)
  | cons n ns =>
    obtain ⟨as, ra⟩ := readsAll_ints (h := s.heap) hi
    rw [List.map_cons] at ra
    have al := alike_ints (n :: ns)
    rw [List.map_cons] at al
    have hd := depthAll_ints (n :: ns)
    rw [List.map_cons] at hd
    refine PySem.W.max_tuple_data (vs := its.toArray) (I.ok.hd hc) pl ra al (by rw [hd]; omega) fun i v h' tk bs hv hr hk => ?_
    rw [PySem.W.maxD_ints] at hr
    cases hr
    obtain ⟨h1, h2, h3⟩ := fold_max ns n
    refine ⟨.int _, H, I.kept hk, ⟨_, rfl⟩, q _ ?_ fun y hy => ?_⟩
    · rcases h3 with h3 | h3
      · rw [h3]; exact List.mem_cons_self
      · exact List.mem_cons_of_mem _ h3
    · rcases List.mem_cons.mp hy with rfl | hy
      · exact h1
      · exact h2 y hy
theorem cr_minT (hc : X.calm = true) (hu : X.A.units + 64 < cLine) : CallR X (.builtin "min") (rMinT X.K) := by
  intro pins s σ H vs us Q I r h
  obtain ⟨a, ns, rfl, hs, hne, q⟩ := h
  have eu := Vals.ref1 r
  subst eu
  obtain ⟨its, rv, pl, hz⟩ := I.tuple hs
  have hi : IntsAre its ns := intsAre_of rv
  cases ns with
  | nil => exact absurd hne (Nat.lt_irrefl _)
  | cons n ns =>
    obtain ⟨as, ra⟩ := readsAll_ints (h := s.heap) hi
    rw [List.map_cons] at ra
    have al := alike_ints (n :: ns)
    rw [List.map_cons] at al
    have hd := depthAll_ints (n :: ns)
    rw [List.map_cons] at hd
    refine PySem.W.min_tuple_data (vs := its.toArray) (I.ok.hd hc) pl ra al (by rw [hd]; omega) fun i v h' tk bs hv hr hk => ?_
    rw [PySem.W.minD_ints] at hr
    cases hr
    obtain ⟨h1, h2, h3⟩ := fold_min ns n
    refine ⟨.int _, H, I.kept hk, ⟨_, rfl⟩, q _ ?_ fun y hy => ?_⟩
    · rcases h3 with h3 | h3
      · rw [h3]; exact List.mem_cons_self
      · exact List.mem_cons_of_mem _ h3
    · rcases List.mem_cons.mp hy with rfl | hy
      · exact h1
      · exact h2 y hy
theorem cd_max1 (hc : X.calm = true) (hu : X.A.units + 64 < cLine) : CallD X (.builtin "max") gMax1 := callInts ((cr_max hc).or (cr_maxT hc hu)) fun G H a ns R Q s hs g k => by
  rcases hs with hs | hs
  · exact .inl ⟨a, ns, rfl, hs, g.1, fun m h1 h2 => k _ (g.2 m h1 h2)⟩
  · exact .inr ⟨a, ns, rfl, hs, g.1, fun m h1 h2 => k _ (g.2 m h1 h2)⟩
theorem cd_min1 (hc : X.calm = true) (hu : X.A.units + 64 < cLine) : CallD X (.builtin "min") gMin1 := callInts ((cr_min hc).or (cr_minT hc hu)) fun G H a ns R Q s hs g k => by
  rcases hs with hs | hs
  · exact .inl ⟨a, ns, rfl, hs, g.1, fun m h1 h2 => k _ (g.2 m h1 h2)⟩
  · exact .inr ⟨a, ns, rfl, hs, g.1, fun m h1 h2 => k _ (g.2 m h1 h2)⟩
theorem callBls {f : Value} {h : List Bool → Bool} {r : List V → Hp → VK → Prop} (hc : CallR X f r) (hr : ∀ a bs H Q, SqL X.K H a (bs.map V.bl) → Q (.bl (h bs)) H → r [.ref a] H Q) : CallD X f (gBls h) := call1 hc fun G H x v R Q s hv g k => by
  cases x <;> first | exact g.elim | skip
  rename_i xs
  simp only at g
  cases e2 : blsOf xs with
  | none => rw [e2] at g; exact g.elim
  | some bs =>
    rw [e2] at g
    obtain ⟨a, vs, rfl, hs, hz, hp⟩ := hv
    have e3 := blsOf_eq e2
    subst e3
    have e4 := bls_rp (rps_iff.mp hp)
    subst e4
    exact hr a bs H Q hs (k (.bl _) _ G H (Nw.refl s) rfl g)
theorem cd_all (hc : X.calm = true) : CallD X (.builtin "all") gAll := callBls (cr_all hc) fun a bs H Q hs q => ⟨a, bs, rfl, hs, q⟩
theorem cd_any (hc : X.calm = true) : CallD X (.builtin "any") gAny := callBls (cr_any hc) fun a bs H Q hs q => ⟨a, bs, rfl, hs, q⟩
theorem cd_tuple : CallD X (.type "tuple") gTuple := call1 call_tuple_of fun G H x v R Q s hv g k => by
  cases x <;> first | exact g.elim | skip
  · obtain ⟨a, vs, rfl, h1, h2, h3⟩ := id hv
    exact ⟨a, vs, rfl, .inr ⟨ex_t s h1, k (.tup _) _ G H (Nw.refl s) hv g⟩⟩
  · obtain ⟨a, vs, rfl, h1, h2, h3⟩ := hv
    exact ⟨a, vs, rfl, .inl ⟨h1, fun p hp => k (.tup _) _ _ _ (Nw.new s hp) (rp_tup h2 h3 (free_of s hp)) g⟩⟩
theorem cd_list : CallD X (.type "list") gList := call1 call_list_of fun G H x v R Q s hv g k => by
  cases e : itemsOf x with
  | none => rw [e] at g; exact g.elim
  | some xs =>
    rw [e] at g
    obtain ⟨a, vs, rfl, hs, hz, hp⟩ := items_rpS s e hv
    exact ⟨a, vs, rfl, hs, fun p hp' => k (.lst _) _ _ _ (Nw.new s hp') (rp_lst hz (rps_iff.mpr hp) (free_of s hp')) g⟩
theorem ty_rp {K : PySem.W.Frag} {G H : Hp} {x : D} {v : V} {t : String} (s : Ex G H) (e : tyOfD x = some t) (h : RpS K G H x v) : TyX K H v (.type t) := by
  cases x <;> first | cases e | skip
  · cases (show v = _ from h); exact .base .non
  · cases (show v = _ from h); exact .base (.bl _)
  · cases (show v = _ from h); exact .base (.int _)
  · cases (show v = _ from h); exact .base (.str _)
  · obtain ⟨a, vs, rfl, h1, h2, h3⟩ := h
    rcases h1 with (h1 | ⟨o, h1⟩) | ⟨o, its, n, h1, hc, _⟩
    · exact .base (.tup (s _ _ h1))
    · exact .fTuple (s _ _ h1)
    · exact .kTuple h1 hc
theorem cd_isi {T : String} : CallD X (.builtin "isinstance") (gIsi T) := CallR.back call_isi fun xs H Q ⟨G, ds, R, s, hp, g, k⟩ => by
  unfold gIsi at g
  split at g
  · rename_i x U
    obtain ⟨v, w, rfl, hv, hw⟩ := paired2 hp
    cases (show w = _ from hw)
    obtain ⟨rfl, g⟩ := g
    split at g
    · rename_i t e
      split at g
      · rename_i b e2
        exact ⟨v, .ty U, .type t, .type U, b, rfl, .ty U, ty_rp s e hv, kit_ty e2, k (.bl b) _ G H (Nw.refl s) rfl g⟩
      · exact g.elim
    · exact g.elim
  · exact g.elim
end
section
variable {X : Cx} {x : Str} {pos : Pos}
/-- a built-in type's name as a value -/
theorem de_ty {T : String} (hg : Gl X x) (hm : X.mg x = none) (hv : bootBuiltins x = some (.type T)) (hn : x ≠ "__name__" := by decide) (hd : (x == ("__debug__" : Str)) = false := by decide) : PEd X (.Name x pos) (dC (.raw (.ty T))) :=
  de_c (pe_bltn (v := .ty T) hg hm hv rfl hn hd) fun _ _ => rfl
end

/-! ### slices -/
def cutD (xs : List D) (lo hi : Option Int) : List D := (xs.drop (HT.sIx xs.length 0 lo)).take (HT.sIx xs.length xs.length hi - HT.sIx xs.length 0 lo)
abbrev DO := SEnv → (Option Int → SEnv → Prop) → Prop
def oNone : DO := fun env R => R none env
def oSome (da : DE) : DO := fun env R => da env fun x env1 => match x with
  | .int i => R (some i) env1
  | _ => False
def dSlice (da : DE) (lo hi : DO) : DE := fun env R => da env fun x env1 => lo env1 fun l env2 => hi env2 fun h env3 => match x with
  | .tup xs => R (.tup (cutD xs l h)) env3
  | .lst xs => R (.lst (cutD xs l h)) env3
  | _ => False
def TOd (K : PySem.W.Frag) (da : DO) : TO := fun σ H Q => ∃ B G env R, SRep K B G H σ env ∧ da env R ∧ ∀ o env' G' H', SRep K B G' H' σ env' → Ex G G' → R o env' → Q o H'
def POd (X : Cx) (e : Option Expr) (da : DO) : Prop := PO X e (TOd X.K da)
section
variable {X : Cx} {e : Expr} {da : DE} {lo hi : Option Expr} {dl dh : DO} {pos p2 : Pos}
theorem PO.imp' {e : Option Expr} {t t' : TO} (h : PO X e t) (i : ∀ σ H Q, t' σ H Q → t σ H Q) : PO X e t' := ⟨fun pins s σ H Q I q => h.run pins s σ H Q I (i σ H Q q)⟩
theorem do_none : POd X none oNone := PO.imp' po_none fun σ H Q ⟨B, G, env, R, r, q, k⟩ => k none env G H r (Same.refl G) q
theorem do_some (h : PEd X e da) : POd X (some e) (oSome da) := PO.imp' (po_some h) fun σ H Q ⟨B, G, env, R, r, q, k⟩ => ⟨B, G, env, _, r, q, fun x env1 v G1 H1 r1 e1 p1 c1 => by
  cases x <;> first | exact c1.elim | skip
  cases (show v = _ from p1)
  exact ⟨_, rfl, k _ env1 G1 H1 r1 e1 c1⟩⟩
theorem cut_len (xs : List D) (lo hi : Option Int) : (cutD xs lo hi).length ≤ xs.length := by
  unfold cutD
  rw [List.length_take, List.length_drop]
  omega
theorem cut_rp {K : PySem.W.Frag} {G : Hp} {xs : List D} {vs : List V} {lo hi : Option Int} (h : Rps K G xs vs) : Rps K G (cutD xs lo hi) (cutV vs lo hi) := by
  unfold cutD cutV
  rw [← Rps.len h]
  exact rps_iff.mpr (pd_take _ (pd_drop _ (rps_iff.mp h)))
theorem cut_whole {xs : List V} {lo hi : Option Int} (h : HT.sIx xs.length 0 lo = 0 ∧ HT.sIx xs.length xs.length hi = xs.length) : cutV xs lo hi = xs := by
  unfold cutV
  rw [h.1, h.2, List.drop_zero, Nat.sub_zero, List.take_length]
theorem de_slice (he : PEd X e da) (hl : POd X lo dl) (hh : POd X hi dh) : PEd X (.Subscript e (.Slice lo hi none p2) pos) (dSlice da dl dh) := PE.imp' (pe_slice (sl_tupA.or sl_list) he hl hh) fun σ H Q ⟨B, G, env, R, r, q, k⟩ =>
  ⟨B, G, env, _, r, q, fun x env1 v G1 H1 r1 e1 p1 c1 => ⟨B, G1, env1, _, r1, c1, fun l env2 G2 H2 r2 e2 c2 => ⟨B, G2, env2, _, r2, c2, fun h env3 G3 H3 r3 e3 c3 => by
    have p3 : Rp X.K G3 x v := Rp.mono (e2.trans e3) _ _ p1
    have ee := e1.trans (e2.trans e3)
    cases x <;> first | exact c3.elim | skip
    · obtain ⟨a, vs, rfl, h1, h2, h3⟩ := p3
      refine .inl ⟨a, vs, rfl, ex_t r3.sub h1, fun w => ?_, fun w p hp => ?_⟩
      · refine k (.tup _) env3 _ G3 H3 r3 ee ⟨a, cutV vs l h, rfl, ?_, Nat.le_trans (cut_len _ _ _) h2, cut_rp h3⟩ c3
        rw [cut_whole w]; exact h1
      · exact k (.tup _) env3 _ _ _ (r3.ext (Nw.new r3.sub hp)) (ee.trans (ex_new (free_of r3.sub hp))) (rp_tup (Nat.le_trans (cut_len _ _ _) h2) (cut_rp h3) (free_of r3.sub hp)) c3
    · obtain ⟨a, vs, rfl, h1, h2, h3⟩ := p3
      exact .inr ⟨a, vs, rfl, r3.sub.seq h1, fun p hp => k (.lst _) env3 _ _ _ (r3.ext (Nw.new r3.sub hp)) (ee.trans (ex_new (free_of r3.sub hp))) (rp_lst (Nat.le_trans (cut_len _ _ _) h2) (cut_rp h3) (free_of r3.sub hp)) c3⟩⟩⟩⟩
end
end FL

namespace FL
open PySem PySem.Spec PyProof.Rows L2

/-! ### targets -/
inductive Pat where
  | nm (i : Nat) | tp (ps : List Pat)
mutual
def patSet : Pat → D → SEnv → Option SEnv
  | .nm i, d, env => if canSet env i = true then some (env.set i (.fz d)) else none
  | .tp ps, .tup xs, env => patSets ps xs env
  | .tp _, _, _ => none
def patSets : List Pat → List D → SEnv → Option SEnv
  | [], [], env => some env
  | p :: ps, x :: xs, env => (match patSet p x env with | some env1 => patSets ps xs env1 | none => none)
  | _, _, _ => none
end
mutual
def Pat.inB (vs : List Nat) : Pat → Bool
  | .nm i => vs.contains i
  | .tp ps => Pat.insB vs ps
def Pat.insB (vs : List Nat) : List Pat → Bool
  | [] => true
  | p :: ps => p.inB vs && Pat.insB vs ps
end
section
variable (K : PySem.W.Frag)
def TGd (p : Pat) : TG := fun v σ H Q => ∃ B G env d env2, SRep K B G H σ env ∧ Rp K G d v ∧ patSet p d env = some env2 ∧ ∀ σ', SRep K B G H σ' env2 → (∀ vs, p.inB vs = true → wipe σ' vs = wipe σ vs) → Q σ' H
def TGsd (ps : List Pat) : TGs := fun us σ H Q => ∃ B G env ds env2, SRep K B G H σ env ∧ Rps K G ds us ∧ patSets ps ds env = some env2 ∧ ∀ σ', SRep K B G H σ' env2 → (∀ vs, Pat.insB vs ps = true → wipe σ' vs = wipe σ vs) → Q σ' H
end
def PGd (X : Cx) (tg : Expr) (p : Pat) : Prop := PG X tg (TGd X.K p)
def PGsd (X : Cx) (ts : List Expr) (ps : List Pat) : Prop := PGs X ts (TGsd X.K ps)
theorem PG.imp' {X : Cx} {e : Expr} {t t' : TG} (h : PG X e t) (i : ∀ v σ H Q, t' v σ H Q → t v σ H Q) : PG X e t' := ⟨fun pins s σ H v u Q I r q => h.run pins s σ H v u Q I r (i v σ H Q q)⟩
theorem PGs.imp' {X : Cx} {e : List Expr} {t t' : TGs} (h : PGs X e t) (i : ∀ v σ H Q, t' v σ H Q → t v σ H Q) : PGs X e t' := ⟨fun pins s σ H v u Q I r q => h.run pins s σ H v u Q I r (i v σ H Q q)⟩
theorem wipe_set {σ : L2.St} {i : Nat} {o : Option V} : ∀ {vs : List Nat}, i ∈ vs → wipe (σ.set i o) vs = wipe σ vs
  | [], h => by cases h
  | v :: vs, h => by
    unfold wipe
    by_cases e : i ∈ vs
    · rw [wipe_set e]
    · have ev : i = v := by rcases List.mem_cons.mp h with h | h; exact h; exact absurd h e
      subst ev
      have : ∀ (ws : List Nat) (τ : L2.St), i ∉ ws → wipe (τ.set i o) ws = (wipe τ ws).set i o := by
        intro ws
        induction ws with
        | nil => intro τ _; rfl
        | cons w ws ih =>
          intro τ hn
          have h1 : i ≠ w := fun z => hn (by simp [z])
          have h2 : i ∉ ws := fun z => hn (List.mem_cons_of_mem _ z)
          unfold wipe
          rw [ih τ h2, List.set_comm _ _ h1]
      rw [this vs σ e, List.set_set]
section
variable {X : Cx} {e : Expr} {pos : Pos}
theorem pgd_nm {i : Nat} {x : Str} (h : PG X (.Name x pos) (gName i)) : PGd X (.Name x pos) (.nm i) := PG.imp' h fun v σ H Q ⟨B, G, env, d, env2, r, hv, hp, k⟩ => by
  unfold patSet at hp
  split at hp
  · rename_i hc
    cases hp
    exact k _ (r.setD hc hv) fun vs hi => wipe_set (by
      have hi' : vs.contains i = true := hi
      exact List.contains_iff_mem.mp hi')
  · cases hp
theorem pgsd_nil : PGsd X [] [] := PGs.imp' pgs_nil fun v σ H Q ⟨B, G, env, ds, env2, r, hv, hp, k⟩ => by
  cases ds with
  | nil =>
    cases hp
    exact ⟨hv, k σ r fun _ _ => rfl⟩
  | cons d ds => cases hp
theorem pgsd_cons {es : List Expr} {p : Pat} {ps : List Pat} (h1 : PGd X e p) (h2 : PGsd X es ps) (hs : (assignEach (e :: es) X.env).map (·.2) = assign e X.env :: (assignEach es X.env).map (·.2) := by rfl) : PGsd X (e :: es) (p :: ps) := PGs.imp' (pgs_cons h1 h2 hs) fun v σ H Q ⟨B, G, env, ds, env2, r, hv, hp, k⟩ => by
  cases ds with
  | nil => cases hp
  | cons d ds =>
    unfold patSets at hp
    obtain ⟨v1, vr, rfl, hv1, hvr⟩ := hv
    cases e1 : patSet p d env with
    | none => rw [e1] at hp; cases hp
    | some env1 =>
      rw [e1] at hp
      refine ⟨v1, vr, rfl, B, G, env, d, env1, r, hv1, e1, fun σ' r' w' => ⟨B, G, env1, ds, env2, r', hvr, hp, fun σ2 r2 w2 => k σ2 r2 fun vs hi => ?_⟩⟩
      have hi' : (p.inB vs && Pat.insB vs ps) = true := hi
      rw [Bool.and_eq_true] at hi'
      rw [w2 vs hi'.2, w' vs hi'.1]
theorem pats_len : ∀ {ps : List Pat} {ds : List D} {env env2 : SEnv}, patSets ps ds env = some env2 → ds.length = ps.length
  | [], [], _, _, _ => rfl
  | [], _ :: _, _, _, h => by cases h
  | _ :: _, [], _, _, h => by cases h
  | p :: ps, d :: ds, env, env2, h => by
    unfold patSets at h
    cases e1 : patSet p d env with
    | none => rw [e1] at h; cases h
    | some env1 =>
      rw [e1] at h
      rw [List.length_cons, List.length_cons, pats_len h]
theorem pgd_tp {es : List Expr} {k : Nat} {ps : List Pat} (hc : X.calm = true) (h : PGsd X es ps) (hn : (assignEach es X.env).length = ps.length := by rfl) (hst : (assignEach es X.env).findIdx? (·.1) = none := by rfl) : PGd X (.Tuple es k pos) (.tp ps) :=
  PG.imp' (pg_tup hc h hn hst) fun v σ H Q ⟨B, G, env, d, env2, r, hv, hp, k⟩ => by
    cases d <;> first | (cases hp; done) | skip
    all_goals unfold patSet at hp
    all_goals first | (cases hp; done) | skip
    obtain ⟨a, vs, rfl, h1, h2, h3⟩ := hv
    exact ⟨a, vs, rfl, ex_t r.sub h1, by rw [← Rps.len h3]; exact pats_len hp, B, G, env, _, env2, r, h3, hp, k⟩
end

/-! ### what is walked -/
structure ItD (K : PySem.W.Frag) (J : It) (G0 : Hp) (items : List D) : Prop where
  stop : ∀ G H, Ex G0 G → Ex G H → J.stop items.length H
  go : ∀ (i : Nat) G H, Ex G0 G → Ex G H → i < items.length → J.go i H
  yld : ∀ (i : Nat) G H v H', Ex G0 G → Ex G H → i < items.length → J.yld i H v H' → ∃ G' d, Nw G H G' H' ∧ items[i]? = some d ∧ Rp K G' d v
abbrev DI := SEnv → (List D → SEnv → Prop) → Prop
def TId (K : PySem.W.Frag) (di : DI) : TI := fun σ H R => ∃ B G env Rd, SRep K B G H σ env ∧ di env Rd ∧ ∀ items env' J G' H', SRep K B G' H' σ env' → Ex G G' → ItD K J G' items → Rd items env' → R J H'
def PId (X : Cx) (tg e : Expr) (di : DI) : Prop := PI X tg e (TId X.K di)
theorem PI.imp' {X : Cx} {tg e : Expr} {t t' : TI} (h : PI X tg e t) (i : ∀ σ H Q, t' σ H Q → t σ H Q) : PI X tg e t' := ⟨fun pins s σ H Q I q => h.run pins s σ H Q I (i σ H Q q)⟩
def iSeq (de : DE) : DI := fun env R => de env fun x env1 => match itemsOf x with
  | some xs => R xs env1
  | none => False
def intD (lo : Int) (n : Nat) : List D := (List.range n).map fun i => .int (lo + (i : Nat))
def iRan1 (de : DE) : DI := fun env R => de env fun x env1 => match x with
  | .int n => n < 2 ^ 62 ∧ -(2 ^ 62) ≤ n ∧ R (intD 0 n.toNat) env1
  | _ => False
def iRan2 (da db : DE) : DI := fun env R => da env fun x env1 => db env1 fun y env2 => match x, y with
  | .int i, .int j => (-(2 ^ 62) ≤ i ∧ i < 2 ^ 62 ∧ -(2 ^ 62) ≤ j ∧ j < 2 ^ 62) ∧ R (intD i (j - i).toNat) env2
  | _, _ => False
def zipD : List D → List D → List D
  | x :: xs, y :: ys => .tup [x, y] :: zipD xs ys
  | _, _ => []
def iZipd (da db : DE) : DI := fun env R => da env fun x env1 => db env1 fun y env2 => match x, y with
  | .tup xs, .tup ys => R (zipD xs ys) env2
  | .lst xs, .lst ys => R (zipD xs ys) env2
  | _, _ => False
def enumD : Nat → List D → List D
  | _, [] => []
  | k, x :: xs => .tup [.int (k : Nat), x] :: enumD (k + 1) xs
def iEnumd (da : DE) : DI := fun env R => da env fun x env1 => match x with
  | .lst xs => R (enumD 0 xs) env1
  | _ => False
theorem enumD_len : ∀ (k : Nat) (xs : List D), (enumD k xs).length = xs.length
  | _, [] => rfl
  | k, x :: xs => by rw [enumD, List.length_cons, List.length_cons, enumD_len]
theorem enumD_get : ∀ (k : Nat) (xs : List D) (i : Nat) (x : D), xs[i]? = some x → (enumD k xs)[i]? = some (.tup [.int ((k + i : Nat) : Int), x])
  | _, [], _, _, h => by simp at h
  | k, y :: ys, 0, x, h => by simp at h; subst h; rfl
  | k, y :: ys, i + 1, x, h => by
    have h' : ys[i]? = some x := by simpa using h
    have := enumD_get (k + 1) ys i x h'
    rw [enumD, List.getElem?_cons_succ, this]
    congr 4
    omega
theorem zipD_len : ∀ (xs ys : List D), (zipD xs ys).length = min xs.length ys.length
  | [], _ => by simp [zipD]
  | _ :: _, [] => by simp [zipD]
  | x :: xs, y :: ys => by rw [zipD, List.length_cons, zipD_len, List.length_cons, List.length_cons]; omega
theorem zipD_get : ∀ (xs ys : List D) (i : Nat) (x y : D), xs[i]? = some x → ys[i]? = some y → (zipD xs ys)[i]? = some (.tup [x, y])
  | [], _, _, _, _, h, _ => by simp at h
  | _ :: _, [], _, _, _, _, h => by simp at h
  | a :: xs, b :: ys, 0, x, y, h, h' => by simp at h h'; subst h h'; rfl
  | a :: xs, b :: ys, i + 1, x, y, h, h' => by
    rw [zipD, List.getElem?_cons_succ]
    exact zipD_get xs ys i x y (by simpa using h) (by simpa using h')
section
variable {X : Cx} {tg e e2 : Expr} {de da db : DE} {pos p : Pos}
/-- a list or a tuple -/
def iSqV (K : PySem.W.Frag) (tl : TE) : TI := fun σ H R => tl σ H fun x H1 => ∃ a, x = V.ref a ∧ ((∃ xs, SqL K H1 a xs) ∧ R (Itl K a) H1 ∨ (∃ xs, SqT K H1 a xs) ∧ R (Itt K a) H1)
theorem pi_sqV {tl : TE} (hl : PE X e tl) : PI X tg e (iSqV X.K tl) := by
  refine ⟨fun pins s σ H R I h => ?_⟩
  refine thn (hl.run pins s σ H _ I h) fun v s1 ⟨x, H1, I1, r1, q1⟩ => ?_
  obtain ⟨a, e, q⟩ := q1
  subst e
  cases r1
  rcases q with ⟨⟨xs, hq⟩, q⟩ | ⟨⟨xs, hq⟩, q⟩
  · obtain ⟨its, rv, p, hz⟩ := I1.list hq
    refine wpAny_pyIter_list p.isList ?_
    refine ⟨s1.heap.objs.size, [s1.heap.objs.size], _, _, H1, rfl, I1.kept (t' := s1.toks) fun b o e => Heap.get?_push_of_some _ e, turn_list a _, ⟨_, Heap.get?_push_size _ rfl, rfl, rfl⟩, fun b hb => ?_, q⟩
    have e : b = s1.heap.objs.size := by simpa using hb
    subst e
    exact I1.fpOk (Nat.le_refl _) (I1.hok.fresh (Nat.le_refl _))
  · obtain ⟨its, rv, p, hz⟩ := I1.tuple hq
    refine wpAny_pyIter_tuple (show s1.heap.IsTuple a its.toArray from p) ?_
    refine ⟨s1.heap.objs.size, [s1.heap.objs.size], _, _, H1, rfl, I1.kept (t' := s1.toks) fun b o e => Heap.get?_push_of_some _ e, turn_tuple a _, ⟨_, Heap.get?_push_size _ rfl, rfl, rfl⟩, fun b hb => ?_, q⟩
    have e : b = s1.heap.objs.size := by simpa using hb
    subst e
    exact I1.fpOk (Nat.le_refl _) (I1.hok.fresh (Nat.le_refl _))
theorem itd_list {K : PySem.W.Frag} {a : Addr} {vs : List V} {G : Hp} {xs : List D} (h : SqL K G a vs) (hp : Paired (Rp K G) xs vs) : ItD K (Itl K a) G xs where
  stop := fun G1 H1 e1 e2 => ⟨vs, e2.seq (e1.seq h), by rw [hp.length]; exact Nat.le_refl _⟩
  go := fun i G1 H1 e1 e2 hi => by
    have hi' : i < vs.length := by rw [← hp.length]; exact hi
    exact ⟨vs, vs[i], e2.seq (e1.seq h), List.getElem?_eq_getElem hi'⟩
  yld := fun i G1 H1 v H' e1 e2 hi hy => by
    obtain ⟨rfl, hy⟩ := hy
    obtain ⟨d, h1, h2⟩ := pd_get' hp (hy vs (e2.seq (e1.seq h)))
    exact ⟨G1, d, Nw.refl e2, h1, Rp.mono e1 _ _ h2⟩
theorem itd_tup {K : PySem.W.Frag} {a : Addr} {vs : List V} {G : Hp} {xs : List D} (h : SqT K G a vs) (hp : Paired (Rp K G) xs vs) : ItD K (Itt K a) G xs where
  stop := fun G1 H1 e1 e2 => ⟨vs, ex_t e2 (ex_t e1 h), by rw [hp.length]; exact Nat.le_refl _⟩
  go := fun i G1 H1 e1 e2 hi => by
    have hi' : i < vs.length := by rw [← hp.length]; exact hi
    exact ⟨vs, vs[i], ex_t e2 (ex_t e1 h), List.getElem?_eq_getElem hi'⟩
  yld := fun i G1 H1 v H' e1 e2 hi hy => by
    obtain ⟨rfl, hy⟩ := hy
    obtain ⟨d, h1, h2⟩ := pd_get' hp (hy vs (ex_t e2 (ex_t e1 h)))
    exact ⟨G1, d, Nw.refl e2, h1, Rp.mono e1 _ _ h2⟩
theorem di_seq (h : PEd X e de) : PId X tg e (iSeq de) := PI.imp' (pi_sqV h) fun σ H Q ⟨B, G, env, R, r, q, k⟩ => ⟨B, G, env, _, r, q, fun x env1 v G1 H1 r1 e1 p1 c1 => by
  cases x <;> first | exact c1.elim | skip
  · obtain ⟨a, vs, rfl, h1, h2, h3⟩ := p1
    exact ⟨a, rfl, .inr ⟨⟨vs, ex_t r1.sub h1⟩, k _ env1 _ G1 H1 r1 e1 (itd_tup h1 (rps_iff.mp h3)) c1⟩⟩
  · obtain ⟨a, vs, rfl, h1, h2, h3⟩ := p1
    exact ⟨a, rfl, .inl ⟨⟨vs, r1.sub.seq h1⟩, k _ env1 _ G1 H1 r1 e1 (itd_list h1 (rps_iff.mp h3)) c1⟩⟩⟩
theorem itd_rng {K : PySem.W.Frag} {G : Hp} {lo : Int} {n : Nat} : ItD K (Itr lo n) G (intD lo n) where
  stop := fun G1 H1 e1 e2 => by
    show n ≤ (intD lo n).length
    unfold intD
    rw [List.length_map, List.length_range]
    exact Nat.le_refl _
  go := fun i G1 H1 e1 e2 hi => by
    unfold intD at hi
    rw [List.length_map, List.length_range] at hi
    exact hi
  yld := fun i G1 H1 v H' e1 e2 hi hy => by
    unfold intD at hi
    rw [List.length_map, List.length_range] at hi
    obtain ⟨rfl, rfl⟩ := hy
    refine ⟨G1, .int (lo + (i : Nat)), Nw.refl e2, ?_, rfl⟩
    unfold intD
    rw [List.getElem?_map, List.getElem?_range hi]
    rfl
theorem di_ran1 (hg : Gl X "range") (hm : X.mg "range" = none) (ha : PEd X e de) (hs : starEach [e] X.env = [(false, eval e X.env)] := by rfl) : PId X tg (.Call (.Name "range" p) [e] [] pos) (iRan1 de) := PI.imp' (pi_range1 hg hm (pa_cons ha pa_nil hs) hs) fun σ H Q ⟨B, G, env, R, r, q, k⟩ => ⟨B, G, env, _, r, q, fun x env1 v G1 H1 r1 e1 p1 c1 => by
  cases x <;> first | exact c1.elim | skip
  cases (show v = _ from p1)
  exact ⟨_, rfl, c1.2.1, c1.1, k _ env1 _ G1 H1 r1 e1 itd_rng c1.2.2⟩⟩
theorem di_ran2 (hg : Gl X "range") (hm : X.mg "range" = none) (ha : PEd X e da) (hb : PEd X e2 db) (hs : starEach [e, e2] X.env = [(false, eval e X.env), (false, eval e2 X.env)] := by rfl) (hs2 : starEach [e2] X.env = [(false, eval e2 X.env)] := by rfl) :
    PId X tg (.Call (.Name "range" p) [e, e2] [] pos) (iRan2 da db) := PI.imp' (pi_range2 hg hm (pa_cons ha (pa_cons hb pa_nil hs2) (by rw [hs, hs2])) hs hs2) fun σ H Q ⟨B, G, env, R, r, q, k⟩ => ⟨B, G, env, _, r, q, fun x env1 v G1 H1 r1 e1 p1 c1 => ⟨B, G1, env1, _, r1, c1, fun y env2 w G2 H2 r2 e2 p2 c2 => by
  cases x <;> cases y <;> first | exact c2.elim | skip
  cases (show v = _ from p1)
  cases (show w = _ from p2)
  exact ⟨_, _, rfl, c2.1, k _ env2 _ G2 H2 r2 (e1.trans e2) itd_rng c2.2⟩⟩⟩
theorem itd_zipL {K : PySem.W.Frag} {a b : Addr} {vs ws : List V} {G : Hp} {xs ys : List D} (h : SqL K G a vs) (hp : Paired (Rp K G) xs vs) (h' : SqL K G b ws) (hp' : Paired (Rp K G) ys ws) : ItD K (Itz K a b) G (zipD xs ys) where
  stop := fun G1 H1 e1 e2 => ⟨vs, ws, e2.seq (e1.seq h), e2.seq (e1.seq h'), by rw [zipD_len, hp.length, hp'.length]; omega⟩
  go := fun i G1 H1 e1 e2 hi => by
    rw [zipD_len, hp.length, hp'.length] at hi
    exact ⟨vs, ws, vs[i]'(by omega), ws[i]'(by omega), e2.seq (e1.seq h), e2.seq (e1.seq h'), List.getElem?_eq_getElem (by omega), List.getElem?_eq_getElem (by omega)⟩
  yld := fun i G1 H1 v H' e1 e2 hi hy => by
    obtain ⟨T, x, y, rfl, hT, rfl, h1, h2⟩ := hy
    obtain ⟨d, g1, g2⟩ := pd_get' hp (h1 vs (e2.seq (e1.seq h)))
    obtain ⟨d', g1', g2'⟩ := pd_get' hp' (h2 ws (e2.seq (e1.seq h')))
    exact ⟨_, .tup [d, d'], Nw.new e2 hT, zipD_get _ _ _ _ _ g1 g1', rp_tup (by rw [sizeLine_eq]; exact (by decide : (2 : Nat) ≤ 16777216)) ⟨_, _, rfl, Rp.mono e1 _ _ g2, _, _, rfl, Rp.mono e1 _ _ g2', rfl⟩ (free_of e2 hT)⟩
theorem itd_zipT {K : PySem.W.Frag} {a b : Addr} {vs ws : List V} {G : Hp} {xs ys : List D} (h : SqT K G a vs) (hp : Paired (Rp K G) xs vs) (h' : SqT K G b ws) (hp' : Paired (Rp K G) ys ws) : ItD K (RZ.ItzT K a b) G (zipD xs ys) where
  stop := fun G1 H1 e1 e2 => ⟨vs, ws, ex_t e2 (ex_t e1 h), ex_t e2 (ex_t e1 h'), by rw [zipD_len, hp.length, hp'.length]; omega⟩
  go := fun i G1 H1 e1 e2 hi => by
    rw [zipD_len, hp.length, hp'.length] at hi
    exact ⟨vs, ws, vs[i]'(by omega), ws[i]'(by omega), ex_t e2 (ex_t e1 h), ex_t e2 (ex_t e1 h'), List.getElem?_eq_getElem (by omega), List.getElem?_eq_getElem (by omega)⟩
  yld := fun i G1 H1 v H' e1 e2 hi hy => by
    obtain ⟨T, x, y, rfl, hT, rfl, h1, h2⟩ := hy
    obtain ⟨d, g1, g2⟩ := pd_get' hp (h1 vs (ex_t e2 (ex_t e1 h)))
    obtain ⟨d', g1', g2'⟩ := pd_get' hp' (h2 ws (ex_t e2 (ex_t e1 h')))
    exact ⟨_, .tup [d, d'], Nw.new e2 hT, zipD_get _ _ _ _ _ g1 g1', rp_tup (by rw [sizeLine_eq]; exact (by decide : (2 : Nat) ≤ 16777216)) ⟨_, _, rfl, Rp.mono e1 _ _ g2, _, _, rfl, Rp.mono e1 _ _ g2', rfl⟩ (free_of e2 hT)⟩
theorem di_zip {elts : List Expr} {kk : Nat} {tpos : Pos} (hg : Gl X "zip") (hm : X.mg "zip" = none) (ha : PEd X e da) (hb : PEd X e2 db) (hs : starEach [e, e2] X.env = (false, eval e X.env) :: starEach [e2] X.env := by rfl) (hs2 : starEach [e2] X.env = [(false, eval e2 X.env)] := by rfl) (hpl : (backTo pos (starEach [e2] X.env)).any (·.1) = false := by rfl) :
    PId X (.Tuple elts kk tpos) (.Call (.Name "zip" p) [e, e2] [] pos) (iZipd da db) := PI.imp' (RZ.pi_zipA hg hm (pa_cons ha (pa_cons hb pa_nil hs2) hs) hs hpl) fun σ H Q ⟨B, G, env, R, r, q, k⟩ => ⟨B, G, env, _, r, q, fun x env1 v G1 H1 r1 e1 p1 c1 => ⟨B, G1, env1, _, r1, c1, fun y env2 w G2 H2 r2 e2 p2 c2 => by
  have p1 := Rp.mono e2 _ _ p1
  cases x <;> cases y <;> first | exact c2.elim | skip
  · obtain ⟨a, vs, rfl, h1, h2, h3⟩ := p1
    obtain ⟨b, ws, rfl, g1, g2, g3⟩ := p2
    exact ⟨a, b, vs, ws, rfl, .inr ⟨ex_t r2.sub h1, ex_t r2.sub g1, k _ env2 _ G2 H2 r2 (e1.trans e2) (itd_zipT h1 (rps_iff.mp h3) g1 (rps_iff.mp g3)) c2⟩⟩
  · obtain ⟨a, vs, rfl, h1, h2, h3⟩ := p1
    obtain ⟨b, ws, rfl, g1, g2, g3⟩ := p2
    exact ⟨a, b, vs, ws, rfl, .inl ⟨r2.sub.seq h1, r2.sub.seq g1, k _ env2 _ G2 H2 r2 (e1.trans e2) (itd_zipL h1 (rps_iff.mp h3) g1 (rps_iff.mp g3)) c2⟩⟩⟩⟩
theorem itd_enum {K : PySem.W.Frag} {a : Addr} {vs : List V} {G : Hp} {xs : List D} (h : SqL K G a vs) (hp : Paired (Rp K G) xs vs) : ItD K (Ite K a) G (enumD 0 xs) where
  stop := fun G1 H1 e1 e2 => ⟨vs, e2.seq (e1.seq h), by rw [enumD_len, hp.length]; exact Nat.le_refl _⟩
  go := fun i G1 H1 e1 e2 hi => by
    rw [enumD_len, hp.length] at hi
    exact ⟨vs, vs[i], e2.seq (e1.seq h), List.getElem?_eq_getElem hi⟩
  yld := fun i G1 H1 v H' e1 e2 hi hy => by
    obtain ⟨T, x, rfl, hT, rfl, h1⟩ := hy
    obtain ⟨d, g1, g2⟩ := pd_get' hp (h1 vs (e2.seq (e1.seq h)))
    refine ⟨_, .tup [.int (i : Nat), d], Nw.new e2 hT, ?_, rp_tup (by rw [sizeLine_eq]; exact (by decide : (2 : Nat) ≤ 16777216)) ⟨_, _, rfl, rfl, _, _, rfl, Rp.mono e1 _ _ g2, rfl⟩ (free_of e2 hT)⟩
    have := enumD_get 0 xs i d g1
    rw [Nat.zero_add] at this
    exact this
theorem di_enum {elts : List Expr} {kk : Nat} {tpos : Pos} (hg : Gl X "enumerate") (hm : X.mg "enumerate" = none) (ha : PEd X e da) (hs : starEach [e] X.env = [(false, eval e X.env)] := by rfl) :
    PId X (.Tuple elts kk tpos) (.Call (.Name "enumerate" p) [e] [] pos) (iEnumd da) := PI.imp' (pi_enum hg hm (pa_cons ha pa_nil hs) hs) fun σ H Q ⟨B, G, env, R, r, q, k⟩ => ⟨B, G, env, _, r, q, fun x env1 v G1 H1 r1 e1 p1 c1 => by
  cases x <;> first | exact c1.elim | skip
  obtain ⟨a, vs, rfl, h1, h2, h3⟩ := p1
  exact ⟨a, vs, rfl, r1.sub.seq h1, k _ env1 _ G1 H1 r1 e1 (itd_enum h1 (rps_iff.mp h3)) c1⟩⟩
end
end FL

namespace FL
open PySem PySem.Spec PyProof.Rows L2

/-! ### comprehensions -/
def wipeD (env : SEnv) : List Nat → SEnv
  | [] => env
  | v :: vs => (wipeD env vs).set v .no
def okW (env : SEnv) (vs : List Nat) : Bool := vs.all fun v => canSet env v
def backD (env1 env2 : SEnv) : List Nat → SEnv
  | [] => env2
  | v :: vs => backD env1 (env2.set v (env1[v]?.getD .no)) vs
theorem wipeD_len (env : SEnv) : ∀ vs, (wipeD env vs).length = env.length
  | [] => rfl
  | v :: vs => by unfold wipeD; rw [List.length_set, wipeD_len env vs]
theorem wipeD_out {env : SEnv} {i : Nat} : ∀ {vs : List Nat}, i ∉ vs → (wipeD env vs)[i]? = env[i]?
  | [], _ => rfl
  | v :: vs, h => by
    unfold wipeD
    have h1 : v ≠ i := fun z => h (by simp [z])
    rw [List.getElem?_set_ne h1, wipeD_out fun z => h (List.mem_cons_of_mem _ z)]
theorem wipeD_in {env : SEnv} {i : Nat} : ∀ {vs : List Nat}, i ∈ vs → i < env.length → (wipeD env vs)[i]? = some .no
  | [], h, _ => by cases h
  | v :: vs, h, hl => by
    unfold wipeD
    by_cases e : v = i
    · subst e
      rw [List.getElem?_set_self (by rw [wipeD_len]; exact hl)]
    · rw [List.getElem?_set_ne e]
      exact wipeD_in (by rcases List.mem_cons.mp h with h | h; exact absurd h.symm e; exact h) hl
section
variable {K : PySem.W.Frag} {B : Bs} {G H G' H' : Hp} {σ : L2.St} {env : SEnv}
theorem canSet_wipe {vs : List Nat} {i : Nat} (h : canSet env i = true) : canSet (wipeD env vs) i = true := by
  obtain ⟨hl, _⟩ := canSet_lt h
  unfold canSet at h ⊢
  by_cases e : i ∈ vs
  · rw [wipeD_in e hl]; rfl
  · rw [wipeD_out e]; exact h
theorem SRep.wiped (r : SRep K B G H σ env) : ∀ {vs : List Nat}, okW env vs = true → SRep K B G H (wipe σ vs) (wipeD env vs)
  | [], _ => r
  | v :: vs, h => by
    unfold okW at h
    rw [List.all_cons, Bool.and_eq_true] at h
    exact (SRep.wiped r (vs := vs) h.2).setNo (canSet_wipe h.1)
theorem getD_of {α : Type} {xs : List α} {i : Nat} {d : α} (h : i < xs.length) : xs[i]? = some (xs[i]?.getD d) := by
  rw [List.getElem?_eq_getElem h]; rfl
theorem SRep.back {env1 : SEnv} {G1 H1 : Hp} (r1 : SRep K B G1 H1 σ env1) (ex : Ex G1 G) : ∀ {vs : List Nat} {env2 : SEnv}, vs.Nodup → okW env1 vs = true → SRep K B G H (wipe σ vs) env2 → SRep K B G H σ (backD env1 env2 vs)
  | [], _, _, _, r => r
  | v :: vs, env2, hn, h, r => by
    unfold okW at h
    rw [List.all_cons, Bool.and_eq_true] at h
    obtain ⟨hl, hown⟩ := canSet_lt h.1
    have hv : v ∉ vs := (List.nodup_cons.mp hn).1
    have hσ : v < σ.length := by rw [r1.len]; exact hl
    have hw : (wipe σ vs)[v]? = σ[v]? := wipe_out hv
    have hsl : v < env2.length := by rw [← r.len, wipe_length]; exact hσ
    have hc : canSet env2 v = true := by
      unfold canSet
      rw [List.getElem?_eq_getElem hsl]
      simp only
      cases e : (env2[v]).isOwn with
      | false => rfl
      | true =>
        obtain ⟨a, e1, _⟩ := r.ow v _ (List.getElem?_eq_getElem hsl) e
        unfold wipe at e1
        rw [List.getElem?_set_self (by rw [wipe_length]; exact hσ)] at e1
        cases e1
    have r2 := r.put (i := v) (s := env1[v]?.getD .no) (o := σ[v]?.getD none) hc (hown _ (getD_of hl)) fun d e => by
      obtain ⟨w, h1, h2⟩ := r1.fz v d (by rw [getD_of (d := Sl.no) hl, e])
      exact ⟨w, by rw [h1]; rfl, Rp.mono ex _ _ h2⟩
    have e2 : (wipe σ (v :: vs)).set v (σ[v]?.getD none) = wipe σ vs := by
      show ((wipe σ vs).set v none).set v (σ[v]?.getD none) = wipe σ vs
      rw [List.set_set]
      apply List.ext_getElem?
      intro j
      by_cases z : v = j
      · subst z
        rw [List.getElem?_set_self (by rw [wipe_length]; exact hσ), hw]
        exact (getD_of hσ).symm
      · rw [List.getElem?_set_ne z]
    have r3 : SRep K B G H (wipe σ vs) (env2.set v (env1[v]?.getD .no)) := by rw [← e2]; exact r2
    exact SRep.back (vs := vs) (env2 := env2.set v (env1[v]?.getD .no)) r1 ex (List.nodup_cons.mp hn).2 h.2 r3
end
/-- a fresh list -/
abbrev DF := SEnv → (List D → SEnv → Prop) → Prop
def TEf (K : PySem.W.Frag) (df : DF) : TE := fun σ H Q => ∃ B G env R, SRep K B G H σ env ∧ df env R ∧ ∀ xs env' p vs G' H', SRep K B G' H' σ env' → Ex G G' → G' p = none → ¬ Owned σ env' p → B.H0 p = none → H' p = some (.lst vs) → xs.length ≤ sizeLine → Rps K G' xs vs → R xs env' → Q (.ref p) H'
def PEf (X : Cx) (e : Expr) (df : DF) : Prop := PE X e (TEf X.K df)
def dFz (df : DF) : DE := fun env R => df env fun xs env1 => R (.lst xs) env1
theorem fz_ok {K : PySem.W.Frag} {df : DF} {σ : L2.St} {H : Hp} {Q : VK} (h : TEd K (dFz df) σ H Q) : TEf K df σ H Q := by
  obtain ⟨B, G, env, R, r, q, k⟩ := h
  exact ⟨B, G, env, _, r, q, fun xs env' p vs G' H' r' e h1 h2 h3 h4 h5 h6 c => k (.lst xs) env' _ _ H' (r'.know h4 h2 h3 h1) (e.trans (ex_new h1)) (rp_lst h5 h6 h1) c⟩
theorem de_fz {X : Cx} {e : Expr} {df : DF} (h : PEf X e df) : PEd X e (dFz df) := PE.imp' h fun _ _ _ h => fz_ok h
def compD (p : Pat) (t : DT) (e : DE) (vs : List Nat) : List D → List D → SEnv → (List D → SEnv → Prop) → Prop
  | [], acc, env, R => R acc env
  | x :: xs, acc, env, R => match patSet p x env with
    | some env1 => t env1 fun b env2 => if b = true then e env2 fun d env3 => okW env3 vs = true ∧ compD p t e vs xs (acc ++ [d]) (wipeD env3 vs) R
        else okW env2 vs = true ∧ compD p t e vs xs acc (wipeD env2 vs) R
    | none => False
def fLc (di : DI) (p : Pat) (t : DT) (e : DE) (vs : List Nat) : DF := fun env R => di env fun items env1 => okW env1 vs = true ∧ items.length ≤ sizeLine ∧
  compD p t e vs items [] (wipeD env1 vs) fun acc env2 => R acc (backD env1 env2 vs)
theorem compD_len {p : Pat} {t : DT} {e : DE} {vs : List Nat} : True := trivial
theorem wipe_wipe {σ : L2.St} : ∀ {vs : List Nat}, wipe (wipe σ vs) vs = wipe σ vs := fun {vs} => by
  apply List.ext_getElem?
  intro j
  have key : ∀ (ws : List Nat) (τ : L2.St), (wipe τ ws)[j]? = if j ∈ ws then (if j < τ.length then some none else none) else τ[j]? := by
    intro ws
    induction ws with
    | nil => intro τ; simp [wipe]
    | cons w ws ih =>
      intro τ
      unfold wipe
      by_cases z : w = j
      · subst z
        by_cases hl : w < τ.length
        · rw [List.getElem?_set_self (by rw [wipe_length]; exact hl)]; simp [hl]
        · rw [List.getElem?_eq_none (by rw [List.length_set, wipe_length]; omega)]; simp [hl]
      · rw [List.getElem?_set_ne z, ih τ]
        have : (j ∈ w :: ws) ↔ j ∈ ws := by
          constructor
          · intro h; rcases List.mem_cons.mp h with h | h; exact absurd h.symm z; exact h
          · exact List.mem_cons_of_mem _
        simp only [this]
  rw [key vs (wipe σ vs), key vs σ, wipe_length]
  split <;> rfl
theorem lc_ok {K : PySem.W.Frag} {di : DI} {p : Pat} {t : DT} {e : DE} {vs : List Nat} (hp : p.inB vs = true) (hnd : vs.Nodup) {σ : L2.St} {H : Hp} {Q : VK} (h : TEf K (fLc di p t e vs) σ H Q) :
    tLc (TId K di) (TGd K p) (TTd K t) (TEd K e) vs σ H Q := by
  obtain ⟨B, G, env, R, r, q, k⟩ := h
  refine ⟨B, G, env, _, r, q, fun items env1 J G1 H1 r1 ex1 itd c1 => fun Dl hD => ?_⟩
  obtain ⟨hw, hz, c1⟩ := c1
  have hB : B.H0 Dl = none := by
    cases z : B.H0 Dl with
    | none => rfl
    | some o => exact absurd hD (r1.there (by rw [z]; simp))
  have rw1 := r1.wiped hw
  refine ⟨fun i m H => m = items.length - i ∧ i ≤ items.length ∧ ∃ G env2 acc avs, SRep K B G H (wipe σ vs) env2 ∧ Ex G1 G ∧ G Dl = none ∧ ¬ Owned (wipe σ vs) env2 Dl ∧ H Dl = some (.lst avs) ∧ Rps K G acc avs ∧ acc.length ≤ i ∧
      compD p t e vs (items.drop i) acc env2 fun acc env2 => R acc (backD env1 env2 vs), ⟨items.length, by simp, Nat.zero_le _, G1, wipeD env1 vs, [], [], ?_, Same.refl G1, r1.sub.free hD, ?_, upd_same, rfl, Nat.le_refl _, by rw [List.drop_zero]; exact c1⟩, ?_⟩
  · exact rw1.other (r1.sub.free hD) (fun ho => by obtain ⟨⟨o, ho⟩, _⟩ := rw1.owned ho; rw [hD] at ho; cases ho) hB
  · intro ho
    obtain ⟨⟨o, ho⟩, _⟩ := rw1.owned ho
    rw [hD] at ho; cases ho
  · rintro i m H2 ⟨rfl, hi, G2, env2, acc, avs, r2, ex2, g2, no2, h2, hr2, hl2, c2⟩
    by_cases hlt : i < items.length
    · refine .inr ⟨itd.go i G2 H2 ex2 r2.sub hlt, fun H' => ∃ G' env' acc' avs', SRep K B G' H' (wipe σ vs) env' ∧ Ex G1 G' ∧ G' Dl = none ∧ ¬ Owned (wipe σ vs) env' Dl ∧ H' Dl = some (.lst avs') ∧ Rps K G' acc' avs' ∧ acc'.length ≤ i + 1 ∧
        compD p t e vs (items.drop (i + 1)) acc' env' fun acc env2 => R acc (backD env1 env2 vs), fun H' hh => ⟨items.length - (i + 1), by omega, rfl, hlt, hh⟩, fun x H' hy => ?_⟩
      obtain ⟨G3, d, nw, hd, hx⟩ := itd.yld i G2 H2 x H' ex2 r2.sub hlt hy
      have r3 := r2.ext nw
      have hD3 : H' Dl = some (.lst avs) := nw.hx _ _ h2
      have g3 : G3 Dl = none := nw.no Dl (by rw [h2]; simp) g2
      have e3 : items.drop i = d :: items.drop (i + 1) := by
        rw [List.drop_eq_getElem_cons hlt]
        congr 1
        rw [List.getElem?_eq_getElem hlt] at hd
        exact Option.some.inj hd
      rw [e3] at c2
      unfold compD at c2
      cases ep : patSet p d env2 with
      | none => rw [ep] at c2; exact c2.elim
      | some env3 =>
        rw [ep] at c2
        refine ⟨B.here G3 H' (wipe σ vs) env2, G3, env2, d, env3, r3.rebase, hx, ep, fun σ' r' w' => ?_⟩
        have ew : wipe σ' vs = wipe σ vs := by rw [w' vs hp, wipe_wipe]
        refine ⟨ew, _, G3, env3, _, r', c2, fun b env4 G4 H4 r4 e4 c4 => ?_⟩
        have stay : ∀ {Gx Hx : Hp} {envx : SEnv}, SRep K (B.here G3 H' (wipe σ vs) env2) Gx Hx σ' envx → Hx Dl = some (.lst avs) ∧ Gx Dl = none ∧ ¬ Owned σ' envx Dl := fun {Gx Hx envx} rx => by
          have hDx : Hx Dl = some (.lst avs) := rx.fr Dl _ hD3 fun z => no2 z.owned
          refine ⟨hDx, rx.no Dl (show H' Dl ≠ none by rw [hD3]; simp) g3, fun ⟨j, s, o1, o2, o3⟩ => ?_⟩
          obtain ⟨a, q1, _, q3, q4⟩ := rx.ow j s o1 o2
          rw [o3] at q1
          cases q1
          rcases q4 with q4 | q4 | q4
          · rw [show H' Dl = none from q4] at hD3; cases hD3
          · exact no2 (show OwnedW (wipe σ vs) env2 Dl from q4).owned
          · cases s <;> first | (cases q4; done) | skip
            obtain ⟨ws, q5, _⟩ := q3
            rw [hDx] at q5
            cases q5
        have fin : ∀ {Gx Hx : Hp} {envx : SEnv}, SRep K (B.here G3 H' (wipe σ vs) env2) Gx Hx σ' envx → okW envx vs = true → SRep K B Gx Hx (wipe σ vs) (wipeD envx vs) ∧ ¬ Owned (wipe σ vs) (wipeD envx vs) Dl := fun {Gx Hx envx} rx ho => by
          have rx' := (r3.unbase rx).wiped ho
          rw [ew] at rx'
          refine ⟨rx', fun ⟨j, s, o1, o2, o3⟩ => ?_⟩
          have hj : j ∉ vs := fun z => by
            have hlj : j < envx.length := by rw [← wipeD_len envx vs]; exact (List.getElem?_eq_some_iff.mp o1).1
            rw [wipeD_in z hlj] at o1
            cases o1; cases o2
          rw [wipeD_out hj] at o1
          rw [← ew, wipe_out hj] at o3
          exact (stay rx).2.2 ⟨j, s, o1, o2, o3⟩
        cases b with
        | true =>
          rw [if_pos rfl] at c4
          refine iteT ?_
          refine ⟨_, G4, env4, _, r4, c4, fun y env5 v G5 H5 r5 e5 p5 c5 => ?_⟩
          obtain ⟨s1, s2, s3⟩ := stay r5
          obtain ⟨f1, f2⟩ := fin r5 c5.1
          have hlen := Rps.len hr2
          have hex : Ex G2 G5 := nw.ex.trans (e4.trans e5)
          refine ⟨avs, s1, by omega, G5, _, acc ++ [y], avs ++ [v], f1.other s2 f2 hB, ex2.trans hex, s2, f2, upd_same, Rps.app (Rps.mono hex _ _ hr2) ⟨v, [], rfl, p5, rfl⟩, ?_, c5.2⟩
          rw [List.length_append, List.length_singleton]
          omega
        | false =>
          rw [if_neg Bool.false_ne_true] at c4
          refine iteF ?_
          obtain ⟨s1, s2, s3⟩ := stay r4
          obtain ⟨f1, f2⟩ := fin r4 c4.1
          have hex : Ex G2 G4 := nw.ex.trans e4
          exact ⟨G4, _, acc, avs, f1, ex2.trans hex, s2, f2, s1, Rps.mono hex _ _ hr2, by omega, c4.2⟩
    · have ei : i = items.length := by omega
      subst ei
      rw [List.drop_length] at c2
      unfold compD at c2
      refine .inl ⟨itd.stop G2 H2 ex2 r2.sub, ?_⟩
      have rb := SRep.back r1 ex2 hnd hw r2
      refine k acc _ Dl avs G2 H2 rb (ex1.trans ex2) g2 (fun ⟨j, s, o1, o2, o3⟩ => ?_) hB h2 (by omega) hr2 c2
      obtain ⟨a, q1, q2, q3, q4⟩ := rb.ow j s o1 o2
      rw [o3] at q1
      cases q1
      -- the slot is one of the block's, or was owned ahead
      have hbk : ∀ (ws : List Nat) (ev : SEnv), ws.Nodup → okW env1 ws = true → ∀ s', (backD env1 ev ws)[j]? = some s' → s'.isOwn = true → j ∉ ws ∧ ev[j]? = some s' := by
        intro ws
        induction ws with
        | nil => intro ev _ _ s' h1 _; exact ⟨by simp, h1⟩
        | cons w ws ih =>
          intro ev hn ho s' h1 h2
          unfold okW at ho
          rw [List.all_cons, Bool.and_eq_true] at ho
          obtain ⟨i1, i2⟩ := ih _ (List.nodup_cons.mp hn).2 ho.2 s' h1 h2
          obtain ⟨wl, wo⟩ := canSet_lt ho.1
          by_cases z : w = j
          · subst z
            have hle : w < ev.length := by
              have := (List.getElem?_eq_some_iff.mp i2).1
              rw [List.length_set] at this
              exact this
            rw [List.getElem?_set_self hle] at i2
            cases i2
            rw [wo _ (getD_of wl)] at h2; cases h2
          · rw [List.getElem?_set_ne z] at i2
            exact ⟨fun hm => by rcases List.mem_cons.mp hm with h | h; exact z h.symm; exact i1 h, i2⟩
      obtain ⟨hj, hj2⟩ := hbk vs env2 hnd hw s o1 o2
      exact no2 ⟨j, s, hj2, o2, by rw [wipe_out hj]; exact o3⟩
def PTsd (X : Cx) (ifs : List Expr) (t : DT) : Prop := PTs X ifs (TTd X.K t)
def tYes1 : DT := fun env R => R true env
section
variable {X : Cx} {elt tg iter e : Expr} {ifs : List Expr} {scope : Scope} {own : List (Str × Nat)} {pos : Pos} {di : DI} {p : Pat} {t : DT} {de : DE}
theorem PTs.imp' {e : List Expr} {t t' : TT} (h : PTs X e t) (i : ∀ σ H Q, t' σ H Q → t σ H Q) : PTs X e t' := ⟨fun pins s σ H Q I q => h.run pins s σ H Q I (i σ H Q q)⟩
theorem dts_nil : PTsd X [] tYes1 := PTs.imp' pts_nil fun σ H Q ⟨B, G, env, R, r, q, k⟩ => k true env G H r (Same.refl G) q
theorem dts_one (h : PTd X e t) : PTsd X [e] t := pts_one h
theorem df_lc (hc : X.calm = true) (hN : X.N.Nodup) (hi : PId X tg iter di) (ok : BlkOk X.N X.env.scope scope own)
    (hg : ∀ (s : Shared) (H : Hp) (C : Addr) (cl : List (Str × Addr)) (fp : List Addr), PGd (X.blk s H scope (compEnvC scope cl C X.env) fp) tg p) (ht : ∀ (s : Shared) (H : Hp) (C : Addr) (cl : List (Str × Addr)) (fp : List Addr), PTsd (X.blk s H scope (compEnvC scope cl C X.env) fp) ifs t)
    (he : ∀ (s : Shared) (H : Hp) (C : Addr) (cl : List (Str × Addr)) (fp : List Addr), PEd (X.blk s H scope (compEnvC scope cl C X.env) fp) elt de) (hp : p.inB (own.map (·.2)) = true) (hnd : (own.map (·.2)).Nodup) (hs : ∀ x, foldedSetIterable iter X.env x = pure x := by intro _; rfl) :
    PEf X (.ListComp elt [⟨tg, iter, ifs, 0⟩] scope pos) (fLc di p t de (own.map (·.2))) := PE.imp' (pe_lc (g := TGd X.K p) (tt := TTd X.K t) (te := TEd X.K de) hc hN hi ok hg ht he hs) fun _ _ _ h => lc_ok hp hnd h
end
end FL

namespace FL
open PySem PySem.Spec PyProof.Rows L2

/-! ### statements -/
def sNext : DS := fun DE env => DE.nx env
def sSeq (a b : DS) : DS := fun DE env => a { DE with nx := b DE } env
def sRet (de : DE) : DS := fun E env => de env fun d env1 => E.rt d env1
def sRetN : DS := fun E env => E.rt .non env
def sBrk : DS := fun E env => E.bk env
def sCnt : DS := fun E env => E.ct env
def sNever : DS := fun _ _ => False
def sIf (t : DT) (a b : DS) : DS := fun E env => t env fun c env1 => if c = true then a E env1 else b E env1
def sDrop (de : DE) : DS := fun E env => de env fun _ env1 => E.nx env1
def sAsg (de : DE) (p : Pat) : DS := fun E env => de env fun d env1 => match patSet p d env1 with
  | some env2 => E.nx env2
  | none => False
def sPar (i j : Nat) (da db : DE) : DS := fun E env => da env fun x env1 => db env1 fun y env2 => (canSet env2 i = true ∧ canSet env2 j = true) ∧ E.nx ((env2.set i (.fz x)).set j (.fz y))
def forD (p : Pat) (b : DS) (E : DEnds) : List D → SEnv → Prop
  | [], env => E.nx env
  | x :: xs, env => match patSet p x env with
    | some env1 => b { E with nx := forD p b E xs, ct := forD p b E xs, bk := E.nx } env1
    | none => False
def sFor (di : DI) (p : Pat) (b : DS) : DS := fun E env => di env fun items env1 => forD p b E items env1
def whD (t : DT) (b : DS) (E : DEnds) : Nat → SEnv → Prop
  | 0, _ => False
  | n + 1, env => t env fun c env1 => if c = true then b { E with nx := whD t b E n, ct := whD t b E n, bk := E.nx } env1 else E.nx env1
def sWhile (t : DT) (b : DS) : DS := fun E env => ∃ n, whD t b E n env
def noLd (env : SEnv) (i : Nat) : Bool := match env[i]? with
  | some s => !s.isLd
  | none => true
/-- an owned list comes to a slot -/
def sOwn (i : Nat) (df : DF) : DS := fun E env => df env fun xs env1 => (i < env1.length ∧ (canSet env1 i = true ∨ (i ≠ 0 ∧ noLd env1 i = true))) ∧ E.nx (env1.set i (.ol xs))
def sApp (i : Nat) (de : DE) : DS := fun E env => match env[i]? with
  | some (.ol _) => de env fun d env1 => (match env1[i]? with
    | some (.ol xs) => xs.length < sizeLine ∧ E.nx (env1.set i (.ol (xs ++ [d])))
    | _ => False)
  | _ => False
/-- x[k] = v of an owned list -/
def sSetIx (i : Nat) (dk dv : DE) : DS := fun E env => dv env fun d env1 => (match env1[i]? with
  | some (.ol _) => dk env1 fun k env2 => (match env2[i]?, k with
    | some (.ol xs), .int j => (match ixN xs.length j with
      | some n => E.nx (env2.set i (.ol (xs.set n d)))
      | none => False)
    | _, _ => False)
  | _ => False)
/-- an owned list is from here on plain data -/
def sFrz (i : Nat) (s : DS) : DS := fun E env => match env[i]? with
  | some (.ol xs) => i ≠ 0 ∧ s E (env.set i (.fz (.lst xs)))
  | _ => False

section
variable {K : PySem.W.Frag} {B : Bs} {G H G' H' : Hp} {σ : L2.St} {env : SEnv}
/-- a fresh list comes to a slot -/
theorem SRep.newOwn (r : SRep K B G H σ env) (hB : Bs.fn B) {i : Nat} {p : Addr} {s : Sl} (hi : i < env.length) (hc : canSet env i = true ∨ (i ≠ 0 ∧ noLd env i = true)) (h1 : G p = none) (h2 : ¬ Owned σ env p) (h3 : B.H0 p = none) (hs : s.isOwn = true) (ho : OwnAt K G H p s) :
    SRep K B G H (σ.set i (some (.ref p))) (env.set i s) := by
  have hσ : i < σ.length := by rw [r.len]; exact hi
  have cas : ∀ (j : Nat) (t : Sl), (env.set i s)[j]? = some t → (i = j ∧ t = s) ∨ (i ≠ j ∧ env[j]? = some t) := fun j t e => by
    by_cases z : i = j
    · subst z
      rw [List.getElem?_set_self hi] at e
      cases e
      exact .inl ⟨rfl, rfl⟩
    · rw [List.getElem?_set_ne z] at e
      exact .inr ⟨z, e⟩
  refine ⟨r.g0, r.sub, r.fr, r.no, by rw [List.length_set, List.length_set]; exact r.len, fun j d e => ?_, fun j t e1 e2 => ?_, fun j k t u a e1 e2 e3 e4 e5 e6 => ?_, fun a h => ?_, fun a h => ?_, fun q a h => ?_⟩
  · rcases cas j _ e with ⟨z, e'⟩ | ⟨z, e'⟩
    · rw [← e'] at hs; cases hs
    · rw [List.getElem?_set_ne z]
      exact r.fz j d e'
  · rcases cas j t e1 with ⟨z, e'⟩ | ⟨z, e'⟩
    · subst z e'
      exact ⟨p, by rw [List.getElem?_set_self hσ], h1, ho, .inl h3⟩
    · rw [List.getElem?_set_ne z]
      exact r.ow j t e' e2
  · rcases cas j t e1 with ⟨z, _⟩ | ⟨z, e'⟩
    · rcases cas k u e3 with ⟨z', _⟩ | ⟨z', e''⟩
      · exact z.symm.trans z'
      · subst z
        rw [List.getElem?_set_self hσ] at e5
        rw [List.getElem?_set_ne z'] at e6
        cases e5
        exact absurd ⟨k, u, e'', e4, e6⟩ h2
    · rcases cas k u e3 with ⟨z', _⟩ | ⟨z', e''⟩
      · subst z'
        rw [List.getElem?_set_self hσ] at e6
        rw [List.getElem?_set_ne z] at e5
        cases e6
        exact absurd ⟨j, t, e', e2, e5⟩ h2
      · rw [List.getElem?_set_ne z] at e5
        rw [List.getElem?_set_ne z'] at e6
        exact r.dis j k t u a e' e2 e'' e4 e5 e6
  · obtain ⟨j, t, e1, e2, e0, e3⟩ := r.mu a h
    have z : i ≠ j := fun z => by
      subst z
      rcases hc with hc | ⟨hc, _⟩
      · rw [(canSet_lt hc).2 t e1] at e2; cases e2
      · obtain ⟨q1, xs, q2⟩ := r.pot a (hB a h)
        exact hc (r.dis i 0 t _ a e1 e2 q2 rfl e3 q1)
    exact ⟨j, t, by rw [List.getElem?_set_ne z]; exact e1, e2, e0, by rw [List.getElem?_set_ne z]; exact e3⟩
  · obtain ⟨e1, xs, e2⟩ := r.pot a h
    have z : i ≠ 0 := fun z => by
      subst z
      rcases hc with hc | ⟨hc, _⟩
      · have := (canSet_lt hc).2 _ e2; cases this
      · exact hc rfl
    exact ⟨by rw [List.getElem?_set_ne z]; exact e1, xs, by rw [List.getElem?_set_ne z]; exact e2⟩
  · obtain ⟨e1, o, kvs, e2⟩ := r.lk q a h
    have z : i ≠ q := fun z => by
      subst z
      rcases hc with hc | ⟨_, hc⟩
      · have := (canSet_lt hc).2 _ e2; cases this
      · unfold noLd at hc; rw [e2] at hc; cases hc
    exact ⟨by rw [List.getElem?_set_ne z]; exact e1, o, kvs, by rw [List.getElem?_set_ne z]; exact e2⟩
/-- an owned object is written -/
theorem SRep.write (r : SRep K B G H σ env) {i : Nat} {a : Addr} {s t : Sl} {o : HO} (h1 : env[i]? = some s) (h2 : s.isOwn = true) (h3 : σ[i]? = some (some (V.ref a))) (ht : t.isOwn = true) (ho : OwnAt K G (upd H a o) a t) (hz : ∀ xs, s = .ol xs → ∃ ys, t = .ol ys) (hs0 : s.isLd = false := by rfl) (ht0 : t.isLd = false := by rfl) :
    SRep K B G (upd H a o) σ (env.set i t) := by
  obtain ⟨b, g1, g2, g3, g4⟩ := r.ow i s h1 h2
  rw [h3] at g1
  cases g1
  have hi : i < env.length := (List.getElem?_eq_some_iff.mp h1).1
  have cas : ∀ (j : Nat) (u : Sl), (env.set i t)[j]? = some u → (i = j ∧ u = t) ∨ (i ≠ j ∧ env[j]? = some u) := fun j u e => by
    by_cases z : i = j
    · subst z
      rw [List.getElem?_set_self hi] at e
      cases e
      exact .inl ⟨rfl, rfl⟩
    · rw [List.getElem?_set_ne z] at e
      exact .inr ⟨z, e⟩
  have hH : B.H0 a = none ∨ B.mu a := by
    rcases g4 with z | z | z
    · exact .inl z
    · exact .inr z
    · rw [hs0] at z; cases z
  refine ⟨r.g0, fun c u e => ?_, fun c u e m => ?_, r.no, by rw [List.length_set]; exact r.len, fun j d e => ?_, fun j u e1 e2 => ?_, fun j k u w c e1 e2 e3 e4 e5 e6 => ?_, fun c h => ?_, fun c h => ?_, fun q c h => ?_⟩
  · rw [upd_ne (fun z => by rw [z, g2] at e; cases e)]; exact r.sub c u e
  · refine (upd_ne (fun z => ?_)).trans (r.fr c u e m)
    subst z
    rcases hH with z | z
    · rw [z] at e; cases e
    · exact m z
  · rcases cas j _ e with ⟨z, e'⟩ | ⟨z, e'⟩
    · rw [← e'] at ht; cases ht
    · exact r.fz j d e'
  · rcases cas j u e1 with ⟨z, e'⟩ | ⟨z, e'⟩
    · subst z e'
      exact ⟨a, h3, g2, ho, hH.elim .inl fun z => .inr (.inl z)⟩
    · obtain ⟨c, q1, q2, q3, q4⟩ := r.ow j u e' e2
      exact ⟨c, q1, q2, q3.mono (Same.refl G) (upd_ne fun hca => z (r.dis i j s u a h1 h2 e' e2 h3 (by rw [q1, hca]))), q4⟩
  · have e1' : ∃ s', env[j]? = some s' ∧ s'.isOwn = true := by
      rcases cas j u e1 with ⟨z, _⟩ | ⟨z, e'⟩
      · subst z; exact ⟨s, h1, h2⟩
      · exact ⟨u, e', e2⟩
    have e3' : ∃ s', env[k]? = some s' ∧ s'.isOwn = true := by
      rcases cas k w e3 with ⟨z, _⟩ | ⟨z, e'⟩
      · subst z; exact ⟨s, h1, h2⟩
      · exact ⟨w, e', e4⟩
    obtain ⟨s1, q1, q2⟩ := e1'
    obtain ⟨s2, q3, q4⟩ := e3'
    exact r.dis j k s1 s2 c q1 q2 q3 q4 e5 e6
  · obtain ⟨j, u, e1, e2, e0, e3⟩ := r.mu c h
    by_cases z : i = j
    · subst z
      exact ⟨i, t, List.getElem?_set_self hi, ht, ht0, e3⟩
    · exact ⟨j, u, by rw [List.getElem?_set_ne z]; exact e1, e2, e0, e3⟩
  · obtain ⟨e1, xs, e2⟩ := r.pot c h
    by_cases z : i = 0
    · subst z
      rw [h1] at e2
      cases e2
      obtain ⟨ys, rfl⟩ := hz xs rfl
      exact ⟨e1, ys, List.getElem?_set_self hi⟩
    · exact ⟨e1, xs, by rw [List.getElem?_set_ne z]; exact e2⟩
  · obtain ⟨e1, p, kvs, e2⟩ := r.lk q c h
    have z : i ≠ q := fun z => by
      subst z
      rw [h1] at e2
      cases e2
      cases hs0
    exact ⟨e1, p, kvs, by rw [List.getElem?_set_ne z]; exact e2⟩
/-- an owned list becomes plain data -/
theorem SRep.freeze (r : SRep K B G H σ env) (hB : Bs.fn B) {i : Nat} {xs : List D} (h1 : env[i]? = some (.ol xs)) (hi : i ≠ 0) : ∃ G', Ex G G' ∧ SRep K B G' H σ (env.set i (.fz (.lst xs))) := by
  obtain ⟨a, g1, g2, ⟨vs, g3, g4, g5⟩, g6⟩ := r.ow i _ h1 rfl
  have hl : i < env.length := (List.getElem?_eq_some_iff.mp h1).1
  have hm : ¬ B.mu a := fun hm => by
    obtain ⟨q1, ys, q2⟩ := r.pot a (hB a hm)
    exact hi (r.dis i 0 _ _ a h1 rfl q2 rfl g1 q1)
  have h0 : B.H0 a = none := by
    rcases g6 with z | z | z
    · exact z
    · exact absurd z hm
    · cases z
  have cas : ∀ (j : Nat) (u : Sl), (env.set i (.fz (.lst xs)))[j]? = some u → (i = j ∧ u = .fz (.lst xs)) ∨ (i ≠ j ∧ env[j]? = some u) := fun j u e => by
    by_cases z : i = j
    · subst z
      rw [List.getElem?_set_self hl] at e
      cases e
      exact .inl ⟨rfl, rfl⟩
    · rw [List.getElem?_set_ne z] at e
      exact .inr ⟨z, e⟩
  have low : ∀ (j : Nat) (u : Sl), (env.set i (.fz (.lst xs)))[j]? = some u → u.isOwn = true → i ≠ j ∧ env[j]? = some u := fun j u e e2 => by
    rcases cas j u e with ⟨_, z⟩ | z
    · rw [z] at e2; cases e2
    · exact z
  refine ⟨upd G a (.lst vs), ex_new g2, r.g0.trans (ex_new g2), fun c u e => ?_, r.fr, fun c e1 e2 => ?_, by rw [List.length_set]; exact r.len, fun j d e => ?_, fun j u e1 e2 => ?_, fun j k u w c e1 e2 e3 e4 e5 e6 => ?_, fun c h => ?_, fun c h => ?_, fun q c h => ?_⟩
  · by_cases z : c = a
    · subst z; rw [upd_same] at e; cases e; exact g3
    · rw [upd_ne z] at e; exact r.sub c u e
  · rw [upd_ne (fun z => by rw [z] at e1; exact e1 h0)]; exact r.no c e1 e2
  · rcases cas j _ e with ⟨z, e'⟩ | ⟨z, e'⟩
    · subst z
      cases e'
      exact ⟨_, g1, rp_lst g4 g5 g2⟩
    · obtain ⟨v, q1, q2⟩ := r.fz j d e'
      exact ⟨v, q1, Rp.mono (ex_new g2) _ _ q2⟩
  · obtain ⟨z, e'⟩ := low j u e1 e2
    obtain ⟨c, q1, q2, q3, q4⟩ := r.ow j u e' e2
    have hca : c ≠ a := fun hca => z (r.dis i j _ u a h1 rfl e' e2 g1 (by rw [q1, hca]))
    exact ⟨c, q1, by rw [upd_ne hca]; exact q2, q3.mono (ex_new g2) rfl, q4⟩
  · obtain ⟨z1, f1⟩ := low j u e1 e2
    obtain ⟨z2, f2⟩ := low k w e3 e4
    exact r.dis j k u w c f1 e2 f2 e4 e5 e6
  · obtain ⟨j, u, e1, e2, e0, e3⟩ := r.mu c h
    have z : i ≠ j := fun z => by
      subst z
      rw [g1] at e3
      cases e3
      exact hm h
    exact ⟨j, u, by rw [List.getElem?_set_ne z]; exact e1, e2, e0, e3⟩
  · obtain ⟨e1, ys, e2⟩ := r.pot c h
    exact ⟨e1, ys, by rw [List.getElem?_set_ne hi]; exact e2⟩
  · obtain ⟨e1, p, kvs, e2⟩ := r.lk q c h
    have z : i ≠ q := fun z => by
      subst z
      rw [h1] at e2
      cases e2
    exact ⟨e1, p, kvs, by rw [List.getElem?_set_ne z]; exact e2⟩
end
section
variable {X : Cx} {st : Stmt} {sts : List Stmt} {a b : DS} {de da db : DE} {t : DT} {e : Expr} {pos : Pos}
theorem dss_nil : PSsd X [] sNext := PSs.imp' pss_nil fun E σ H ⟨B, G, env, DE, hB, r, q, k1, _⟩ => k1 σ G H env r q
theorem seq_ok {K : PySem.W.Frag} {E : Ends} {σ : L2.St} {H : Hp} (h : TSd K (sSeq a b) E σ H) : tSeq (TSd K a) (TSd K b) E σ H := by
  obtain ⟨B, G, env, DE, hB, r, q, k1, k2, k3, k4⟩ := h
  exact ⟨B, G, env, { DE with nx := b DE }, hB, r, q, fun σ' G' H' env' r' c' => ⟨B, G', env', DE, hB, r', c', k1, k2, k3, k4⟩, k2, k3, k4⟩
theorem dss_cons (h1 : PSd X st a) (h2 : PSsd X sts b) : PSsd X (st :: sts) (sSeq a b) := PSs.imp' (pss_cons h1 h2) fun _ _ _ h => seq_ok h
theorem dss_one (h1 : PSd X st a) : PSsd X [st] a := pss_one h1
theorem dss_never : PSsd X sts sNever := PSs.imp' pss_never fun E σ H ⟨B, G, env, DE, hB, r, q, _⟩ => q
theorem ds_never : PSd X st sNever := PS.imp' ps_never fun E σ H ⟨B, G, env, DE, hB, r, q, _⟩ => q
theorem ds_pass : PSd X (.Pass pos) sNext := PS.imp' ps_pass fun E σ H ⟨B, G, env, DE, hB, r, q, k1, _⟩ => k1 σ G H env r q
theorem ds_brk : PSd X (.Break pos) sBrk := PS.imp' ps_break fun E σ H ⟨B, G, env, DE, hB, r, q, k1, k2, k3, k4⟩ => k3 σ G H env r q
theorem ds_cnt : PSd X (.Continue pos) sCnt := PS.imp' ps_continue fun E σ H ⟨B, G, env, DE, hB, r, q, k1, k2, k3, k4⟩ => k4 σ G H env r q
theorem ds_doc {x : Str} {j : Nat} {pos pos' : Pos} : PSd X (.Expr (.Constant (.str x) j pos) pos') sNext := PS.imp' ps_doc fun E σ H ⟨B, G, env, DE, hB, r, q, k1, _⟩ => k1 σ G H env r q
theorem ds_expr (he : PEd X e de) (hs : swapsWith e none pos.line X.env = pure false := by rfl) : PSd X (.Expr e pos) (sDrop de) := PS.imp' (ps_expr he hs) fun E σ H ⟨B, G, env, DE, hB, r, q, k1, k2, k3, k4⟩ =>
  ⟨B, G, env, _, r, q, fun d env' v G' H' r' x p c => k1 σ G' H' env' r' c⟩
theorem ds_ret (he : PEd X e de) : PSd X (.Return (some e) pos) (sRet de) := PS.imp' (ps_ret he) fun E σ H ⟨B, G, env, DE, hB, r, q, k1, k2, k3, k4⟩ =>
  ⟨B, G, env, _, r, q, fun d env' v G' H' r' x p c => k2 d v σ G' H' env' r' p c⟩
theorem ds_retN : PSd X (.Return none pos) sRetN := PS.imp' ps_retN fun E σ H ⟨B, G, env, DE, hB, r, q, k1, k2, k3, k4⟩ => k2 .non .non σ G H env r rfl q
theorem ds_if {c : Expr} {as bs : List Stmt} (hc : PTd X c t) (ha : PSsd X as a) (hb : PSsd X bs b) : PSd X (.If c as bs pos) (sIf t a b) := PS.imp' (ps_if hc ha hb) fun E σ H ⟨B, G, env, DE, hB, r, q, k⟩ =>
  ⟨B, G, env, _, r, q, fun bb env1 G1 H1 r1 e1 c1 => by
    cases bb with
    | true =>
      rw [if_pos rfl] at c1
      refine iteT ?_
      exact ⟨B, G1, env1, DE, hB, r1, c1, k⟩
    | false =>
      rw [if_neg Bool.false_ne_true] at c1
      refine iteF ?_
      exact ⟨B, G1, env1, DE, hB, r1, c1, k⟩⟩
theorem asg_ok {K : PySem.W.Frag} {p : Pat} {E : Ends} {σ : L2.St} {H : Hp} (h : TSd K (sAsg de p) E σ H) : tAsg (TEd K de) (TGd K p) E σ H := by
  obtain ⟨B, G, env, DE, hB, r, q, k1, k2, k3, k4⟩ := h
  refine ⟨B, G, env, _, r, q, fun d env1 v G1 H1 r1 e1 p1 c1 => ?_⟩
  cases ep : patSet p d env1 with
  | none => rw [ep] at c1; exact c1.elim
  | some env2 =>
    rw [ep] at c1
    exact ⟨B, G1, env1, d, env2, r1, p1, ep, fun σ' r' _ => k1 σ' G1 H1 env2 r' c1⟩
theorem ds_asg {tg : Expr} {p : Pat} (he : PEd X e de) (hg : PGd X tg p) (hs : swapsWithSole [tg] e pos.line X.env = pure false := by rfl) (hw : swappedStores [tg] e X.env = pure none := by rfl) (h1 : (assignEach [tg] X.env).map (·.2) = [assign tg X.env] := by rfl) :
    PSd X (.Assign [tg] e pos) (sAsg de p) := PS.imp' (ps_asg he hg hs hw h1) fun _ _ _ h => asg_ok h
theorem asgN_ok {K : PySem.W.Frag} {te : TE} {i : Nat} {E : Ends} {σ : L2.St} {H : Hp} (hi : ∀ σ H Q, TEd K de σ H Q → te σ H Q) (h : TSd K (sAsg de (.nm i)) E σ H) : tAsg te (gName i) E σ H := by
  obtain ⟨B, G, env, DE, hB, r, q, k1, k2, k3, k4⟩ := h
  refine hi _ _ _ ⟨B, G, env, _, r, q, fun d env1 v G1 H1 r1 e1 p1 c1 => ?_⟩
  unfold patSet at c1
  by_cases hc : canSet env1 i = true
  · rw [if_pos hc] at c1
    exact k1 _ G1 H1 _ (r1.setD hc p1) c1
  · rw [if_neg hc] at c1; exact c1.elim
/-- name = value, any way that it is stored -/
theorem ds_set {i : Nat} (h : PS X st (tAsg (TEd X.K de) (gName i))) : PSd X st (sAsg de (.nm i)) := PS.imp' h fun _ _ _ h => asgN_ok (fun _ _ _ h => h) h
theorem ds_setLc {i : Nat} {di : DI} {p : Pat} {vs : List Nat} (h : PS X st (tAsg (tLc (TId X.K di) (TGd X.K p) (TTd X.K t) (TEd X.K de) vs) (gName i))) (hp : p.inB vs = true) (hnd : vs.Nodup) : PSd X st (sAsg (dFz (fLc di p t de vs)) (.nm i)) :=
  PS.imp' h fun _ _ _ h => asgN_ok (fun _ _ _ h => lc_ok hp hnd (fz_ok h)) h
theorem ds_par {i j : Nat} {as : List Expr} (h : PS X st (tPar i j (TAd X.K (aCons da (aCons db aNil))))) (hij : i ≠ j) : PSd X st (sPar i j da db) := PS.imp' h fun E σ H ⟨B, G, env, DE, hB, r, q, k1, k⟩ =>
  ⟨B, G, env, fun ds env' => ∃ x y, ds = [x, y] ∧ (canSet env' i = true ∧ canSet env' j = true) ∧ DE.nx ((env'.set i (.fz x)).set j (.fz y)), r, by
    show da env fun x env1 => db env1 fun y env2 => aNil env2 fun xs env3 => _
    unfold sPar at q
    have hm : (fun (x : D) (env1 : SEnv) => db env1 fun y env2 => (canSet env2 i = true ∧ canSet env2 j = true) ∧ DE.nx ((env2.set i (.fz x)).set j (.fz y))) = (fun x env1 => db env1 fun y env2 => aNil env2 fun xs env3 => ∃ x' y', x :: y :: xs = [x', y'] ∧ (canSet env3 i = true ∧ canSet env3 j = true) ∧ DE.nx ((env3.set i (.fz x')).set j (.fz y'))) := by
      funext x env1
      congr 1
      funext y env2
      unfold aNil
      apply propext
      constructor
      · intro h; exact ⟨x, y, rfl, h⟩
      · rintro ⟨x', y', e, h⟩; cases e; exact h
    rw [hm] at q
    exact q, fun ds env' vs G' H' r' x p c => by
    obtain ⟨d1, d2, rfl, ⟨c1, c2⟩, c3⟩ := c
    obtain ⟨v1, vr, rfl, p1, v2, vr2, rfl, p2, rfl⟩ := p
    refine ⟨v1, v2, rfl, k1 _ G' H' _ ((r'.setD c1 p1).setD ?_ p2) c3⟩
    unfold canSet at c2 ⊢
    rw [List.getElem?_set_ne hij]
    exact c2⟩
/-- an owned list made -/
theorem own_ok {K : PySem.W.Frag} {df : DF} {te : TE} {i : Nat} {E : Ends} {σ : L2.St} {H : Hp} (hi : ∀ σ H Q, TEf K df σ H Q → te σ H Q) (h : TSd K (sOwn i df) E σ H) : tAsg te (gName i) E σ H := by
  obtain ⟨B, G, env, DE, hB, r, q, k1, k2, k3, k4⟩ := h
  exact hi _ _ _ ⟨B, G, env, _, r, q, fun xs env1 p vs G1 H1 r1 e1 g1 g2 g3 g4 g5 g6 c1 => k1 _ G1 H1 _ (r1.newOwn (s := .ol xs) hB c1.1.1 c1.1.2 g1 g2 g3 rfl ⟨vs, g4, g5, g6⟩) c1.2⟩
theorem ds_own {i : Nat} {df : DF} (h : PS X st (tAsg (TEf X.K df) (gName i))) : PSd X st (sOwn i df) := PS.imp' h fun _ _ _ h => own_ok (fun _ _ _ h => h) h
theorem ds_ownLc {i : Nat} {di : DI} {p : Pat} {vs : List Nat} (h : PS X st (tAsg (tLc (TId X.K di) (TGd X.K p) (TTd X.K t) (TEd X.K de) vs) (gName i))) (hp : p.inB vs = true) (hnd : vs.Nodup) : PSd X st (sOwn i (fLc di p t de vs)) :=
  PS.imp' h fun _ _ _ h => own_ok (fun _ _ _ h => lc_ok hp hnd h) h
/-- a list display, list(x): fresh -/
def fLst (da : DA) : DF := fun env R => da env fun xs env1 => xs.length ≤ sizeLine ∧ R xs env1
theorem fresh_new {K : PySem.W.Frag} {B : Bs} {G H : Hp} {σ : L2.St} {env : SEnv} (r : SRep K B G H σ env) {p : Addr} {o : HO} (hp : H p = none) : SRep K B G (upd H p o) σ env ∧ G p = none ∧ ¬ Owned σ env p ∧ B.H0 p = none := by
  have g := free_of r.sub hp
  have no : ¬ Owned σ env p := fun h => by obtain ⟨⟨o, h⟩, _⟩ := r.owned h; rw [hp] at h; cases h
  have h0 : B.H0 p = none := by
    cases z : B.H0 p with
    | none => rfl
    | some o => exact absurd hp (r.there (by rw [z]; simp))
  exact ⟨r.other g no h0, g, no, h0⟩
theorem df_lst {es : List Expr} {da : DA} (h : PAd X es da) : PEf X (.List es pos) (fLst da) := PE.imp' (pe_lst h) fun σ H Q ⟨B, G, env, R, r, q, k⟩ => ⟨B, G, env, _, r, q, fun xs env1 vs G1 H1 r1 e1 p1 c1 =>
  ⟨by rw [← Rps.len p1]; exact c1.1, fun p hp => by
    obtain ⟨a1, a2, a3, a4⟩ := fresh_new r1 (o := .lst vs) hp
    exact k xs env1 p vs G1 _ a1 e1 a2 a3 a4 upd_same c1.1 p1 c1.2⟩⟩
def fList (de : DE) : DF := fun env R => de env fun x env1 => match itemsOf x with
  | some xs => R xs env1
  | none => False
theorem df_list {x : Str} {p : Pos} (hg : Gl X x) (hm : X.mg x = none) (hv : bootBuiltins x = some (.type "list")) (ha : PEs X e de) (hn : x ≠ "__name__" := by decide) (hdb : (x == ("__debug__" : Str)) = false := by decide) (he : starEach [e] X.env = [(false, eval e X.env)] := by rfl) :
    PEf X (.Call (.Name x p) [e] [] pos) (fList de) := PE.imp' (pe_callTy call_list_of hg hm hv (pa1 ha he) hn hdb he rfl) fun σ H Q ⟨B, G, env, R, r, q, k⟩ => ⟨B, G, env, _, r, q, fun d env1 v G1 H1 r1 e1 p1 c1 => by
  cases ei : itemsOf d with
  | none => rw [ei] at c1; exact c1.elim
  | some xs =>
    rw [ei] at c1
    obtain ⟨a, vs, rfl, hs, hz, hp⟩ := items_rpS r1.sub ei p1
    refine ⟨a, vs, rfl, hs, fun l hl => ?_⟩
    obtain ⟨a1, a2, a3, a4⟩ := fresh_new r1 (o := .lst vs) hl
    exact k xs env1 l vs G1 _ a1 e1 a2 a3 a4 upd_same hz (rps_iff.mpr hp) c1⟩
/-- x.append(e) -/
theorem ds_app {i : Nat} {x : Str} {p apos cpos : Pos} (ho : PE X (.Name x p) (tVar i)) (he : PEd X e de) (hs : swapsWith (.Call (.Attribute (.Name x p) "append" apos) [e] [] cpos) none pos.line X.env = pure false := by rfl)
    (hbase : attributeBase (.Name x p) "append" X.env (eval (.Name x p) X.env) = eval (.Name x p) X.env := by rfl)
    (hfew : ((backTo cpos (starEach [e] X.env)).all (fun x => !x.1) && (backToKw cpos (keywordEach [] X.env)).all (fun x => x.1.isSome) && decide ([e].length + ([] : List Keyword).length + (if ([] : List Keyword).isEmpty then 0 else 1) < 30)) = true := by rfl)
    (hline : (apos.endLine == cpos.line) = true := by rfl) (hs2 : starEach [e] X.env = [(false, eval e X.env)] := by rfl) :
    PSd X (.Expr (.Call (.Attribute (.Name x p) "append" apos) [e] [] cpos) pos) (sApp i de) := PS.imp' (ps_expr (pe_bm PySem.F.plainAttrs_list PySem.F.slot_list_append PySem.F.type_list_append mt_append ho (pa_cons he pa_nil hs2) hbase hfew hline hs2 rfl) hs) fun E σ H ⟨B, G, env, DE, hB, r, q, k1, k⟩ => by
  unfold sApp at q
  split at q
  · rename_i xs0 e0
    obtain ⟨a, h1, h2, ⟨vs0, h3, h4, h5⟩, h6⟩ := r.ow i _ e0 rfl
    refine ⟨.ref a, h1, .inl ⟨rfl, _, SqL.of h3⟩, B, G, env, _, r, q, fun d env1 v G1 H1 r1 e1 p1 c1 => ?_⟩
    split at c1
    · rename_i xs e2
      obtain ⟨a', q1, q2, ⟨vs, q3, q4, q5⟩, q6⟩ := r1.ow i _ e2 rfl
      rw [h1] at q1
      cases q1
      refine ⟨a, vs, v, rfl, rfl, q3, by rw [← Rps.len q5]; exact c1.1, k1 _ G1 _ _ (r1.write (t := .ol (xs ++ [d])) e2 rfl h1 rfl ⟨vs ++ [v], upd_same, ?_, ?_⟩ fun ys _ => ⟨_, rfl⟩) c1.2⟩
      · rw [List.length_append, List.length_singleton]; omega
      · exact Rps.app q5 ⟨v, [], rfl, p1, rfl⟩
    · exact c1.elim
  · exact q.elim
/-- x[k] = v of an owned list -/
theorem ds_setIx {i : Nat} {x : Str} {p tpos : Pos} {o ke : Expr} {dk dv : DE} (h : PS X st (tAsg (TEd X.K dv) (gSub (tVar i) (TEd X.K dk) rSetL))) : PSd X st (sSetIx i dk dv) := PS.imp' h fun E σ H ⟨B, G, env, DE, hB, r, q, k1, k⟩ =>
  ⟨B, G, env, _, r, q, fun d env1 v G1 H1 r1 e1 p1 c1 => by
    split at c1
    · rename_i xs0 e0
      obtain ⟨a, h1, _⟩ := r1.ow i _ e0 rfl
      refine ⟨_, h1, B, G1, env1, _, r1, c1, fun kk env2 w G2 H2 r2 e2 p2 c2 => ?_⟩
      split at c2
      · rename_i xs j e3
        cases (show w = _ from p2)
        obtain ⟨a', q1, q2, ⟨vs, q3, q4, q5⟩, q6⟩ := r2.ow i _ e3 rfl
        rw [h1] at q1
        cases q1
        cases ej : ixN xs.length j with
        | none => rw [ej] at c2; exact c2.elim
        | some n =>
          rw [ej] at c2
          refine ⟨a, vs, j, n, rfl, rfl, q3, by rw [← Rps.len q5]; exact ej, k1 _ G2 _ _ (r2.write (t := .ol (xs.set n d)) e3 rfl h1 rfl ⟨vs.set n v, upd_same, ?_, ?_⟩ fun ys _ => ⟨_, rfl⟩) c2⟩
          · rw [List.length_set]; exact q4
          · exact rps_iff.mpr (pd_set (Rp.mono e2 _ _ p1) n (rps_iff.mp q5))
      · exact c2.elim
    · exact c1.elim⟩
theorem frz_ok {K : PySem.W.Frag} {i : Nat} {s : DS} {E : Ends} {σ : L2.St} {H : Hp} (h : TSd K (sFrz i s) E σ H) : TSd K s E σ H := by
  obtain ⟨B, G, env, DE, hB, r, q, k⟩ := h
  unfold sFrz at q
  split at q
  · rename_i xs e
    obtain ⟨G', _, r'⟩ := r.freeze hB e q.1
    exact ⟨B, G', _, DE, hB, r', q.2, k⟩
  · exact q.elim
theorem dss_frz {i : Nat} {s : DS} (h : PSsd X sts s) : PSsd X sts (sFrz i s) := PSs.imp' h fun _ _ _ h => frz_ok h
theorem ds_frz {i : Nat} {s : DS} (h : PSd X st s) : PSd X st (sFrz i s) := PS.imp' h fun _ _ _ h => frz_ok h
/-- for -/
theorem for_ok {K : PySem.W.Frag} {di : DI} {p : Pat} {b : DS} {E : Ends} {σ : L2.St} {H : Hp} (h : TSd K (sFor di p b) E σ H) : tFor (TId K di) (TGd K p) (TSd K b) E σ H := by
  obtain ⟨B, G, env, DE, hB, r, q, k1, k2, k3, k4⟩ := h
  refine ⟨B, G, env, _, r, q, fun items env1 J G1 H1 r1 ex1 itd c1 => ?_⟩
  refine ⟨fun i m σ H => m = items.length - i ∧ i ≤ items.length ∧ ∃ G env2, SRep K B G H σ env2 ∧ Ex G1 G ∧ forD p b DE (items.drop i) env2, ⟨items.length, by simp, Nat.zero_le _, G1, env1, r1, Same.refl G1, by rw [List.drop_zero]; exact c1⟩, ?_⟩
  rintro i m σ2 H2 ⟨rfl, hi, G2, env2, r2, ex2, c2⟩
  by_cases hlt : i < items.length
  · refine .inr ⟨itd.go i G2 H2 ex2 r2.sub hlt, fun σ' H' => ∃ G' env', SRep K B G' H' σ' env' ∧ Ex G1 G' ∧ forD p b DE (items.drop (i + 1)) env', fun σ' H' hh => ⟨items.length - (i + 1), by omega, rfl, hlt, hh⟩, fun x H' hy => ?_⟩
    obtain ⟨G3, d, nw, hd, hx⟩ := itd.yld i G2 H2 x H' ex2 r2.sub hlt hy
    have r3 := r2.ext nw
    have e3 : items.drop i = d :: items.drop (i + 1) := by
      rw [List.drop_eq_getElem_cons hlt]
      congr 1
      rw [List.getElem?_eq_getElem hlt] at hd
      exact Option.some.inj hd
    rw [e3] at c2
    unfold forD at c2
    cases ep : patSet p d env2 with
    | none => rw [ep] at c2; exact c2.elim
    | some env3 =>
      rw [ep] at c2
      -- the known part only grows: told by the base at this turn
      refine ⟨B, G3, env2, d, env3, r3, hx, ep, fun σ' r' w' => ?_⟩
      have hB' : Bs.fn { B with G0 := G3 } := hB
      have reb : SRep K { B with G0 := G3 } G3 H' σ' env3 := ⟨Same.refl G3, r'.sub, r'.fr, fun a h1 h2 => h2, r'.len, r'.fz, r'.ow, r'.dis, r'.mu, r'.pot, r'.lk⟩
      have unb : ∀ {Gx Hx : Hp} {σx : L2.St} {ex : SEnv}, SRep K { B with G0 := G3 } Gx Hx σx ex → SRep K B Gx Hx σx ex ∧ Ex G1 Gx := fun {Gx Hx σx ex} rx =>
        ⟨⟨r'.g0.trans rx.g0, rx.sub, rx.fr, fun a h1 h2 => rx.no a h1 (r'.no a h1 h2), rx.len, rx.fz, rx.ow, rx.dis, rx.mu, rx.pot, rx.lk⟩, (ex2.trans nw.ex).trans rx.g0⟩
      exact ⟨{ B with G0 := G3 }, G3, env3, _, hB', reb, c2, fun σ4 G4 H4 env4 r4 c4 => ⟨G4, env4, (unb r4).1, (unb r4).2, c4⟩, fun d v σ4 G4 H4 env4 r4 => k2 d v σ4 G4 H4 env4 (unb r4).1, fun σ4 G4 H4 env4 r4 => k1 σ4 G4 H4 env4 (unb r4).1, fun σ4 G4 H4 env4 r4 c4 => ⟨G4, env4, (unb r4).1, (unb r4).2, c4⟩⟩
  · have ei : i = items.length := by omega
    subst ei
    rw [List.drop_length] at c2
    exact .inl ⟨itd.stop G2 H2 ex2 r2.sub, k1 σ2 G2 H2 env2 r2 c2⟩
theorem ds_for {tg iter : Expr} {body : List Stmt} {di : DI} {p : Pat} {b : DS} (hp : PassesOwn (model X.prog X.w) X.A X.env X.xe) (hc : X.calm = true) (hi : PId X tg iter di) (hg : PGd X tg p) (hb : PSsd X body b) (hs : ∀ x, foldedSetIterable iter X.env x = pure x := by intro _; rfl) :
    PSd X (.For tg iter body [] pos) (sFor di p b) := PS.imp' (ps_for hp hc hi hg hb hs) fun _ _ _ h => for_ok h
theorem wh_ok {K : PySem.W.Frag} {E : Ends} {σ : L2.St} {H : Hp} (h : TSd K (sWhile t a) E σ H) : tWhile (TTd K t) (TSd K a) E σ H := by
  obtain ⟨B, G, env, DE, hB, r, ⟨n, q⟩, k1, k2, k3, k4⟩ := h
  refine ⟨fun m σ H => ∃ G env, SRep K B G H σ env ∧ whD t a DE m env, ⟨n, G, env, r, q⟩, ?_⟩
  rintro m σ2 H2 ⟨G2, env2, r2, c2⟩
  cases m with
  | zero => exact c2.elim
  | succ m =>
    refine ⟨B, G2, env2, _, r2, c2, fun bb env3 G3 H3 r3 e3 c3 => ?_⟩
    cases bb with
    | true =>
      rw [if_pos rfl] at c3
      refine iteT ?_
      exact ⟨fun σ' H' => ∃ G' env', SRep K B G' H' σ' env' ∧ whD t a DE m env', fun σ' H' hh => ⟨m, Nat.lt_succ_self m, hh⟩, B, G3, env3, _, hB, r3, c3, fun σ4 G4 H4 env4 r4 c4 => ⟨G4, env4, r4, c4⟩, k2, k1, fun σ4 G4 H4 env4 r4 c4 => ⟨G4, env4, r4, c4⟩⟩
    | false =>
      rw [if_neg Bool.false_ne_true] at c3
      refine iteF ?_
      exact k1 σ2 G3 H3 env3 r3 c3
theorem ds_while {c : Expr} {body : List Stmt} (hp : PassesOwn (model X.prog X.w) X.A X.env X.xe) (hc : PTd X c t) (hb : PSsd X body a) : PSd X (.While c body [] pos) (sWhile t a) := PS.imp' (ps_while hp hc hb) fun _ _ _ h => wh_ok h
end
end FL

namespace FL
open PySem PySem.Spec PyProof.Rows L2

/-! ### defs and their calls -/
/-- a def over plain data: from its arguments' data what is wanted of its value's -/
def spF (n : Nat) (F : FSpec) (K : PySem.W.Frag) : Sp := fun vs H Q _ => ∃ G ds R, Ex G H ∧ Rps K G ds vs ∧ ds.length = n ∧ F ds R ∧ ∀ d v G' H', Nw G H G' H' → Rp K G' d v → R d → Q v H'
/-- a def with a borrowed list ahead of its other arguments -/
def spP (n : Nat) (F : PSpec) (K : PySem.W.Frag) : Sp := fun vs H Q _ => ∃ G a ys avs ds ws R, vs = V.ref a :: ws ∧ Ex G H ∧ G a = none ∧ H a = some (.lst avs) ∧ ys.length ≤ sizeLine ∧ Rps K G ys avs ∧ Rps K G ds ws ∧ ds.length = n ∧ F ys ds R ∧
  ∀ d zs v G' H' zvs, Ex G G' → Ex G' H' → (∀ b o, H b = some o → b ≠ a → H' b = some o) → (∀ b, H b ≠ none → G b = none → G' b = none) → H' a = some (.lst zvs) → zs.length ≤ sizeLine → Rps K G' zs zvs → Rp K G' d v → R d zs → Q v H'
/-- a def that stands in the module, and keeps its promise -/
def Cal (P : Program) (w : World) (K : PySem.W.Frag) (mg : Str → Option Value) (base : Heap) (k : Nat) (x : Str) (sp : Sp) : Prop :=
  ∃ f fd ps, FnOk P w K mg base CX0 k f fd ps sp ∧ mg x = some (.ref f) ∧ PySem.W.keepIn K (.ref f) = true ∧ Binds K fd ps []
section
variable {P : Program} {w : World} {K : PySem.W.Frag} {mg : Str → Option Value} {base : Heap}
theorem Cal.mono {j k : Nat} {x : Str} {sp : Sp} (c : Cal P w K mg base j x sp) (h : j ≤ k) : Cal P w K mg base k x sp := by
  obtain ⟨f, fd, ps, F, r⟩ := c
  exact ⟨f, fd, ps, F.mono h, r⟩
def env0 (N : List Str) (as : List D) : SEnv := as.map Sl.fz ++ List.replicate (N.length - as.length) Sl.no
theorem start_get {N : List Str} {vs : List V} {i : Nat} {v : V} (h : vs[i]? = some v) : (L2.start N vs)[i]? = some (some v) := by
  unfold L2.start
  have hi := (List.getElem?_eq_some_iff.mp h).1
  rw [List.getElem?_append_left (by rw [List.length_map]; exact hi), List.getElem?_map, h]
  rfl
theorem env0_fz {N : List Str} {as : List D} {i : Nat} {s : Sl} (h : (env0 N as)[i]? = some s) : (∃ d, as[i]? = some d ∧ s = .fz d) ∨ s = .no := by
  unfold env0 at h
  by_cases hi : i < as.length
  · rw [List.getElem?_append_left (by rw [List.length_map]; exact hi), List.getElem?_map] at h
    rw [List.getElem?_eq_getElem hi] at h
    exact .inl ⟨_, List.getElem?_eq_getElem hi, (Option.some.inj h).symm⟩
  · rw [List.getElem?_append_right (by rw [List.length_map]; omega)] at h
    right
    have := List.mem_of_getElem? h
    exact (List.mem_replicate.mp this).2
theorem srep_start {N : List Str} {G H : Hp} {ds : List D} {vs : List V} (s : Ex G H) (h : Rps K G ds vs) (hl : vs.length ≤ N.length) : SRep K ⟨G, H, fun _ => False, none, fun _ => none⟩ G H (L2.start N vs) (env0 N ds) where
  g0 := Same.refl G
  sub := s
  fr := fun a o h _ => h
  no := fun a _ h => h
  len := by
    have := Rps.len h
    unfold L2.start env0
    rw [List.length_append, List.length_map, List.length_replicate, List.length_append, List.length_map, List.length_replicate]
    omega
  fz := fun i d e => by
    rcases env0_fz e with ⟨d', e1, e2⟩ | e2
    · cases e2
      obtain ⟨v, h1, h2⟩ := pd_get (rps_iff.mp h) e1
      exact ⟨v, start_get h1, h2⟩
    · cases e2
  ow := fun i s' e1 e2 => by
    rcases env0_fz e1 with ⟨d', _, e3⟩ | e3 <;> (rw [e3] at e2; cases e2)
  dis := fun i j s' t a e1 e2 => by
    rcases env0_fz e1 with ⟨d', _, e3⟩ | e3 <;> (rw [e3] at e2; cases e2)
  mu := fun a h => h.elim
  pot := fun a h => by cases h
  lk := fun i a h => by cases h
theorem fn_pure {x qual : Str} {st : Stmt} {f : Addr} {fd : FuncData} {N ps : List Str} {k : Nat} {F : FSpec} {ds : DS} (Fn : Fun K x qual st f fd) (S : FnScope N ps (defScope st))
    (hb : ∀ (cdv : Value) (A : Around) (outer : List PySem.Env) (s : Shared) (H : Hp) (E : XK), Room k (A.deeper (envOfC qual (defScope st) s.heap.objs.size f cdv)) → PSsd (cxOf CX0 P w K mg base N qual (defScope st) f cdv A outer s H E).nox (defBody st) ds)
    (hF : ∀ as R, as.length = ps.length → F as R → ds { nx := fun _ => R .non, rt := fun d _ => R d } (env0 N as)) : FnOk P w K mg base CX0 (k + 1) f fd ps (spF ps.length F K) := by
  refine Fn.ok S (fun vs H Q E h => ?_) (fun cdv A outer s H vs Q E hr h => ⟨TSd K ds, hb cdv A outer s H E hr, ?_⟩)
  · obtain ⟨G, as, R, _, h1, h2, _⟩ := h
    rw [← Rps.len h1, h2]
  · obtain ⟨G, as, R, s0, h1, h2, h3, k1⟩ := h
    have hl : vs.length ≤ N.length := by
      rw [← Rps.len h1, h2]
      have := congrArg List.length S.pre
      rw [List.length_take] at this
      omega
    have fin : ∀ {σ' : L2.St} {G' H' : Hp} {env' : SEnv}, SRep K ⟨G, H, fun _ => False, none, fun _ => none⟩ G' H' σ' env' → Nw G H G' H' := fun r => ⟨r.g0, fun a o e => r.fr a o e (fun z => z), r.sub, r.no⟩
    exact ⟨⟨G, H, fun _ => False, none, fun _ => none⟩, G, env0 N as, _, fun a h => h.elim, srep_start s0 h1 hl, hF as R h2 h3, fun σ' G' H' env' r c => k1 .non .non G' H' (fin r) rfl c, fun d v σ' G' H' env' r p c => k1 d v G' H' (fin r) p c, fun _ _ _ _ _ c => c.elim, fun _ _ _ _ _ c => c.elim⟩
def envP (N : List Str) (ys : List D) (as : List D) : SEnv := Sl.ol ys :: (as.map Sl.fz ++ List.replicate (N.length - (as.length + 1)) Sl.no)
theorem srep_startP {N : List Str} {G H : Hp} {ds ys : List D} {avs ws : List V} {a : Addr} (s : Ex G H) (ha : G a = none) (hH : H a = some (.lst avs)) (hz : ys.length ≤ sizeLine) (hy : Rps K G ys avs) (h : Rps K G ds ws) (hl : (V.ref a :: ws).length ≤ N.length) :
    SRep K ⟨G, H, fun b => b = a, some a, fun _ => none⟩ G H (L2.start N (V.ref a :: ws)) (envP N ys ds) where
  g0 := Same.refl G
  sub := s
  fr := fun a o h _ => h
  no := fun a _ h => h
  len := by
    have := Rps.len h
    rw [List.length_cons] at hl
    unfold L2.start envP
    rw [List.length_append, List.length_map, List.length_replicate, List.length_cons, List.length_cons, List.length_append, List.length_map, List.length_replicate]
    omega
  fz := fun i d e => by
    cases i with
    | zero => cases e
    | succ i =>
      have e' : (ds.map Sl.fz ++ List.replicate (N.length - (ds.length + 1)) Sl.no)[i]? = some (.fz d) := e
      by_cases hi : i < ds.length
      · rw [List.getElem?_append_left (by rw [List.length_map]; exact hi), List.getElem?_map, List.getElem?_eq_getElem hi] at e'
        cases e'
        obtain ⟨v, h1, h2⟩ := pd_get (rps_iff.mp h) (List.getElem?_eq_getElem hi)
        exact ⟨v, start_get (by rw [List.getElem?_cons_succ]; exact h1), h2⟩
      · rw [List.getElem?_append_right (by rw [List.length_map]; omega)] at e'
        have := (List.mem_replicate.mp (List.mem_of_getElem? e')).2
        cases this
  ow := fun i s' e1 e2 => by
    cases i with
    | zero =>
      cases (show some (Sl.ol ys) = some s' from e1)
      exact ⟨a, start_get rfl, ha, ⟨avs, hH, hz, hy⟩, .inr (.inl rfl)⟩
    | succ i =>
      have e' : (ds.map Sl.fz ++ List.replicate (N.length - (ds.length + 1)) Sl.no)[i]? = some s' := e1
      by_cases hi : i < ds.length
      · rw [List.getElem?_append_left (by rw [List.length_map]; exact hi), List.getElem?_map, List.getElem?_eq_getElem hi] at e'
        cases e'
        cases e2
      · rw [List.getElem?_append_right (by rw [List.length_map]; omega)] at e'
        rw [(List.mem_replicate.mp (List.mem_of_getElem? e')).2] at e2
        cases e2
  dis := fun i j s' t c e1 e2 e3 e4 e5 e6 => by
    have low : ∀ (i : Nat) (s' : Sl), (envP N ys ds)[i]? = some s' → s'.isOwn = true → i = 0 := fun i s' e1 e2 => by
      cases i with
      | zero => rfl
      | succ i =>
        have e' : (ds.map Sl.fz ++ List.replicate (N.length - (ds.length + 1)) Sl.no)[i]? = some s' := e1
        by_cases hi : i < ds.length
        · rw [List.getElem?_append_left (by rw [List.length_map]; exact hi), List.getElem?_map, List.getElem?_eq_getElem hi] at e'
          cases e'
          cases e2
        · rw [List.getElem?_append_right (by rw [List.length_map]; omega)] at e'
          rw [(List.mem_replicate.mp (List.mem_of_getElem? e')).2] at e2
          cases e2
    rw [low i s' e1 e2, low j t e3 e4]
  mu := fun b h => by
    cases h
    exact ⟨0, .ol ys, rfl, rfl, rfl, start_get rfl⟩
  pot := fun b h => by
    cases h
    exact ⟨start_get rfl, ys, rfl⟩
  lk := fun i b h => by cases h
theorem fn_pot {x qual : Str} {st : Stmt} {f : Addr} {fd : FuncData} {N ps : List Str} {k : Nat} {F : PSpec} {ds : DS} {n : Nat} (Fn : Fun K x qual st f fd) (S : FnScope N ps (defScope st)) (hn : ps.length = n + 1)
    (hb : ∀ (cdv : Value) (A : Around) (outer : List PySem.Env) (s : Shared) (H : Hp) (E : XK), Room k (A.deeper (envOfC qual (defScope st) s.heap.objs.size f cdv)) → PSsd (cxOf CX0 P w K mg base N qual (defScope st) f cdv A outer s H E).nox (defBody st) ds)
    (hF : ∀ ys as R, as.length = n → F ys as R → ds { nx := fun env => ∃ zs, env[0]? = some (.ol zs) ∧ R .non zs, rt := fun d env => ∃ zs, env[0]? = some (.ol zs) ∧ R d zs } (envP N ys as)) : FnOk P w K mg base CX0 (k + 1) f fd ps (spP n F K) := by
  refine Fn.ok S (fun vs H Q E h => ?_) (fun cdv A outer s H vs Q E hr h => ⟨TSd K ds, hb cdv A outer s H E hr, ?_⟩)
  · obtain ⟨G, a, ys, avs, as, ws, R, rfl, _, _, _, _, _, h1, h2, _⟩ := h
    rw [List.length_cons, ← Rps.len h1, h2, hn]
  · obtain ⟨G, a, ys, avs, as, ws, R, rfl, s0, g1, g2, g3, g4, h1, h2, h3, k1⟩ := h
    have hl : (V.ref a :: ws).length ≤ N.length := by
      rw [List.length_cons, ← Rps.len h1, h2]
      have := congrArg List.length S.pre
      rw [List.length_take] at this
      omega
    have fin : ∀ {σ' : L2.St} {G' H' : Hp} {env' : SEnv} {d : D} {v : V}, SRep K ⟨G, H, fun b => b = a, some a, fun _ => none⟩ G' H' σ' env' → Rp K G' d v → (∃ zs, env'[0]? = some (.ol zs) ∧ R d zs) → Q v H' := fun {σ' G' H' env' d v} r p ⟨zs, e, c⟩ => by
      obtain ⟨q1, _⟩ := r.pot a rfl
      obtain ⟨b, f1, f2, ⟨zvs, f3, f4, f5⟩, _⟩ := r.ow 0 _ e rfl
      rw [q1] at f1
      cases f1
      exact k1 d zs v G' H' zvs r.g0 r.sub (fun b o e hne => r.fr b o e hne) r.no f3 f4 f5 p c
    exact ⟨⟨G, H, fun b => b = a, some a, fun _ => none⟩, G, envP N ys as, _, fun b h => by cases h; rfl, srep_startP s0 g1 g2 g3 g4 h1 hl, hF ys as R h2 h3, fun σ' G' H' env' r c => fin (v := .non) (d := .non) r rfl c, fun d v σ' G' H' env' r p c => fin r p c, fun _ _ _ _ _ c => c.elim, fun _ _ _ _ _ c => c.elim⟩
end
section
variable {K : PySem.W.Frag} {B : Bs} {G H G' H' : Hp} {σ : L2.St} {env : SEnv}
/-- a borrowed list comes back -/
theorem SRep.borrow (r : SRep K B G H σ env) {i : Nat} {a : Addr} {ys zs : List D} {zvs : List V} (h1 : env[i]? = some (.ol ys)) (h3 : σ[i]? = some (some (V.ref a))) (x1 : Ex G G') (x2 : Ex G' H') (x3 : ∀ b o, H b = some o → b ≠ a → H' b = some o)
    (x4 : ∀ b, H b ≠ none → G b = none → G' b = none) (x5 : H' a = some (.lst zvs)) (x6 : zs.length ≤ sizeLine) (x7 : Rps K G' zs zvs) : SRep K B G' H' σ (env.set i (.ol zs)) := by
  obtain ⟨b, g1, g2, g3, g4⟩ := r.ow i _ h1 rfl
  rw [h3] at g1
  cases g1
  obtain ⟨oa, hoa⟩ := g3.some
  have hi : i < env.length := (List.getElem?_eq_some_iff.mp h1).1
  have cas : ∀ (j : Nat) (u : Sl), (env.set i (.ol zs))[j]? = some u → (i = j ∧ u = .ol zs) ∨ (i ≠ j ∧ env[j]? = some u) := fun j u e => by
    by_cases z : i = j
    · subst z
      rw [List.getElem?_set_self hi] at e
      cases e
      exact .inl ⟨rfl, rfl⟩
    · rw [List.getElem?_set_ne z] at e
      exact .inr ⟨z, e⟩
  refine ⟨r.g0.trans x1, x2, fun c u e m => ?_, fun c e1 e2 => x4 c (r.there e1) (r.no c e1 e2), by rw [List.length_set]; exact r.len, fun j d e => ?_, fun j u e1 e2 => ?_, fun j k u w c e1 e2 e3 e4 e5 e6 => ?_, fun c h => ?_, fun c h => ?_, fun q c h => ?_⟩
  · refine x3 c u (r.fr c u e m) fun z => ?_
    subst z
    rcases g4 with z | z | z
    · rw [z] at e; cases e
    · exact m z
    · cases z
  · rcases cas j _ e with ⟨z, e'⟩ | ⟨z, e'⟩
    · cases e'
    · obtain ⟨v, q1, q2⟩ := r.fz j d e'
      exact ⟨v, q1, Rp.mono x1 _ _ q2⟩
  · rcases cas j u e1 with ⟨z, e'⟩ | ⟨z, e'⟩
    · subst z e'
      exact ⟨a, h3, x4 a (by rw [hoa]; simp) g2, ⟨zvs, x5, x6, x7⟩, g4⟩
    · obtain ⟨c, q1, q2, q3, q4⟩ := r.ow j u e' e2
      obtain ⟨o, hc⟩ := q3.some
      have hca : c ≠ a := fun hca => z (r.dis i j _ u a h1 rfl e' e2 h3 (by rw [q1, hca]))
      exact ⟨c, q1, x4 c (by rw [hc]; simp) q2, q3.mono x1 ((x3 c o hc hca).trans hc.symm), q4⟩
  · have e1' : ∃ s', env[j]? = some s' ∧ s'.isOwn = true := by
      rcases cas j u e1 with ⟨z, _⟩ | ⟨z, e'⟩
      · subst z; exact ⟨_, h1, rfl⟩
      · exact ⟨u, e', e2⟩
    have e3' : ∃ s', env[k]? = some s' ∧ s'.isOwn = true := by
      rcases cas k w e3 with ⟨z, _⟩ | ⟨z, e'⟩
      · subst z; exact ⟨_, h1, rfl⟩
      · exact ⟨w, e', e4⟩
    obtain ⟨s1, q1, q2⟩ := e1'
    obtain ⟨s2, q3, q4⟩ := e3'
    exact r.dis j k s1 s2 c q1 q2 q3 q4 e5 e6
  · obtain ⟨j, u, e1, e2, e0, e3⟩ := r.mu c h
    by_cases z : i = j
    · subst z
      exact ⟨i, .ol zs, List.getElem?_set_self hi, rfl, rfl, e3⟩
    · exact ⟨j, u, by rw [List.getElem?_set_ne z]; exact e1, e2, e0, e3⟩
  · obtain ⟨e1, xs, e2⟩ := r.pot c h
    by_cases z : i = 0
    · subst z
      exact ⟨e1, zs, List.getElem?_set_self hi⟩
    · exact ⟨e1, xs, by rw [List.getElem?_set_ne z]; exact e2⟩
  · obtain ⟨e1, p, kvs, e2⟩ := r.lk q c h
    have z : i ≠ q := fun z => by
      subst z
      rw [h1] at e2
      cases e2
    exact ⟨e1, p, kvs, by rw [List.getElem?_set_ne z]; exact e2⟩
end
section
variable {X : Cx} {k n : Nat} {x : Str} {p pos : Pos} {e : Expr} {es : List Expr} {da : DA}
theorem de_call {F : FSpec} {k' : Nat} (c : Cal X.prog X.w X.K X.mg X.base k x (spF n F X.K)) (hr : Room k' X.A) (hk : k ≤ k') (hg : Gl X x) (ha : PAd X (e :: es) da) (hdb : (x == ("__debug__" : Str)) = false := by decide)
    (he : starEach (e :: es) X.env = (false, eval e X.env) :: starEach es X.env := by rfl) (hpl : (backTo pos (starEach es X.env)).any (·.1) = false := by rfl) :
    PEd X (.Call (.Name x p) (e :: es) [] pos) (dCall n F da) := by
  obtain ⟨f, fd, ps, Fk, hm, hkp, hb⟩ := c
  refine PE.imp' (pe_call Fk (hr.mono hk) hg hm hkp hb .nil pass0 ha hdb he hpl) fun σ H Q ⟨B, G, env, R, r, q, k⟩ => ⟨B, G, env, _, r, q, fun xs env1 vs G1 H1 r1 e1 p1 c1 => ?_⟩
  show spF n F X.K (vs ++ []) H1 Q E0
  rw [List.append_nil]
  exact ⟨G1, xs, _, r1.sub, p1, c1.1, c1.2, fun d v G2 H2 nw p2 c2 => k d env1 v G2 H2 (r1.ext nw) (e1.trans nw.ex) p2 c2⟩
/-- a call with a borrowed list (the name in slot i) ahead -/
theorem de_callP {F : PSpec} {k' i : Nat} {y : Str} {py : Pos} (c : Cal X.prog X.w X.K X.mg X.base k x (spP n F X.K)) (hr : Room k' X.A) (hk : k ≤ k') (hg : Gl X x) (ho : PE X (.Name y py) (tVar i)) (ha : PAd X es da) (hdb : (x == ("__debug__" : Str)) = false := by decide)
    (he : starEach (.Name y py :: es) X.env = (false, eval (.Name y py) X.env) :: starEach es X.env := by rfl) (hpl : (backTo pos (starEach es X.env)).any (·.1) = false := by rfl) :
    PEd X (.Call (.Name x p) (.Name y py :: es) [] pos) (dCallP n F i da) := by
  obtain ⟨f, fd, ps, Fk, hm, hkp, hb⟩ := c
  refine PE.imp' (pe_call Fk (hr.mono hk) hg hm hkp hb .nil pass0 (pa_cons ho ha he) hdb he hpl) fun σ H Q ⟨B, G, env, R, r, q, k⟩ => ?_
  unfold dCallP at q
  split at q
  · rename_i xs0 e0
    obtain ⟨a, h1, h2, ⟨vs0, h3, h4, h5⟩, h6⟩ := r.ow i _ e0 rfl
    refine ⟨_, h1, B, G, env, _, r, q, fun xs env1 vs G1 H1 r1 e1 p1 c1 => ?_⟩
    split at c1
    · rename_i ys e2
      obtain ⟨c0, c1⟩ := c1
      obtain ⟨a', q1, q2, ⟨avs, q3, q4, q5⟩, q6⟩ := r1.ow i _ e2 rfl
      rw [h1] at q1
      cases q1
      show spP n F X.K ((V.ref a :: vs) ++ []) H1 Q E0
      rw [List.append_nil]
      exact ⟨G1, a, ys, avs, xs, vs, _, rfl, r1.sub, q2, q3, q4, q5, p1, c0, c1, fun d zs v G' H' zvs x1 x2 x3 x4 x5 x6 x7 x8 c2 => k d (env1.set i (.ol zs)) v G' H' (r1.borrow e2 h1 x1 x2 x3 x4 x5 x6 x7) (e1.trans x1) x8 c2⟩
    · exact c1.elim
  · exact q.elim
end
end FL

namespace FL
open PySem PySem.Spec PyProof.Rows L2

/-! ### owned dicts with int and text keys -/
def keyOf : D → Option Key
  | .int i => some (.inl i)
  | .str s => some (.inr s)
  | _ => none
def kD : Key → D
  | .inl i => .int i
  | .inr s => .str s
def valD (kvs : List (Key × D)) (k : Key) : Option D := (kvs.find? fun kv => decide (kv.1 = k)).map (·.2)
def putD (kvs : List (Key × D)) (k : Key) (d : D) : List (Key × D) := if kvs.any (fun kv => decide (kv.1 = k)) then kvs.map (fun kv => if kv.1 = k then (kv.1, d) else kv) else kvs ++ [(k, d)]
def dictOf : Option Sl → Option (List (Key × D))
  | some (.od kvs) => some kvs
  | some (.ld _ kvs) => some kvs
  | _ => none
/-- x[k] of an owned dict -/
def dDGet (i : Nat) (dk : DE) : DE := fun env R => match dictOf env[i]? with
  | some _ => dk env fun k env1 => (match dictOf env1[i]?, keyOf k with
    | some kvs, some key => (match valD kvs key with
      | some d => R d env1
      | none => False)
    | _, _ => False)
  | none => False
/-- x[k] = v of an owned dict -/
def sDPutD (i : Nat) (dk dv : DE) : DS := fun E env => dv env fun d env1 => (match env1[i]? with
  | some (.od _) => dk env1 fun k env2 => (match env2[i]?, keyOf k with
    | some (.od kvs), some key => kvs.length < sizeLine ∧ E.nx (env2.set i (.od (putD kvs key d)))
    | _, _ => False)
  | _ => False)
abbrev DFD := SEnv → (List (Key × D) → SEnv → Prop) → Prop
def sOwnD (i : Nat) (df : DFD) : DS := fun E env => df env fun xs env1 => (i < env1.length ∧ (canSet env1 i = true ∨ (i ≠ 0 ∧ noLd env1 i = true))) ∧ E.nx (env1.set i (.od xs))
def fNewD : DFD := fun env R => R [] env
def pairsOf : List D → Option (List (Key × D))
  | [] => some []
  | .tup [k, v] :: r => (match keyOf k, pairsOf r with
    | some key, some kvs => some ((key, v) :: kvs)
    | _, _ => none)
  | _ :: _ => none
def mergeD (kvs more : List (Key × D)) : List (Key × D) := more.foldl (fun acc kv => putD acc kv.1 kv.2) kvs
/-- dict(list of pairs) -/
def fDictP (de : DE) : DFD := fun env R => de env fun x env1 => match x with
  | .lst xs => (match pairsOf xs with | some kvs => R (mergeD [] kvs) env1 | none => False)
  | _ => False
/-- list(d.values()) -/
def dListVals (i : Nat) : DE := fun env R => match env[i]? with
  | some (.od kvs) => R (.lst (kvs.map (·.2))) env
  | _ => False
/-- for k in d, d an owned dict (locked meanwhile) -/
def unE (i : Nat) (o : Obj) (E : DEnds) : DEnds := ⟨fun env' => ∃ ws, env'[i]? = some (.ld o ws) ∧ E.nx (env'.set i (.od ws)), fun d env' => ∃ ws, env'[i]? = some (.ld o ws) ∧ E.rt d (env'.set i (.od ws)),
      fun env' => ∃ ws, env'[i]? = some (.ld o ws) ∧ E.bk (env'.set i (.od ws)), fun env' => ∃ ws, env'[i]? = some (.ld o ws) ∧ E.ct (env'.set i (.od ws))⟩
def sKeys (i : Nat) (p : Pat) (b : DS) : DS := fun E env => match env[i]? with
  | some (.od kvs) => i ≠ 0 ∧ ∀ o, forD p b (unE i o E) (kvs.map fun q => kD q.1) (env.set i (.ld o kvs))
  | _ => False
section
variable {K : PySem.W.Frag} {B : Bs} {G H G' H' : Hp} {σ : L2.St} {env : SEnv}
theorem rp_key {d : D} {v : V} {k : Key} (e : keyOf d = some k) (h : Rp K G d v) : v = kV k := by
  cases d <;> cases e
  · exact h
  · exact h
theorem rpk_val {kvs : List (Key × D)} {ws : List (Key × V)} (r : RpK K G kvs ws) (k : Key) : (∀ d, valD kvs k = some d → ∃ v, valV ws k = some v ∧ Rp K G d v) ∧ (valD kvs k = none → valV ws k = none) := by
  unfold valD valV
  induction r with
  | nil => exact ⟨fun d h => (by cases h), fun _ => rfl⟩
  | cons h t ih =>
    rename_i p q l1 l2
    obtain ⟨h1, h2⟩ := h
    by_cases c : p.1 = k
    · rw [List.find?_cons, decide_eq_true c, List.find?_cons, decide_eq_true (h1 ▸ c)]
      exact ⟨fun d hd => (by cases hd; exact ⟨_, rfl, h2⟩), fun hd => (by cases hd)⟩
    · rw [List.find?_cons, decide_eq_false c, List.find?_cons, decide_eq_false (fun z => c (h1.trans z))]
      exact ih
theorem rpk_any {kvs : List (Key × D)} {ws : List (Key × V)} (r : RpK K G kvs ws) (k : Key) : (kvs.any fun kv => decide (kv.1 = k)) = ws.any fun kv => decide (kv.1 = k) := by
  induction r with
  | nil => rfl
  | cons h t ih => rw [List.any_cons, List.any_cons, ih, h.1]
theorem rpk_map {f : Key × D → Key × D} {g : Key × V → Key × V} (hh : ∀ (p : Key × D) (q : Key × V), p.1 = q.1 → Rp K G p.2 q.2 → (f p).1 = (g q).1 ∧ Rp K G (f p).2 (g q).2) : ∀ {l₁ : List (Key × D)} {l₂ : List (Key × V)}, RpK K G l₁ l₂ → RpK K G (l₁.map f) (l₂.map g)
  | _, _, .nil => .nil
  | _, _, .cons h t => .cons (hh _ _ h.1 h.2) (rpk_map hh t)
theorem rpk_put {kvs : List (Key × D)} {ws : List (Key × V)} (r : RpK K G kvs ws) (k : Key) {d : D} {v : V} (h : Rp K G d v) : RpK K G (putD kvs k d) (putK ws k v) := by
  unfold putD putK
  rw [rpk_any r k]
  split
  · refine rpk_map (fun p q h1 h2 => ?_) r
    by_cases c : p.1 = k
    · rw [if_pos c, if_pos (h1 ▸ c)]
      exact ⟨h1, h⟩
    · rw [if_neg c, if_neg (fun z => c (h1.trans z))]
      exact ⟨h1, h2⟩
  · exact pd_app r (.cons ⟨rfl, h⟩ .nil)
theorem rpk_merge {more : List (Key × D)} : ∀ {mv : List (Key × V)} {kvs : List (Key × D)} {ws : List (Key × V)}, RpK K G more mv → RpK K G kvs ws → RpK K G (mergeD kvs more) (mergeK ws mv) := by
  induction more with
  | nil => intro mv kvs ws h r; cases h; exact r
  | cons p more ih =>
    intro mv kvs ws h r
    cases h with
    | cons h1 h2 =>
      rename_i q mv'
      show RpK K G (mergeD (putD kvs p.1 p.2) more) (mergeK (putK ws q.1 q.2) mv')
      rw [h1.1]
      exact ih h2 (rpk_put r q.1 h1.2)
theorem putD_len (kvs : List (Key × D)) (k : Key) (d : D) : (putD kvs k d).length ≤ kvs.length + 1 := by
  unfold putD
  split
  · rw [List.length_map]; omega
  · rw [List.length_append]; exact Nat.le_refl _
theorem dict_at (r : SRep K B G H σ env) {i : Nat} {kvs : List (Key × D)} (e : dictOf env[i]? = some kvs) : ∃ a ws, σ[i]? = some (some (V.ref a)) ∧ Rd H a (.dK ws) ∧ kvs.length ≤ sizeLine ∧ RpK K G kvs ws := by
  cases e1 : env[i]? with
  | none => rw [e1] at e; cases e
  | some s =>
    rw [e1] at e
    cases s <;> cases e
    · obtain ⟨a, h1, h2, ⟨ws, h3, h4, h5⟩, _⟩ := r.ow i _ e1 rfl
      exact ⟨a, ws, h1, .inl h3, h4, h5⟩
    · obtain ⟨a, h1, h2, ⟨ws, h3, h4, h5⟩, _⟩ := r.ow i _ e1 rfl
      exact ⟨a, ws, h1, .inr ⟨_, h3⟩, h4, h5⟩
end
section
variable {X : Cx} {st : Stmt} {x : Str} {e ke : Expr} {p pos pos' : Pos} {i : Nat} {dk dv de : DE}
theorem de_dget (hu : X.A.units + 1 < cLine) (ho : PE X (.Name x p) (tVar i)) (hk : PEd X ke dk) (hs : NoSl ke) : PEd X (.Subscript (.Name x p) ke pos) (dDGet i dk) := PE.imp' (pe_dget hu ho hk hs) fun σ H Q ⟨B, G, env, R, r, q, k⟩ => by
  unfold dDGet at q
  cases e0 : dictOf env[i]? with
  | none => rw [e0] at q; exact q.elim
  | some kvs0 =>
    rw [e0] at q
    obtain ⟨a, ws0, h1, _⟩ := dict_at r e0
    refine ⟨_, h1, B, G, env, _, r, q, fun kk env1 v G1 H1 r1 e1 p1 c1 => ?_⟩
    cases e2 : dictOf env1[i]? with
    | none => rw [e2] at c1; exact c1.elim
    | some kvs =>
      rw [e2] at c1
      cases e3 : keyOf kk with
      | none => rw [e3] at c1; exact c1.elim
      | some key =>
        rw [e3] at c1
        simp only at c1
        cases e4 : valD kvs key with
        | none => rw [e4] at c1; exact c1.elim
        | some d =>
          rw [e4] at c1
          obtain ⟨a', ws, q1, q2, q3, q4⟩ := dict_at r1 e2
          rw [h1] at q1
          cases q1
          obtain ⟨w, g1, g2⟩ := (rpk_val q4 key).1 d e4
          exact ⟨a, w, rfl, .inl ⟨ws, key, q2, rp_key e3 p1, g1.symm⟩, k d env1 w G1 H1 r1 e1 g2 c1⟩
theorem ds_dput (hu : X.A.units + 1 < cLine) (ho : PE X (.Name x p) (tVar i)) (hk : PEd X ke dk) (hv : PEd X e dv) (hs : swapsWith e (some (.Subscript (.Name x p) ke pos')) pos.line X.env = pure false) : PSd X (.Assign [.Subscript (.Name x p) ke pos'] e pos) (sDPutD i dk dv) :=
  PS.imp' (ps_dput hu ho hk hv hs) fun E σ H ⟨B, G, env, DE, hB, r, q, k1, k⟩ => ⟨B, G, env, _, r, q, fun d env1 v G1 H1 r1 e1 p1 c1 => by
    split at c1
    · rename_i kvs0 e0
      obtain ⟨a, h1, _⟩ := r1.ow i _ e0 rfl
      refine ⟨_, h1, B, G1, env1, _, r1, c1, fun kk env2 w G2 H2 r2 e2 p2 c2 => ?_⟩
      split at c2
      · rename_i kvs key e3 e4
        obtain ⟨a', q1, q2, ⟨ws, q3, q4, q5⟩, q6⟩ := r2.ow i _ e3 rfl
        rw [h1] at q1
        cases q1
        have hl : kvs.length = ws.length := q5.length
        refine ⟨a, _, rfl, .inl ⟨ws, key, q3, rp_key e4 p2, by rw [← hl]; exact c2.1, rfl⟩, k1 _ G2 _ _ (r2.write (t := .od (putD kvs key d)) e3 rfl h1 rfl ⟨_, upd_same, ?_, rpk_put q5 key (Rp.mono e2 _ _ p1)⟩ fun ys z => by cases z) c2.2⟩
        have := putD_len kvs key d
        omega
      · exact c2.elim
    · exact c1.elim⟩
/-- a fresh dict -/
def TEfd (K : PySem.W.Frag) (df : DFD) : TE := fun σ H Q => ∃ B G env R, SRep K B G H σ env ∧ df env R ∧ ∀ kvs env' p ws G' H', SRep K B G' H' σ env' → Ex G G' → G' p = none → ¬ Owned σ env' p → B.H0 p = none → H' p = some (.dK ws) → kvs.length ≤ sizeLine → RpK K G' kvs ws → R kvs env' → Q (.ref p) H'
theorem ds_ownD {df : DFD} (h : PS X st (tAsg (TEfd X.K df) (gName i))) : PSd X st (sOwnD i df) := PS.imp' h fun E σ H ⟨B, G, env, DE, hB, r, q, k1, k⟩ =>
  ⟨B, G, env, _, r, q, fun kvs env1 p ws G1 H1 r1 e1 g1 g2 g3 g4 g5 g6 c1 => k1 _ G1 H1 _ (r1.newOwn (s := .od kvs) hB c1.1.1 c1.1.2 g1 g2 g3 rfl ⟨ws, g4, g5, g6⟩) c1.2⟩
theorem dfd_new : PE X (.Dict [] [] pos) (TEfd X.K fNewD) := PE.imp' pe_dnewK fun σ H Q ⟨B, G, env, R, r, q, k⟩ => fun p hp => by
  obtain ⟨a1, a2, a3, a4⟩ := fresh_new r (o := .dK []) hp
  exact k [] env p [] G _ a1 (Same.refl G) a2 a3 a4 upd_same (Nat.zero_le _) .nil q
theorem pairs_rp {K : PySem.W.Frag} {G : Hp} : ∀ {xs : List D} {kvs : List (Key × D)} {vs : List V}, pairsOf xs = some kvs → Rps K G xs vs → ∃ (ps : List Addr) (ws : List (Key × V)), vs = ps.map V.ref ∧ Paired (fun p kv => SqT K G p [kV kv.1, kv.2]) ps ws ∧ RpK K G kvs ws
  | [], kvs, vs, e, h => by
    cases e
    cases (show vs = [] from h)
    exact ⟨[], [], rfl, .nil, .nil⟩
  | d :: xs, kvs, vs, e, h => by
    unfold pairsOf at e
    split at e
    · rename_i heq
      cases heq
    · rename_i k v r heq
      cases heq
      split at e
      · rename_i key kvs' e1 e2
        cases e
        obtain ⟨v1, vr, rfl, h1, h2⟩ := h
        obtain ⟨ps, ws, rfl, g1, g2⟩ := pairs_rp e2 h2
        obtain ⟨a, us, rfl, h3, _, h5⟩ := h1
        obtain ⟨u1, ur, rfl, h6, u2, ur2, rfl, h7, rfl⟩ := h5
        have := rp_key e1 h6
        subst this
        exact ⟨a :: ps, (key, u2) :: ws, rfl, .cons h3 g1, .cons ⟨rfl, h7⟩ g2⟩
      · cases e
    · cases e
theorem mergeD_len : ∀ (more kvs : List (Key × D)), (mergeD kvs more).length ≤ kvs.length + more.length
  | [], kvs => Nat.le_refl _
  | p :: more, kvs => by
    have h1 := mergeD_len more (putD kvs p.1 p.2)
    have h2 := putD_len kvs p.1 p.2
    show (mergeD (putD kvs p.1 p.2) more).length ≤ _
    rw [List.length_cons]
    omega
theorem pairsOf_len : ∀ {xs : List D} {kvs : List (Key × D)}, pairsOf xs = some kvs → kvs.length = xs.length
  | [], kvs, e => by cases e; rfl
  | d :: xs, kvs, e => by
    unfold pairsOf at e
    split at e
    · rename_i heq; cases heq
    · rename_i heq
      cases heq
      split at e
      · rename_i e1 e2
        cases e
        rw [List.length_cons, List.length_cons, pairsOf_len e2]
      · cases e
    · cases e
theorem dfd_pairs (hc : X.calm = true) (hg : Gl X x) (hm : X.mg x = none) (hv : bootBuiltins x = some (.type "dict")) (ha : PEd X e de) (hn : x ≠ "__name__" := by decide) (hdb : (x == ("__debug__" : Str)) = false := by decide) (he : starEach [e] X.env = [(false, eval e X.env)] := by rfl) :
    PE X (.Call (.Name x p) [e] [] pos) (TEfd X.K (fDictP de)) := PE.imp' (pe_callTy (call_dictP hc) hg hm hv (pa_cons ha pa_nil he) hn hdb he rfl) fun σ H Q ⟨B, G, env, R, r, q, k⟩ => ⟨B, G, env, _, r, q, fun d env1 v G1 H1 r1 e1 p1 c1 => by
  cases d <;> first | exact c1.elim | skip
  rename_i xs
  simp only at c1
  cases e2 : pairsOf xs with
  | none => rw [e2] at c1; exact c1.elim
  | some kvs =>
    rw [e2] at c1
    obtain ⟨a, vs, rfl, h1, h2, h3⟩ := p1
    obtain ⟨ps, ws, rfl, g1, g2⟩ := pairs_rp e2 h3
    refine ⟨a, ps, ws, rfl, r1.sub.seq h1, pd_imp (fun _ _ h => ex_t r1.sub h) g1, fun l hl => ?_⟩
    obtain ⟨a1, a2, a3, a4⟩ := fresh_new r1 (o := .dK (mergeK [] ws)) hl
    refine k _ env1 l _ G1 _ a1 e1 a2 a3 a4 upd_same ?_ (rpk_merge g2 .nil) c1
    have := mergeD_len kvs []
    rw [List.length_nil, pairsOf_len e2] at this
    omega⟩
/-- list(e.values()) -/
def rValsL : V → Hp → VK → Prop := fun x H Q => ∃ (d : Addr) (kvs : List (Key × V)), x = V.ref d ∧ H d = some (.dK kvs) ∧ ∀ p, H p = none → Q (.ref p) (upd H p (.lst (kvs.map (·.2))))
def tListVals (te : TE) : TE := fun σ H Q => te σ H fun x H1 => rValsL x H1 Q
theorem pe_listValues {te : TE} {apos cpos : Pos} (hc : X.calm = true) (he : PE X e te) (hg : Gl X "list") (hm : X.mg "list" = none) (hv : bootBuiltins "list" = some (.type "list")) (hbase : attributeBase e "values" X.env (eval e X.env) = eval e X.env := by rfl) (hline : (apos.endLine == cpos.line) = true := by rfl)
    (hs : starEach [.Call (.Attribute e "values" apos) [] [] cpos] X.env = (false, eval (.Call (.Attribute e "values" apos) [] [] cpos) X.env) :: starEach [] X.env := by rfl) :
    PE X (.Call (.Name "list" p) [.Call (.Attribute e "values" apos) [] [] cpos] [] pos) (tListVals te) := by
  refine ⟨fun pins s σ H Q I hq => ?_⟩
  refine wpAny_Call_Name_kw (ld_blt I hg hm hv ?_)
  refine PyProof.Rows.callWith_type1 ?_ hs rfl
  rw [hs]
  show wpAny _ _ (spliced ((false, eval (.Call (.Attribute e "values" apos) [] [] cpos) X.env) :: backTo pos (starEach [] X.env))) _ _ s
  refine Calls.spliced_cons ?_
  refine wpAny_Call_method (T := "dict") (id := "dict.values") hbase rfl hline F.plainAttrs_dict F.slot_dict_values F.type_dict_values (thn (he.run pins s σ H _ I hq) fun u s1 ⟨x, H1, I1, rx, d, kvs, ex, hd, q⟩ => ?_)
  subst ex
  obtain rfl : u = Value.ref d := rx
  obtain ⟨hz, hs0, vs, kv, hdo⟩ := I1.hok d _ hd
  obtain ⟨es, ep, hraw, hsz, hent⟩ := hdo.raw
  have lk : kvs.length = vs.length := Paired.length kv
  have I2 : Inv X pins σ H1 { s1 with heap := s1.heap.push { cls := .type "dict_values", data := .fields #[.ref d] } } := I1.kept (t' := s1.toks) fun b ob q => Heap.get?_push_of_some _ q
  refine ⟨hdo.typeIs, hdo.mapOf.noDict, ?_⟩
  show wpAny _ _ (callWith cpos (.builtin "dict.values") [.ref d] [] []) _ X.xe s1
  refine method_meetsIn F.slot_dict_values F.entry_dict_values rfl (PySem.evalArgs_none ⟨rfl, hdo.typeIs, F.args_dict_values_1 _, _, meets_dict_values (mixKind X.prog X.w) d hs0, ⟨vs, hdo⟩, ?_⟩)
  refine Calls.spliced_nil ?_
  have hview : (s1.heap.push { cls := .type "dict_values", data := .fields #[.ref d] }).IsValuesView s1.heap.objs.size d := ⟨_, Heap.get?_push_size _ rfl, rfl, rfl⟩
  have hraw2 : (s1.heap.push { cls := .type "dict_values", data := .fields #[.ref d] }).DictRaw d es ep := hraw.at fun o q => Heap.get?_push_of_some _ q
  refine PySem.W.kdl_call (KdlSrc.rawValues (r := s1.heap.objs.size) (d := d) (es := es) (ep := ep)) (I1.ok.hd hc) (show _ ∧ _ from ⟨hview, hraw2⟩) (by omega) fun h' tk acc c hk hS hI => ?_
  refine ⟨.ref _, upd H1 _ (.lst (kvs.map (·.2))), I2.laid hk (Nat.le_refl _) (show ObjOk X.prog X.w _ _ _ (.lst (kvs.map (·.2))) from ⟨?_, acc.toList, c, ?_, ?_⟩), rfl, q _ (I2.hok.fresh (Nat.le_refl _))⟩
  · rw [List.length_map]; exact hz
  · have el : acc.toList.length = acc.size := by simp
    refine vals_of_at (by rw [List.length_map, el, hI.1]; omega) fun j x w h1 h2 => ?_
    obtain ⟨hj, rfl⟩ := hI.2 j w (by rw [← Array.getElem?_toList]; exact h2)
    rw [List.getElem?_map] at h1
    cases e1 : kvs[j]? with
    | none => rw [e1] at h1; cases h1
    | some pr =>
      rw [e1] at h1
      cases h1
      obtain ⟨k1, v1⟩ := pr
      obtain ⟨u1, e2, e3⟩ := kv_get kv e1
      obtain ⟨_, e4⟩ := hent j hj k1 u1 e2
      rw [e4]
      exact e3
  · rw [Array.toArray_toList]; exact hS
theorem de_listVals {apos cpos : Pos} (hc : X.calm = true) (ho : PE X (.Name x p) (tVar i)) (hg : Gl X "list") (hm : X.mg "list" = none) (hv : bootBuiltins "list" = some (.type "list")) (hbase : attributeBase (.Name x p) "values" X.env (eval (.Name x p) X.env) = eval (.Name x p) X.env := by rfl) (hline : (apos.endLine == cpos.line) = true := by rfl)
    (hs : starEach [.Call (.Attribute (.Name x p) "values" apos) [] [] cpos] X.env = (false, eval (.Call (.Attribute (.Name x p) "values" apos) [] [] cpos) X.env) :: starEach [] X.env := by rfl) {p2 : Pos} :
    PEd X (.Call (.Name "list" p2) [.Call (.Attribute (.Name x p) "values" apos) [] [] cpos] [] pos) (dListVals i) := PE.imp' (pe_listValues hc ho hg hm hv hbase hline hs) fun σ H Q ⟨B, G, env, R, r, q, k⟩ => by
  unfold dListVals at q
  split at q
  · rename_i kvs e0
    obtain ⟨a, h1, h2, ⟨ws, h3, h4, h5⟩, h6⟩ := r.ow i _ e0 rfl
    refine ⟨_, h1, a, ws, rfl, h3, fun p hp => ?_⟩
    refine k (.lst (kvs.map (·.2))) env _ _ _ (r.ext (Nw.new r.sub hp)) (ex_new (free_of r.sub hp)) (rp_lst (by rw [List.length_map]; exact h4) ?_ (free_of r.sub hp)) q
    refine rps_iff.mpr ?_
    have : ∀ {l₁ : List (Key × D)} {l₂ : List (Key × V)}, RpK X.K G l₁ l₂ → Paired (Rp X.K G) (l₁.map (·.2)) (l₂.map (·.2)) := by
      intro l₁ l₂ h
      induction h with
      | nil => exact .nil
      | cons h t ih => exact .cons h.2 ih
    exact this h5
  · exact q.elim
theorem SRep.locked {K : PySem.W.Frag} {B : Bs} {G H : Hp} {σ : L2.St} {env : SEnv} (r : SRep K B G H σ env) (hB : Bs.fn B) {i : Nat} {kvs : List (Key × D)} (e0 : env[i]? = some (.od kvs)) (hi : i ≠ 0) :
    ∃ d ws, σ[i]? = some (some (V.ref d)) ∧ H d = some (.dK ws) ∧ kvs.length ≤ sizeLine ∧ RpK K G kvs ws ∧ ∀ od, ∃ B', Bs.fn B' ∧ SRep K B' G (upd H d (.frz od (.dK ws))) σ (env.set i (.ld od kvs)) ∧
      (∀ G' H' σ' env', SRep K B' G' H' σ' env' → H' d = some (.frz od (.dK ws)) ∧ ∀ ws', env'[i]? = some (.ld od ws') → SRep K B G' (upd H' d (.dK ws)) σ' (env'.set i (.od ws'))) := by
  obtain ⟨d, h1, h2, ⟨ws, h3, h4, h5⟩, h6⟩ := r.ow i _ e0 rfl
  have hl : i < env.length := (List.getElem?_eq_some_iff.mp e0).1
  have hm : ¬ B.mu d := fun hm => by
    obtain ⟨q1, ys, q2⟩ := r.pot d (hB d hm)
    exact hi (r.dis i 0 _ _ d e0 rfl q2 rfl h1 q1)
  have h0 : B.H0 d = none := by
    rcases h6 with z | z | z
    · exact z
    · exact absurd z hm
    · cases z
  have hlk : B.lk i = none := by
    cases z : B.lk i with
    | none => rfl
    | some a =>
      obtain ⟨_, o, ks, q⟩ := r.lk i a z
      rw [e0] at q; cases q
  have hG0 : B.G0 d = none := by
    cases z : B.G0 d with
    | none => rfl
    | some o => rw [r.g0 d o z] at h2; cases h2
  have cas : ∀ (s0 : Sl) (ev : SEnv) (hl : i < ev.length) (j : Nat) (u : Sl), (ev.set i s0)[j]? = some u → (i = j ∧ u = s0) ∨ (i ≠ j ∧ ev[j]? = some u) := fun s0 ev hl j u e => by
    by_cases z : i = j
    · subst z
      rw [List.getElem?_set_self hl] at e
      cases e
      exact .inl ⟨rfl, rfl⟩
    · rw [List.getElem?_set_ne z] at e
      exact .inr ⟨z, e⟩
  refine ⟨d, ws, h1, h3, h4, h5, fun od => ⟨⟨B.G0, upd B.H0 d (.frz od (.dK ws)), B.mu, B.pa, fun j => if j = i then some d else B.lk j⟩, hB, ?_, fun G' H' σ' env' r' => ?_⟩⟩
  · refine ⟨r.g0, fun c u e => ?_, fun c u e m => ?_, fun c e1 e2 => ?_, by rw [List.length_set]; exact r.len, fun j dd e => ?_, fun j u e1 e2 => ?_, fun j k u w c e1 e2 e3 e4 e5 e6 => ?_, fun c h => ?_, fun c h => ?_, fun q c h => ?_⟩
    · rw [upd_ne (fun z => by rw [z, h2] at e; cases e)]; exact r.sub c u e
    · by_cases z : c = d
      · subst z
        have e' : upd B.H0 c (.frz od (.dK ws)) c = some u := e
        rw [upd_same] at e'
        cases e'
        exact upd_same
      · have e' : upd B.H0 d (.frz od (.dK ws)) c = some u := e
        rw [upd_ne z] at e' ⊢
        exact r.fr c u e' m
    · by_cases z : c = d
      · subst z; exact h2
      · have e' : upd B.H0 d (.frz od (.dK ws)) c ≠ none := e1
        rw [upd_ne z] at e'
        exact r.no c e' e2
    · rcases cas _ _ hl j _ e with ⟨z, e'⟩ | ⟨z, e'⟩
      · cases e'
      · exact r.fz j dd e'
    · rcases cas _ _ hl j u e1 with ⟨z, e'⟩ | ⟨z, e'⟩
      · subst z e'
        exact ⟨d, h1, h2, ⟨ws, upd_same, h4, h5⟩, .inr (.inr rfl)⟩
      · obtain ⟨c, q1, q2, q3, q4⟩ := r.ow j u e' e2
        have hca : c ≠ d := fun hca => z (r.dis i j _ u d e0 rfl e' e2 h1 (by rw [q1, hca]))
        refine ⟨c, q1, q2, q3.mono (Same.refl G) (upd_ne hca), ?_⟩
        rcases q4 with q4 | q4 | q4
        · exact .inl ((upd_ne hca).trans q4)
        · exact .inr (.inl q4)
        · exact .inr (.inr q4)
    · have lift : ∀ (j : Nat) (u : Sl), (env.set i (.ld od kvs))[j]? = some u → u.isOwn = true → ∃ s', env[j]? = some s' ∧ s'.isOwn = true := fun j u e e2 => by
        rcases cas _ _ hl j u e with ⟨z, _⟩ | ⟨z, e'⟩
        · subst z; exact ⟨_, e0, rfl⟩
        · exact ⟨u, e', e2⟩
      obtain ⟨s1, q1, q2⟩ := lift j u e1 e2
      obtain ⟨s2, q3, q4⟩ := lift k w e3 e4
      exact r.dis j k s1 s2 c q1 q2 q3 q4 e5 e6
    · obtain ⟨j, u, e1, e2, e3, e4⟩ := r.mu c h
      have z : i ≠ j := fun z => by
        subst z
        rw [h1] at e4
        cases e4
        exact hm h
      exact ⟨j, u, by rw [List.getElem?_set_ne z]; exact e1, e2, e3, e4⟩
    · obtain ⟨e1, xs, e2⟩ := r.pot c h
      exact ⟨e1, xs, by rw [List.getElem?_set_ne hi]; exact e2⟩
    · by_cases z : q = i
      · subst z
        have h' : some d = some c := by simpa using h
        cases h'
        exact ⟨h1, od, kvs, List.getElem?_set_self hl⟩
      · have h' : B.lk q = some c := by simpa [z] using h
        obtain ⟨e1, o, ks, e2⟩ := r.lk q c h'
        exact ⟨e1, o, ks, by rw [List.getElem?_set_ne (Ne.symm z)]; exact e2⟩
  · have hd : H' d = some (.frz od (.dK ws)) := r'.fr d _ upd_same hm
    refine ⟨hd, fun ws' e' => ?_⟩
    have hl' : i < env'.length := (List.getElem?_eq_some_iff.mp e').1
    have hσ : σ'[i]? = some (some (V.ref d)) := (r'.lk i d (by simp)).1
    obtain ⟨d', k1, k2, ⟨wsx, k3, k4, k5⟩, _⟩ := r'.ow i _ e' rfl
    rw [hσ] at k1
    cases k1
    rw [hd] at k3
    cases k3
    refine ⟨r'.g0, fun c u e => ?_, fun c u e m => ?_, fun c e1 e2 => ?_, by rw [List.length_set]; exact r'.len, fun j dd e => ?_, fun j u e1 e2 => ?_, fun j k u w c e1 e2 e3 e4 e5 e6 => ?_, fun c h => ?_, fun c h => ?_, fun q c h => ?_⟩
    · rw [upd_ne (fun z => by rw [z, k2] at e; cases e)]; exact r'.sub c u e
    · have z : c ≠ d := fun z => by rw [z, h0] at e; cases e
      rw [upd_ne z]
      exact r'.fr c u ((upd_ne z).trans e) m
    · have z : c ≠ d := fun z => by rw [z] at e1; exact e1 h0
      exact r'.no c (show upd B.H0 d (.frz od (.dK ws)) c ≠ none by rw [upd_ne z]; exact e1) e2
    · rcases cas _ _ hl' j _ e with ⟨z, e''⟩ | ⟨z, e''⟩
      · cases e''
      · exact r'.fz j dd e''
    · rcases cas _ _ hl' j u e1 with ⟨z, e''⟩ | ⟨z, e''⟩
      · subst z e''
        exact ⟨d, hσ, k2, ⟨ws, upd_same, k4, k5⟩, .inl h0⟩
      · obtain ⟨c, q1, q2, q3, q4⟩ := r'.ow j u e'' e2
        have hca : c ≠ d := fun hca => z (r'.dis i j _ u d e' rfl e'' e2 hσ (by rw [q1, hca]))
        refine ⟨c, q1, q2, q3.mono (Same.refl G') (upd_ne hca), ?_⟩
        rcases q4 with q4 | q4 | q4
        · exact .inl ((upd_ne hca).symm.trans q4)
        · exact .inr (.inl q4)
        · exact .inr (.inr q4)
    · have lift : ∀ (j : Nat) (u : Sl), (env'.set i (.od ws'))[j]? = some u → u.isOwn = true → ∃ s', env'[j]? = some s' ∧ s'.isOwn = true := fun j u e e2 => by
        rcases cas _ _ hl' j u e with ⟨z, _⟩ | ⟨z, e''⟩
        · subst z; exact ⟨_, e', rfl⟩
        · exact ⟨u, e'', e2⟩
      obtain ⟨s1, q1, q2⟩ := lift j u e1 e2
      obtain ⟨s2, q3, q4⟩ := lift k w e3 e4
      exact r'.dis j k s1 s2 c q1 q2 q3 q4 e5 e6
    · obtain ⟨j, u, e1, e2, e3, e4⟩ := r'.mu c h
      have z : i ≠ j := fun z => by
        subst z
        rw [e'] at e1
        cases e1
        cases e3
      exact ⟨j, u, by rw [List.getElem?_set_ne z]; exact e1, e2, e3, e4⟩
    · obtain ⟨e1, xs, e2⟩ := r'.pot c h
      exact ⟨e1, xs, by rw [List.getElem?_set_ne hi]; exact e2⟩
    · have z : q ≠ i := fun z => by rw [z, hlk] at h; cases h
      obtain ⟨e1, o, ks, e2⟩ := r'.lk q c (by simpa [z] using h)
      exact ⟨e1, o, ks, by rw [List.getElem?_set_ne (Ne.symm z)]; exact e2⟩
/-- for k in d -/
theorem keys_ok {K : PySem.W.Frag} {p : Pat} {b : DS} {E : Ends} {σ : L2.St} {H : Hp} (h : TSd K (sKeys i p b) E σ H) : tLock (tFor (iKeys (tVar i)) (TGd K p) (TSd K b)) E σ H := by
  obtain ⟨B, G, env, DE, hB, r, q, k1, k2, k3, k4⟩ := h
  unfold sKeys at q
  split at q
  · rename_i kvs e0
    obtain ⟨hi, q⟩ := q
    obtain ⟨d, ws, g1, g2, g3, g4, g5⟩ := r.locked hB e0 hi
    refine ⟨d, .dK ws, g2, trivial, fun od => ?_⟩
    obtain ⟨B', hB', rl, un⟩ := g5 od
    have c0 := q od
    have hlen : kvs.length = ws.length := g4.length
    refine ⟨_, g1, d, od, rfl, .inl ⟨ws, upd_same, ?_⟩⟩
    refine ⟨fun j m σ H => m = kvs.length - j ∧ j ≤ kvs.length ∧ ∃ G env2, SRep K B' G H σ env2 ∧ forD p b (unE i od DE) ((kvs.map fun q => kD q.1).drop j) env2, ⟨kvs.length, by simp, Nat.zero_le _, G, _, rl, by rw [List.drop_zero]; exact c0⟩, ?_⟩
    rintro j m σ2 H2 ⟨rfl, hj, G2, env2, r2, c2⟩
    obtain ⟨hd2, un2⟩ := un G2 H2 σ2 env2 r2
    by_cases hlt : j < kvs.length
    · refine .inr ⟨⟨hd2, by rw [← hlen]; exact hlt⟩, fun σ' H' => ∃ G' env', SRep K B' G' H' σ' env' ∧ forD p b (unE i od DE) ((kvs.map fun q => kD q.1).drop (j + 1)) env', fun σ' H' hh => ⟨kvs.length - (j + 1), by omega, rfl, hlt, hh⟩, fun x H' hy => ?_⟩
      obtain ⟨rfl, kk, vv, hk, rfl⟩ := hy
      obtain ⟨pd, e1, e2, e3⟩ := pd_get' g4 hk
      have e4 : (kvs.map fun q => kD q.1)[j]? = some (kD kk) := by
        rw [List.getElem?_map, e1]
        show some (kD pd.1) = some (kD kk)
        rw [e2]
      have hl3 : j < (kvs.map fun q => kD q.1).length := by rw [List.length_map]; exact hlt
      have e5 : (kvs.map fun q => kD q.1).drop j = kD kk :: (kvs.map fun q => kD q.1).drop (j + 1) := by
        rw [List.drop_eq_getElem_cons hl3]
        congr 1
        rw [List.getElem?_eq_getElem hl3] at e4
        exact Option.some.inj e4
      rw [e5] at c2
      unfold forD at c2
      cases ep : patSet p (kD kk) env2 with
      | none => rw [ep] at c2; exact c2.elim
      | some env3 =>
        rw [ep] at c2
        have hkey : Rp K G2 (kD kk) (kV kk) := by cases kk <;> rfl
        refine ⟨B', G2, env2, _, env3, r2, hkey, ep, fun σ' r' w' => ?_⟩
        refine ⟨B', G2, env3, _, hB', r', c2, fun σ4 G4 H4 env4 r4 c4 => ⟨G4, env4, r4, c4⟩, fun dd v σ4 G4 H4 env4 r4 p4 c4 => ?_, fun σ4 G4 H4 env4 r4 c4 => ?_, fun σ4 G4 H4 env4 r4 c4 => ⟨G4, env4, r4, c4⟩⟩
        · obtain ⟨h1, h2⟩ := un G4 H4 σ4 env4 r4
          obtain ⟨ws', f1, f2⟩ := c4
          exact ⟨h1, k2 dd v σ4 G4 _ _ (h2 ws' f1) p4 f2⟩
        · obtain ⟨h1, h2⟩ := un G4 H4 σ4 env4 r4
          obtain ⟨ws', f1, f2⟩ := c4
          exact ⟨h1, k1 σ4 G4 _ _ (h2 ws' f1) f2⟩
    · have ej : j = kvs.length := by omega
      subst ej
      have e6 : (kvs.map fun q => kD q.1).drop kvs.length = [] := List.drop_eq_nil_of_le (by rw [List.length_map]; exact Nat.le_refl _)
      rw [e6] at c2
      obtain ⟨ws', f1, f2⟩ := c2
      exact .inl ⟨⟨hd2, by rw [hlen]; exact Nat.le_refl _⟩, hd2, k1 σ2 G2 _ _ (un2 ws' f1) f2⟩
  · exact q.elim
theorem ds_keys {tg : Expr} {body : List Stmt} {p2 : Pat} {b : DS} (hp : PassesOwn (model X.prog X.w) X.A X.env X.xe) (hc : X.calm = true) (ho : PE X (.Name x p) (tVar i)) (hg : PGd X tg p2) (hb : PSsd X body b) (hs : ∀ y, foldedSetIterable (.Name x p) X.env y = pure y := by intro _; rfl) :
    PSd X (.For tg (.Name x p) body [] pos) (sKeys i p2 b) := PS.imp' (ps_lock (ps_for hp hc (pi_keys ho) hg hb hs)) fun _ _ _ h => keys_ok h
end
end FL

namespace FL
open PySem PySem.Spec PyProof.Rows L2

/-- xs.count(k) of ints -/
def dCount (da db : DE) : DE := fun env R => da env fun x env1 => match x with
  | .lst xs => db env1 fun y env2 => (match intsOf xs, y with
    | some ns, .int k => R (.int (ns.count k : Nat)) env2
    | _, _ => False)
  | _ => False
/-- {k: v for ..}, keys ints or texts -/
def compDD (p : Pat) (t : DT) (ek ev : DE) (vs : List Nat) : List D → List (Key × D) → SEnv → (List (Key × D) → SEnv → Prop) → Prop
  | [], acc, env, R => R acc env
  | x :: xs, acc, env, R => match patSet p x env with
    | some env1 => t env1 fun b env2 => if b = true then ek env2 fun k env3 => ev env3 fun d env4 => (match keyOf k with
          | some key => okW env4 vs = true ∧ compDD p t ek ev vs xs (putD acc key d) (wipeD env4 vs) R
          | none => False)
        else okW env2 vs = true ∧ compDD p t ek ev vs xs acc (wipeD env2 vs) R
    | none => False
def fDc (di : DI) (p : Pat) (t : DT) (ek ev : DE) (vs : List Nat) : DFD := fun env R => di env fun items env1 => okW env1 vs = true ∧ items.length ≤ sizeLine ∧
  compDD p t ek ev vs items [] (wipeD env1 vs) fun acc env2 => R acc (backD env1 env2 vs)
/-- tuple(range(..)), list(range(..)) -/
def rgD (a b : Int) : List D := (List.range (b - a).toNat).map fun i => .int (a + (i : Nat))
def dTupRg1 (da : DE) : DE := fun env R => da env fun x env1 => match x with
  | .int n => (0 ≤ n ∧ n ≤ 16777216) ∧ R (.tup (rgD 0 n)) env1
  | _ => False
def dTupRg2 (da db : DE) : DE := fun env R => da env fun x env1 => db env1 fun y env2 => match x, y with
  | .int a, .int b => (0 ≤ a ∧ a ≤ 16777216 ∧ 0 ≤ b ∧ b ≤ 16777216) ∧ R (.tup (rgD a b)) env2
  | _, _ => False
def fLstRg1 (da : DE) : DF := fun env R => da env fun x env1 => match x with
  | .int n => (0 ≤ n ∧ n ≤ 16777216) ∧ R (rgD 0 n) env1
  | _ => False
def fLstRg2 (da db : DE) : DF := fun env R => da env fun x env1 => db env1 fun y env2 => match x, y with
  | .int a, .int b => (0 ≤ a ∧ a ≤ 16777216 ∧ 0 ≤ b ∧ b ≤ 16777216) ∧ R (rgD a b) env2
  | _, _ => False
theorem rg_rp {K : PySem.W.Frag} {G : Hp} {a b : Int} : Rps K G (rgD a b) (rgV a b) := by
  unfold rgD rgV
  exact rps_iff.mpr (pd_map (F := Rp K G) (g := fun i : Nat => D.int (a + (i : Nat))) (k := fun i : Nat => V.int (a + (i : Nat))) (fun _ => rfl) _)
theorem rgD_len (a b : Int) : (rgD a b).length = (b - a).toNat := by unfold rgD; rw [List.length_map, List.length_range]
section
variable {X : Cx} {st : Stmt} {o e e2 : Expr} {pos p : Pos} {da db de : DE} {i : Nat}
theorem de_count {apos cpos : Pos} (ho : PEd X o da) (he : PEd X e db) (hbase : attributeBase o "count" X.env (eval o X.env) = eval o X.env := by rfl)
    (hfew : ((backTo cpos (starEach [e] X.env)).all (fun x => !x.1) && (backToKw cpos (keywordEach [] X.env)).all (fun x => x.1.isSome) && decide ([e].length + ([] : List Keyword).length + (if ([] : List Keyword).isEmpty then 0 else 1) < 30)) = true := by rfl)
    (hline : (apos.endLine == cpos.line) = true := by rfl) (hs2 : starEach [e] X.env = [(false, eval e X.env)] := by rfl) :
    PEd X (.Call (.Attribute o "count" apos) [e] [] cpos) (dCount da db) := PE.imp' (pe_bm PySem.F.plainAttrs_list PySem.F.slot_list_count PySem.F.type_list_count mt_lcount ho (pa_cons he pa_nil hs2) hbase hfew hline hs2 rfl) fun σ H Q ⟨B, G, env, R, r, q, k⟩ =>
  ⟨B, G, env, _, r, q, fun x env1 v G1 H1 r1 e1 p1 c1 => by
    cases x <;> first | exact c1.elim | skip
    rename_i xs
    obtain ⟨a, vs, rfl, h1, h2, h3⟩ := id p1
    refine ⟨.inl ⟨rfl, _, r1.sub.seq h1⟩, B, G1, env1, _, r1, c1, fun y env2 w G2 H2 r2 e2 p2 c2 => ?_⟩
    cases ei : intsOf xs with
    | none => rw [ei] at c2; exact c2.elim
    | some ns =>
      rw [ei] at c2
      cases y <;> first | exact c2.elim | skip
      have e3 := intsOf_eq ei
      subst e3
      have e4 := ints_rp (rps_iff.mp h3)
      subst e4
      cases (show w = _ from p2)
      exact ⟨a, ns, _, rfl, rfl, r2.sub.seq (e2.seq h1), k (.int _) env2 _ G2 H2 r2 (e1.trans e2) rfl c2⟩⟩
theorem de_tupRg1 {b : Expr} {pr : Pos} (hc : X.calm = true) (hg : Gl X "tuple") (hm : X.mg "tuple" = none) (hg2 : Gl X "range") (hm2 : X.mg "range" = none) (ha : PEd X e da) (na : starEach [e] X.env = (false, eval e X.env) :: starEach [] X.env := by rfl)
    (na2 : starEach [.Call (.Name "range" pr) [e] [] pos] X.env = (false, eval (.Call (.Name "range" pr) [e] [] pos) X.env) :: starEach [] X.env := by rfl) {pos2 : Pos} :
    PEd X (.Call (.Name "tuple" p) [.Call (.Name "range" pr) [e] [] pos] [] pos2) (dTupRg1 da) := PE.imp' (pe_tupRg hc hg hm (prg_1 hg2 hm2 ha na) na2) fun σ H Q ⟨B, G, env, R, r, q, k⟩ => ⟨B, G, env, _, r, q, fun x env1 v G1 H1 r1 e1 p1 c1 => by
  cases x <;> first | exact c1.elim | skip
  rename_i n
  cases (show v = _ from p1)
  obtain ⟨⟨c1, c2⟩, c3⟩ := c1
  exact ⟨n, rfl, RgOk.of_le (Int.le_refl _) c2 (by decide) c1, fun q hq => k (.tup (rgD 0 n)) env1 _ _ _ (r1.ext (Nw.new r1.sub hq)) (e1.trans (ex_new (free_of r1.sub hq))) (rp_tup (by rw [rgD_len, sizeLine_eq]; omega) rg_rp (free_of r1.sub hq)) c3⟩⟩
theorem de_tupRg2 {pr : Pos} (hc : X.calm = true) (hg : Gl X "tuple") (hm : X.mg "tuple" = none) (hg2 : Gl X "range") (hm2 : X.mg "range" = none) (ha : PEd X e da) (hb : PEd X e2 db) (na : starEach [e, e2] X.env = (false, eval e X.env) :: starEach [e2] X.env := by rfl) (nb : starEach [e2] X.env = (false, eval e2 X.env) :: starEach [] X.env := by rfl) (npl : (backTo pos (starEach [e2] X.env)).any (·.1) = false := by rfl)
    (na2 : starEach [.Call (.Name "range" pr) [e, e2] [] pos] X.env = (false, eval (.Call (.Name "range" pr) [e, e2] [] pos) X.env) :: starEach [] X.env := by rfl) {pos2 : Pos} :
    PEd X (.Call (.Name "tuple" p) [.Call (.Name "range" pr) [e, e2] [] pos] [] pos2) (dTupRg2 da db) := PE.imp' (pe_tupRg hc hg hm (prg_2 hg2 hm2 ha hb na nb npl) na2) fun σ H Q ⟨B, G, env, R, r, q, k⟩ => ⟨B, G, env, _, r, q, fun x env1 v G1 H1 r1 e1 p1 c1 => ⟨B, G1, env1, _, r1, c1, fun y env2 w G2 H2 r2 e2 p2 c2 => by
  cases x <;> cases y <;> first | exact c2.elim | skip
  rename_i a b
  cases (show v = _ from p1)
  cases (show w = _ from p2)
  obtain ⟨⟨c1, c2, c4, c5⟩, c3⟩ := c2
  exact ⟨a, b, rfl, rfl, RgOk.of_le c1 c5 c2 c4, fun q hq => k (.tup (rgD a b)) env2 _ _ _ (r2.ext (Nw.new r2.sub hq)) ((e1.trans e2).trans (ex_new (free_of r2.sub hq))) (rp_tup (by rw [rgD_len, sizeLine_eq]; omega) rg_rp (free_of r2.sub hq)) c3⟩⟩⟩
theorem df_lstRg1 {pr : Pos} (hc : X.calm = true) (hg : Gl X "list") (hm : X.mg "list" = none) (hg2 : Gl X "range") (hm2 : X.mg "range" = none) (ha : PEd X e da) (na : starEach [e] X.env = (false, eval e X.env) :: starEach [] X.env := by rfl)
    (na2 : starEach [.Call (.Name "range" pr) [e] [] pos] X.env = (false, eval (.Call (.Name "range" pr) [e] [] pos) X.env) :: starEach [] X.env := by rfl) {pos2 : Pos} :
    PEf X (.Call (.Name "list" p) [.Call (.Name "range" pr) [e] [] pos] [] pos2) (fLstRg1 da) := PE.imp' (pe_listRg hc hg hm (prg_1 hg2 hm2 ha na) na2) fun σ H Q ⟨B, G, env, R, r, q, k⟩ => ⟨B, G, env, _, r, q, fun x env1 v G1 H1 r1 e1 p1 c1 => by
  cases x <;> first | exact c1.elim | skip
  rename_i n
  cases (show v = _ from p1)
  obtain ⟨⟨c1, c2⟩, c3⟩ := c1
  refine ⟨n, rfl, RgOk.of_le (Int.le_refl _) c2 (by decide) c1, fun q hq => ?_⟩
  obtain ⟨a1, a2, a3, a4⟩ := fresh_new r1 (o := .lst (rgV 0 n)) hq
  exact k _ env1 q _ G1 _ a1 e1 a2 a3 a4 upd_same (by rw [rgD_len, sizeLine_eq]; omega) rg_rp c3⟩
end
theorem dc_ok {K : PySem.W.Frag} {di : DI} {p : Pat} {t : DT} {ek ev : DE} {vs : List Nat} (hp : p.inB vs = true) (hnd : vs.Nodup) {σ : L2.St} {H : Hp} {Q : VK} (h : TEfd K (fDc di p t ek ev vs) σ H Q) :
    tDc (TId K di) (TGd K p) (TTd K t) (TEd K ek) (TEd K ev) vs σ H Q := by
  obtain ⟨B, G, env, R, r, q, k⟩ := h
  refine ⟨B, G, env, _, r, q, fun items env1 J G1 H1 r1 ex1 itd c1 => fun Dl hD => ?_⟩
  obtain ⟨hw, hz, c1⟩ := c1
  have hB : B.H0 Dl = none := by
    cases z : B.H0 Dl with
    | none => rfl
    | some o => exact absurd hD (r1.there (by rw [z]; simp))
  have rw1 := r1.wiped hw
  refine ⟨fun i m H => m = items.length - i ∧ i ≤ items.length ∧ ∃ G env2 acc avs, SRep K B G H (wipe σ vs) env2 ∧ Ex G1 G ∧ G Dl = none ∧ ¬ Owned (wipe σ vs) env2 Dl ∧ H Dl = some (.dK avs) ∧ RpK K G acc avs ∧ acc.length ≤ i ∧
      compDD p t ek ev vs (items.drop i) acc env2 fun acc env2 => R acc (backD env1 env2 vs), ⟨items.length, by simp, Nat.zero_le _, G1, wipeD env1 vs, [], [], ?_, Same.refl G1, r1.sub.free hD, ?_, upd_same, .nil, Nat.le_refl _, by rw [List.drop_zero]; exact c1⟩, ?_⟩
  · exact rw1.other (r1.sub.free hD) (fun ho => by obtain ⟨⟨o, ho⟩, _⟩ := rw1.owned ho; rw [hD] at ho; cases ho) hB
  · intro ho
    obtain ⟨⟨o, ho⟩, _⟩ := rw1.owned ho
    rw [hD] at ho; cases ho
  · rintro i m H2 ⟨rfl, hi, G2, env2, acc, avs, r2, ex2, g2, no2, h2, hr2, hl2, c2⟩
    by_cases hlt : i < items.length
    · refine .inr ⟨itd.go i G2 H2 ex2 r2.sub hlt, fun H' => ∃ G' env' acc' avs', SRep K B G' H' (wipe σ vs) env' ∧ Ex G1 G' ∧ G' Dl = none ∧ ¬ Owned (wipe σ vs) env' Dl ∧ H' Dl = some (.dK avs') ∧ RpK K G' acc' avs' ∧ acc'.length ≤ i + 1 ∧
        compDD p t ek ev vs (items.drop (i + 1)) acc' env' fun acc env2 => R acc (backD env1 env2 vs), fun H' hh => ⟨items.length - (i + 1), by omega, rfl, hlt, hh⟩, fun x H' hy => ?_⟩
      obtain ⟨G3, d, nw, hd, hx⟩ := itd.yld i G2 H2 x H' ex2 r2.sub hlt hy
      have r3 := r2.ext nw
      have hD3 : H' Dl = some (.dK avs) := nw.hx _ _ h2
      have g3 : G3 Dl = none := nw.no Dl (by rw [h2]; simp) g2
      have e3 : items.drop i = d :: items.drop (i + 1) := by
        rw [List.drop_eq_getElem_cons hlt]
        congr 1
        rw [List.getElem?_eq_getElem hlt] at hd
        exact Option.some.inj hd
      rw [e3] at c2
      unfold compDD at c2
      cases ep : patSet p d env2 with
      | none => rw [ep] at c2; exact c2.elim
      | some env3 =>
        rw [ep] at c2
        refine ⟨B.here G3 H' (wipe σ vs) env2, G3, env2, d, env3, r3.rebase, hx, ep, fun σ' r' w' => ?_⟩
        have ew : wipe σ' vs = wipe σ vs := by rw [w' vs hp, wipe_wipe]
        refine ⟨ew, _, G3, env3, _, r', c2, fun b env4 G4 H4 r4 e4 c4 => ?_⟩
        have stay : ∀ {Gx Hx : Hp} {envx : SEnv}, SRep K (B.here G3 H' (wipe σ vs) env2) Gx Hx σ' envx → Hx Dl = some (.dK avs) ∧ Gx Dl = none ∧ ¬ Owned σ' envx Dl := fun {Gx Hx envx} rx => by
          have hDx : Hx Dl = some (.dK avs) := rx.fr Dl _ hD3 fun z => no2 z.owned
          refine ⟨hDx, rx.no Dl (show H' Dl ≠ none by rw [hD3]; simp) g3, fun ⟨j, s, o1, o2, o3⟩ => ?_⟩
          obtain ⟨a, q1, _, q3, q4⟩ := rx.ow j s o1 o2
          rw [o3] at q1
          cases q1
          rcases q4 with q4 | q4 | q4
          · rw [show H' Dl = none from q4] at hD3; cases hD3
          · exact no2 (show OwnedW (wipe σ vs) env2 Dl from q4).owned
          · cases s <;> first | (cases q4; done) | skip
            obtain ⟨ws, q5, _⟩ := q3
            rw [hDx] at q5
            cases q5
        have fin : ∀ {Gx Hx : Hp} {envx : SEnv}, SRep K (B.here G3 H' (wipe σ vs) env2) Gx Hx σ' envx → okW envx vs = true → SRep K B Gx Hx (wipe σ vs) (wipeD envx vs) ∧ ¬ Owned (wipe σ vs) (wipeD envx vs) Dl := fun {Gx Hx envx} rx ho => by
          have rx' := (r3.unbase rx).wiped ho
          rw [ew] at rx'
          refine ⟨rx', fun ⟨j, s, o1, o2, o3⟩ => ?_⟩
          have hj : j ∉ vs := fun z => by
            have hlj : j < envx.length := by rw [← wipeD_len envx vs]; exact (List.getElem?_eq_some_iff.mp o1).1
            rw [wipeD_in z hlj] at o1
            cases o1; cases o2
          rw [wipeD_out hj] at o1
          rw [← ew, wipe_out hj] at o3
          exact (stay rx).2.2 ⟨j, s, o1, o2, o3⟩
        cases b with
        | true =>
          rw [if_pos rfl] at c4
          refine iteT ?_
          refine ⟨_, G4, env4, _, r4, c4, fun y env5 v G5 H5 r5 e5 p5 c5 => ⟨_, G5, env5, _, r5, c5, fun y2 env6 v2 G6 H6 r6 e6 p6 c6 => ?_⟩⟩
          cases ek : keyOf y with
          | none => rw [ek] at c6; exact c6.elim
          | some key =>
            rw [ek] at c6
            obtain ⟨s1, s2, s3⟩ := stay r6
            obtain ⟨f1, f2⟩ := fin r6 c6.1
            have hlen : acc.length = avs.length := hr2.length
            have hex : Ex G2 G6 := nw.ex.trans (e4.trans (e5.trans e6))
            refine ⟨avs, key, rp_key ek p5, s1, by omega, G6, _, putD acc key y2, putK avs key v2, f1.other s2 f2 hB, ex2.trans hex, s2, f2, upd_same, rpk_put (RpK.mono hex hr2) key p6, ?_, c6.2⟩
            have := putD_len acc key y2
            omega
        | false =>
          rw [if_neg Bool.false_ne_true] at c4
          refine iteF ?_
          obtain ⟨s1, s2, s3⟩ := stay r4
          obtain ⟨f1, f2⟩ := fin r4 c4.1
          have hex : Ex G2 G4 := nw.ex.trans e4
          exact ⟨G4, _, acc, avs, f1, ex2.trans hex, s2, f2, s1, RpK.mono hex hr2, by omega, c4.2⟩
    · have ei : i = items.length := by omega
      subst ei
      rw [List.drop_length] at c2
      unfold compDD at c2
      refine .inl ⟨itd.stop G2 H2 ex2 r2.sub, ?_⟩
      have rb := SRep.back r1 ex2 hnd hw r2
      refine k acc _ Dl avs G2 H2 rb (ex1.trans ex2) g2 (fun ⟨j, s, o1, o2, o3⟩ => ?_) hB h2 (by omega) hr2 c2
      obtain ⟨a, q1, q2, q3, q4⟩ := rb.ow j s o1 o2
      rw [o3] at q1
      cases q1
      have hbk : ∀ (ws : List Nat) (ev : SEnv), ws.Nodup → okW env1 ws = true → ∀ s', (backD env1 ev ws)[j]? = some s' → s'.isOwn = true → j ∉ ws ∧ ev[j]? = some s' := by
        intro ws
        induction ws with
        | nil => intro ev _ _ s' h1 _; exact ⟨by simp, h1⟩
        | cons w ws ih =>
          intro ev hn ho s' h1 h2
          unfold okW at ho
          rw [List.all_cons, Bool.and_eq_true] at ho
          obtain ⟨i1, i2⟩ := ih _ (List.nodup_cons.mp hn).2 ho.2 s' h1 h2
          obtain ⟨wl, wo⟩ := canSet_lt ho.1
          by_cases z : w = j
          · subst z
            have hle : w < ev.length := by
              have := (List.getElem?_eq_some_iff.mp i2).1
              rw [List.length_set] at this
              exact this
            rw [List.getElem?_set_self hle] at i2
            cases i2
            rw [wo _ (getD_of wl)] at h2; cases h2
          · rw [List.getElem?_set_ne z] at i2
            exact ⟨fun hm => by rcases List.mem_cons.mp hm with h | h; exact z h.symm; exact i1 h, i2⟩
      obtain ⟨hj, hj2⟩ := hbk vs env2 hnd hw s o1 o2
      exact no2 ⟨j, s, hj2, o2, by rw [wipe_out hj]; exact o3⟩
section
variable {X : Cx} {kx vx tg iter : Expr} {ifs : List Expr} {scope : Scope} {own : List (Str × Nat)} {pos : Pos} {di : DI} {p : Pat} {t : DT} {ek ev : DE}
theorem dfd_dc (hc : X.calm = true) (hN : X.N.Nodup) (hi : PId X tg iter di) (ok : BlkOk X.N X.env.scope scope own)
    (hg : ∀ (s : Shared) (H : Hp) (C : Addr) (cl : List (Str × Addr)) (fp : List Addr), PGd (X.blk s H scope (compEnvC scope cl C X.env) fp) tg p) (ht : ∀ (s : Shared) (H : Hp) (C : Addr) (cl : List (Str × Addr)) (fp : List Addr), PTsd (X.blk s H scope (compEnvC scope cl C X.env) fp) ifs t)
    (hk : ∀ (s : Shared) (H : Hp) (C : Addr) (cl : List (Str × Addr)) (fp : List Addr), PEd (X.blk s H scope (compEnvC scope cl C X.env) fp) kx ek)
    (he : ∀ (s : Shared) (H : Hp) (C : Addr) (cl : List (Str × Addr)) (fp : List Addr), PEd (X.blk s H scope (compEnvC scope cl C X.env) fp) vx ev) (hp : p.inB (own.map (·.2)) = true) (hnd : (own.map (·.2)).Nodup) (hs : ∀ x, foldedSetIterable iter X.env x = pure x := by intro _; rfl) :
    PE X (.DictComp kx vx [⟨tg, iter, ifs, 0⟩] scope pos) (TEfd X.K (fDc di p t ek ev (own.map (·.2)))) := PE.imp' (pe_dc (g := TGd X.K p) (tt := TTd X.K t) (tk := TEd X.K ek) (tv := TEd X.K ev) hc hN hi ok hg ht hk he hs) fun _ _ _ h => dc_ok hp hnd h
end
end FL

namespace FL
open PySem PySem.Spec PyProof.Rows L2

/-! ### names for the generator -/
def gSub : G2 := gI0 fun i j => .int (i - j)
def gMul : G2 := gI CMulA fun i j => .int (i * j)
def gDiv : G2 := gI CDivW fun i j => .int (i / j)
def gMod : G2 := gI (fun _ j => 0 < j) fun i j => .int (i % j)
def CPowA (i j : Int) : Prop := 0 ≤ j ∧ (Builtin.Int.intBits i : Int) * j ≤ 2 ^ 27
def gPow : G2 := gI CPowA fun i j => .int (i ^ j.toNat)
section
variable {X : Cx}
theorem op_powA : OpR X (binaryOp .Pow) (rI CPowA fun i j => .int (i ^ j.toNat)) := opI fun _ _ _ _ _ _ _ hc q => pow_int hc.1 hc.2 q
theorem opd_powA : OpD X (binaryOp .Pow) gPow := opd_I op_powA
theorem opd_subA : OpD X (binaryOp .Sub) gSub := opd_sub
theorem opd_mulA : OpD X (binaryOp .Mult) gMul := opd_mul
theorem opd_divA : OpD X (binaryOp .FloorDiv) gDiv := opd_div
theorem opd_modA : OpD X (binaryOp .Mod) gMod := opd_mod
end
/-! ### a, b = [..], e: the first one an owned list -/
def sParO (i j : Nat) (df : DF) (db : DE) : DS := fun E env => df env fun xs env1 => db env1 fun y env2 => (canSet env2 i = true ∧ canSet env2 j = true) ∧ E.nx ((env2.set i (.ol xs)).set j (.fz y))
section
variable {X : Cx} {st : Stmt} {df : DF} {db : DE}
theorem ds_parO {i j : Nat} (h : PS X st (tPar i j (tCons (TEf X.K df) (tCons (TEd X.K db) tNil)))) (hij : i ≠ j) : PSd X st (sParO i j df db) := PS.imp' h fun E σ H ⟨B, G, env, DE, hB, r, q, k1, k⟩ =>
  ⟨B, G, env, _, r, q, fun xs env1 p vs G1 H1 r1 e1 g1 g2 g3 g4 g5 g6 c1 => by
    refine ⟨B.here G1 H1 σ env1, G1, env1, _, r1.rebase, c1, fun y env2 w G2 H2 r2 e2 p2 c2 => ?_⟩
    refine ⟨.ref p, w, rfl, ?_⟩
    obtain ⟨⟨c3, c4⟩, c5⟩ := c2
    have hp : H2 p = some (.lst vs) := r2.fr p _ g4 fun z => g2 z.owned
    have gp : G2 p = none := r2.no p (show H1 p ≠ none by rw [g4]; simp) g1
    have np : ¬ Owned σ env2 p := fun ⟨a, s, o1, o2, o3⟩ => by
      obtain ⟨b, q1, q2, q3, q4⟩ := r2.ow a s o1 o2
      rw [o3] at q1
      cases q1
      rcases q4 with q4 | q4 | q4
      · rw [show H1 p = none from q4] at g4; cases g4
      · exact g2 (show OwnedW σ env1 p from q4).owned
      · cases s <;> first | (cases q4; done) | skip
        obtain ⟨ws, q5, _⟩ := q3
        rw [hp] at q5
        cases q5
    have r3 := (r1.unbase r2).newOwn (s := .ol xs) hB (canSet_lt c3).1 (.inl c3) gp np g3 rfl ⟨vs, hp, g5, Rps.mono e2 _ _ g6⟩
    refine k1 _ G2 H2 _ (r3.setD ?_ p2) c5
    unfold canSet at c4 ⊢
    rw [List.getElem?_set_ne hij]
    exact c4⟩
end
end FL

namespace FL
open PySem PySem.Spec PyProof.Rows L2

/-! ### name = {.. for ..} on one line, the name a local -/
section
variable {X : Cx}
theorem ps_setDc {i : Nat} {y : Str} {py : Pos} {kx vx tg iter : Expr} {ifs : List Expr} {scope : Scope} {own : List (Str × Nat)} {pos spos : Pos} {wi : TI} {g : TG} {tt : TT} {tk tv : TE} (hc : X.calm = true) (hN : X.N.Nodup) (hy : X.N[i]? = some y) (hyl : X.env.scope.names.lookup y = some .local)
    (hsw : swapsWith (.DictComp kx vx [⟨tg, iter, ifs, 0⟩] scope pos) (some (.Name y py)) spos.line X.env = pure true) (hi : PI X tg iter wi) (ok : BlkOk X.N X.env.scope scope own)
    (hg : ∀ (s : Shared) (H : Hp) (C : Addr) (cl : List (Str × Addr)) (fp : List Addr), PG (X.blk s H scope (compEnvC scope cl C X.env) fp) tg g)
    (ht : ∀ (s : Shared) (H : Hp) (C : Addr) (cl : List (Str × Addr)) (fp : List Addr), PTs (X.blk s H scope (compEnvC scope cl C X.env) fp) ifs tt)
    (hk : ∀ (s : Shared) (H : Hp) (C : Addr) (cl : List (Str × Addr)) (fp : List Addr), PE (X.blk s H scope (compEnvC scope cl C X.env) fp) kx tk)
    (he : ∀ (s : Shared) (H : Hp) (C : Addr) (cl : List (Str × Addr)) (fp : List Addr), PE (X.blk s H scope (compEnvC scope cl C X.env) fp) vx tv) (hs : ∀ x, foldedSetIterable iter X.env x = pure x := by intro _; rfl) :
    PS X (.Assign [.Name y py] (.DictComp kx vx [⟨tg, iter, ifs, 0⟩] scope pos) spos) (tAsg (tDc wi g tt tk tv (own.map (·.2))) (gName i)) := by
  refine ⟨fun pins s σ H D I h => ?_⟩
  rw [exec_Assign_Name_used _ _ _ _ hsw]
  refine wpAny_bind (wpAny_standAt (wpAny_bind ?_))
  show wpAny _ X.A (do let _ ← comprehension (.DictComp kx vx [⟨tg, iter, ifs, 0⟩] scope pos) scope X.env (firstIterPos [⟨tg, iter, ifs, 0⟩] pos) newDict false (eval iter X.env) (some (assign (.Name y py) X.env))) _ _ s
  have h : tDc wi g tt tk tv (own.map (·.2)) σ H (fun x H1 => gName i x σ H1 D.nx) := h
  refine wpAny_bind (thn (dc_core (Qf := fun _ s' => SP X pins D .next s') hc hN I hi ok hg ht hk he hs h fun L C s' m H' I' q hn f => ?_) fun _ s' hq => wpAny_pure (wpAny_pure hq))
  show wpAny _ _ (assign (.Name y py) X.env (.ref L)) _ _ _
  refine wpAny_assign_Name (store_ok2 (v := V.ref L) I' hN hy (.inl hyl) rfl (fun s2 I2 ⟨a, sb, ha⟩ => ?_) (.inr hyl))
  obtain ⟨f0, f1, f2, f3, f4, f5⟩ := f
  have haC : C ≠ a := by
    rcases ha with z | z
    · rw [z]; exact f1
    · exact fun e => f4 y a z e.symm
  refine ⟨m, hn.sameBut sb haC, fun h3 sb3 => ?_⟩
  exact ⟨_, H', I2.turned (t' := s2.toks) (fun b o hb e => (sb3.2 b hb).trans e) f0 f1 f3 f4 f5, q⟩
theorem sw_trueD {kx vx : Expr} {gs : List Comprehension} {scope : Scope} {pos py : Pos} {y : Str} {l : Nat} {env : Env} (hk : env.scope.kind = .function) (hy : env.scope.names.lookup y = some .local) (hl : (py.line == pos.line) = true)
    (ha : (scope.names.any fun (n, k) => n == y && (k == .local || k == .cell)) = false) : swapsWith (.DictComp kx vx gs scope pos) (some (.Name y py)) l env = pure true := by
  have ky : env.kindOf y = some .local := hy
  have hb : env.blockKind = .function := by unfold Env.blockKind; rw [hk]; rfl
  unfold swapsWith
  simp only [hb, ky, ha, Expr.pos, hl]
  rfl
theorem ds_ownDc {st : Stmt} {i : Nat} {di : DI} {p : Pat} {t : DT} {dk de : DE} {vs : List Nat} (h : PS X st (tAsg (tDc (TId X.K di) (TGd X.K p) (TTd X.K t) (TEd X.K dk) (TEd X.K de) vs) (gName i))) (hp : p.inB vs = true) (hnd : vs.Nodup) : PSd X st (sOwnD i (fDc di p t dk de vs)) :=
  ds_ownD (PS.imp' h fun _ _ _ q => dc_ok hp hnd q)
end
/-! ### a, b = e, [..] -/
def sParO2 (i j : Nat) (da : DE) (df : DF) : DS := fun E env => da env fun x env1 => df env1 fun ys env2 => (canSet env2 i = true ∧ canSet env2 j = true) ∧ E.nx ((env2.set i (.fz x)).set j (.ol ys))
section
variable {X : Cx} {st : Stmt} {df : DF} {da : DE}
theorem ds_parO2 {i j : Nat} (h : PS X st (tPar i j (tCons (TEd X.K da) (tCons (TEf X.K df) tNil)))) (hij : i ≠ j) : PSd X st (sParO2 i j da df) := PS.imp' h fun E σ H ⟨B, G, env, DE, hB, r, q, k1, k⟩ =>
  ⟨B, G, env, _, r, q, fun x env1 v G1 H1 r1 e1 p1 c1 => by
    refine ⟨B, G1, env1, _, r1, c1, fun ys env2 p vs G2 H2 r2 e2 g1 g2 g3 g4 g5 g6 c2 => ?_⟩
    obtain ⟨⟨c3, c4⟩, c5⟩ := c2
    have hl : j < env2.length := (canSet_lt c4).1
    have c4' : canSet (env2.set i (.fz x)) j = true := by
      unfold canSet at c4 ⊢
      rw [List.getElem?_set_ne hij]
      exact c4
    have r3 := r2.setD c3 (Rp.mono e2 _ _ p1)
    have no3 : ¬ Owned (σ.set i (some v)) (env2.set i (.fz x)) p := fun ⟨a, s, o1, o2, o3⟩ => by
      by_cases z : i = a
      · subst z
        rw [List.getElem?_set_self (canSet_lt c3).1] at o1
        cases o1
        cases o2
      · rw [List.getElem?_set_ne z] at o1 o3
        exact g2 ⟨a, s, o1, o2, o3⟩
    have r4 := r3.newOwn (s := .ol ys) hB (canSet_lt c4').1 (.inl c4') g1 no3 g3 rfl ⟨vs, g4, g5, g6⟩
    exact ⟨v, .ref p, rfl, k1 _ G2 H2 _ r4 c5⟩⟩
end
/-! ### defs that give a fresh list, and what is done with it -/
abbrev RSpec := List D → (List D → Prop) → Prop
/-- a def that gives a fresh list -/
def spR (n : Nat) (F : List D → (List D → Prop) → Prop) (K : PySem.W.Frag) : Sp := fun vs H Q _ => ∃ G ds R, Ex G H ∧ Rps K G ds vs ∧ ds.length = n ∧ F ds R ∧
  ∀ xs a avs G' H', Nw G H G' H' → G' a = none → H a = none → H' a = some (.lst avs) → xs.length ≤ sizeLine → Rps K G' xs avs → R xs → Q (.ref a) H'
def TSf (K : PySem.W.Frag) (ds : DS) : TS := fun E σ H => ∃ B G env DE, Bs.fn B ∧ SRep K B G H σ env ∧ ds DE env ∧
  ∀ xs p vs σ' G' H' env', SRep K B G' H' σ' env' → G' p = none → ¬ Owned σ' env' p → B.H0 p = none → H' p = some (.lst vs) → xs.length ≤ sizeLine → Rps K G' xs vs → DE.rt (.lst xs) env' → E.rt (.ref p) H'
def PSsf (X : Cx) (sts : List Stmt) (ds : DS) : Prop := PSs X sts (TSf X.K ds)
def sRetF (df : DF) : DS := fun E env => df env fun xs env1 => E.rt (.lst xs) env1
def sSeqF (a b : DS) : DS := fun DE env => a { nx := b DE, rt := fun _ _ => False } env
section
variable {X : Cx} {st : Stmt} {sts : List Stmt} {a b : DS} {e : Expr} {pos p : Pos} {df : DF}
theorem dsf_ret (he : PEf X e df) : PSsf X [.Return (some e) pos] (sRetF df) := PSs.imp' (pss_one (ps_ret he)) fun E σ H ⟨B, G, env, DE, hB, r, q, k⟩ =>
  ⟨B, G, env, _, r, q, fun xs env1 p vs G1 H1 r1 e1 g1 g2 g3 g4 g5 g6 c1 => k xs p vs σ G1 H1 env1 r1 g1 g2 g3 g4 g5 g6 c1⟩
theorem dsf_cons (h1 : PSd X st a) (h2 : PSsf X sts b) : PSsf X (st :: sts) (sSeqF a b) := PSs.imp' (pss_cons h1 h2) fun E σ H ⟨B, G, env, DE, hB, r, q, k⟩ =>
  ⟨B, G, env, _, hB, r, q, fun σ' G' H' env' r' c' => ⟨B, G', env', DE, hB, r', c', k⟩, fun _ _ _ _ _ _ _ _ c => c.elim, fun _ _ _ _ _ c => c.elim, fun _ _ _ _ _ c => c.elim⟩
variable {P : Program} {w : World} {K : PySem.W.Frag} {mg : Str → Option Value} {base : Heap}
theorem fn_fresh {x qual : Str} {st : Stmt} {f : Addr} {fd : FuncData} {N ps : List Str} {k : Nat} {F : List D → (List D → Prop) → Prop} {ds : DS} (Fn : Fun K x qual st f fd) (S : FnScope N ps (defScope st))
    (hb : ∀ (cdv : Value) (A : Around) (outer : List PySem.Env) (s : Shared) (H : Hp) (E : XK), Room k (A.deeper (envOfC qual (defScope st) s.heap.objs.size f cdv)) → PSsf (cxOf CX0 P w K mg base N qual (defScope st) f cdv A outer s H E).nox (defBody st) ds)
    (hF : ∀ as R, as.length = ps.length → F as R → ds { nx := fun _ => False, rt := fun d _ => ∃ xs, d = .lst xs ∧ R xs } (env0 N as)) : FnOk P w K mg base CX0 (k + 1) f fd ps (spR ps.length F K) := by
  refine Fn.ok S (fun vs H Q E h => ?_) (fun cdv A outer s H vs Q E hr h => ⟨TSf K ds, hb cdv A outer s H E hr, ?_⟩)
  · obtain ⟨G, as, R, _, h1, h2, _⟩ := h
    rw [← Rps.len h1, h2]
  · obtain ⟨G, as, R, s0, h1, h2, h3, k1⟩ := h
    have hl : vs.length ≤ N.length := by
      rw [← Rps.len h1, h2]
      have := congrArg List.length S.pre
      rw [List.length_take] at this
      omega
    refine ⟨⟨G, H, fun _ => False, none, fun _ => none⟩, G, env0 N as, _, fun a h => h.elim, srep_start s0 h1 hl, hF as R h2 h3, fun xs p vs σ' G' H' env' r g1 g2 g3 g4 g5 g6 c => ?_⟩
    obtain ⟨xs', e, c⟩ := c
    cases e
    exact k1 xs p vs G' H' ⟨r.g0, fun a o e => r.fr a o e (fun z => z), r.sub, r.no⟩ g1 g3 g4 g5 g6 c
/-- the call of such a def: a fresh list -/
def fCall (n : Nat) (F : List D → (List D → Prop) → Prop) (da : DA) : DF := fun env R => da env fun xs env1 => xs.length = n ∧ F xs fun ys => R ys env1
end
section
variable {X : Cx} {k n : Nat} {x : Str} {p pos : Pos} {e : Expr} {es : List Expr} {da : DA} {df : DF}
theorem df_call {F : List D → (List D → Prop) → Prop} {k' : Nat} (c : Cal X.prog X.w X.K X.mg X.base k x (spR n F X.K)) (hr : Room k' X.A) (hk : k ≤ k') (hg : Gl X x) (ha : PAd X (e :: es) da) (hdb : (x == ("__debug__" : Str)) = false := by decide)
    (he : starEach (e :: es) X.env = (false, eval e X.env) :: starEach es X.env := by rfl) (hpl : (backTo pos (starEach es X.env)).any (·.1) = false := by rfl) :
    PEf X (.Call (.Name x p) (e :: es) [] pos) (fCall n F da) := by
  obtain ⟨f, fd, ps, Fk, hm, hkp, hb⟩ := c
  refine PE.imp' (pe_call Fk (hr.mono hk) hg hm hkp hb .nil pass0 ha hdb he hpl) fun σ H Q ⟨B, G, env, R, r, q, k⟩ => ⟨B, G, env, _, r, q, fun xs env1 vs G1 H1 r1 e1 p1 c1 => ?_⟩
  show spR n F X.K (vs ++ []) H1 Q E0
  rw [List.append_nil]
  refine ⟨G1, xs, _, r1.sub, p1, c1.1, c1.2, fun ys a avs G2 H2 nw g1 g2 g3 g4 g5 c2 => ?_⟩
  have r2 := r1.ext nw
  have h0 : B.H0 a = none := by
    cases z : B.H0 a with
    | none => rfl
    | some o => exact absurd g2 (r1.there (by rw [z]; simp))
  have no : ¬ Owned σ env1 a := fun h => by obtain ⟨⟨o, h⟩, _⟩ := r1.owned h; rw [g2] at h; cases h
  exact k ys env1 a avs G2 H2 r2 (e1.trans nw.ex) g1 no h0 g3 g4 g5 c2
/-- a def with a borrowed list, the list a fresh one that nobody else has -/
def dCallPf (F : PSpec) (df : DF) : DE := fun env R => df env fun ys env1 => F ys [] fun d _ => R d env1
theorem SRep.lent {K : PySem.W.Frag} {B : Bs} {G H G' H' : Hp} {σ : L2.St} {env : SEnv} (r : SRep K B G H σ env) {a : Addr} (h1 : ¬ Owned σ env a) (h0 : B.H0 a = none) (x1 : Ex G G') (x2 : Ex G' H') (x3 : ∀ b o, H b = some o → b ≠ a → H' b = some o)
    (x4 : ∀ b, H b ≠ none → G b = none → G' b = none) : SRep K B G' H' σ env where
  g0 := r.g0.trans x1
  sub := x2
  fr := fun c u e m => x3 c u (r.fr c u e m) fun z => by rw [z, h0] at e; cases e
  no := fun c e1 e2 => x4 c (r.there e1) (r.no c e1 e2)
  len := r.len
  fz := fun i d e => by
    obtain ⟨v, q1, q2⟩ := r.fz i d e
    exact ⟨v, q1, Rp.mono x1 _ _ q2⟩
  ow := fun i s e1 e2 => by
    obtain ⟨c, q1, q2, q3, q4⟩ := r.ow i s e1 e2
    obtain ⟨o, hc⟩ := q3.some
    have hca : c ≠ a := fun z => h1 ⟨i, s, e1, e2, by rw [q1, z]⟩
    exact ⟨c, q1, x4 c (by rw [hc]; simp) q2, q3.mono x1 ((x3 c o hc hca).trans hc.symm), q4⟩
  dis := r.dis
  mu := r.mu
  pot := r.pot
  lk := r.lk
theorem de_callPf {F : PSpec} {k' : Nat} (c : Cal X.prog X.w X.K X.mg X.base k x (spP 0 F X.K)) (hr : Room k' X.A) (hk : k ≤ k') (hg : Gl X x) (ha : PEf X e df) (hdb : (x == ("__debug__" : Str)) = false := by decide)
    (he : starEach [e] X.env = (false, eval e X.env) :: starEach [] X.env := by rfl) (hpl : (backTo pos (starEach [] X.env)).any (·.1) = false := by rfl) :
    PEd X (.Call (.Name x p) [e] [] pos) (dCallPf F df) := by
  obtain ⟨f, fd, ps, Fk, hm, hkp, hb⟩ := c
  refine PE.imp' (pe_call Fk (hr.mono hk) hg hm hkp hb .nil pass0 (pa_cons ha pa_nil he) hdb he hpl) fun σ H Q ⟨B, G, env, R, r, q, k⟩ => ?_
  refine ⟨B, G, env, _, r, q, fun ys env1 a avs G1 H1 r1 e1 g1 g2 g3 g4 g5 g6 c1 => ?_⟩
  show spP 0 F X.K ([V.ref a] ++ []) H1 Q E0
  exact ⟨G1, a, ys, avs, [], [], _, rfl, r1.sub, g1, g4, g5, g6, rfl, rfl, c1, fun d zs v G' H' zvs x1 x2 x3 x4 x5 x6 x7 x8 c2 => k d env1 v G' H' (r1.lent g2 g3 x1 x2 x3 x4) (e1.trans x1) x8 c2⟩
end
end FL

namespace FL
open PySem PySem.Spec PyProof.Rows L2

/-! ### the combinators' equations -/
def onB (d : D) (x y : Prop) : Prop := match d with
  | .bl c => if c = true then x else y
  | _ => False
@[simp] theorem onB_bl {c : Bool} {x y : Prop} : onB (.bl c) x y = if c = true then x else y := rfl
section
variable {env : SEnv} {R : D → SEnv → Prop} {S : List D → SEnv → Prop} {E : DEnds} {U : Bool → SEnv → Prop} {O : Option Int → SEnv → Prop} {W : List (Key × D) → SEnv → Prop} {da db dc de dk dv : DE} {t u : DT} {a b : DS} {g g' : G2} {gn : GN} {i j n : Nat} {ds : DA} {df : DF} {p : Pat} {di : DI} {vs : List Nat} {Q : D → Prop}
@[simp] theorem q_var : dVar i env R = (match env[i]? with | some (.fz d) => R d env | _ => False) := rfl
@[simp] theorem q_own : dOwn i env R = (match env[i]? with | some (.ol xs) => R (.lst xs) env | _ => False) := rfl
@[simp] theorem q_c {d : D} : dC d env R = R d env := rfl
@[simp] theorem q_bin : dBin g da db env R = da env fun x env1 => db env1 fun y env2 => g x y fun d => R d env2 := rfl
@[simp] theorem q_binN : dBinN g i db env R = (match env[i]? with
  | some (.ol _) => db env fun y env1 => (match env1[i]? with
    | some (.ol xs) => g (.lst xs) y fun d => R d env1
    | _ => False)
  | _ => False) := rfl
@[simp] theorem q_neg : dNeg da env R = da env fun x env1 => (match x with | .int i => R (.int (-i)) env1 | _ => False) := rfl
@[simp] theorem q_not : dNot da env R = da env fun x env1 => (match x with | .bl b => R (.bl (!b)) env1 | _ => False) := rfl
@[simp] theorem q_chain : dChain g g' da db dc env R = da env fun x env1 => db env1 fun y env2 => g x y fun d => onB d (dc env2 fun z env3 => g' y z fun e => R e env3) (R (.bl false) env2) := by
  unfold dChain onB
  congr 1; funext x env1; congr 1; funext y env2; congr 1; funext d
  split <;> simp_all
@[simp] theorem q_and : dAnd da db env R = da env fun x env1 => onB x (db env1 R) (R (.bl false) env1) := by
  unfold dAnd onB
  congr 1; funext x env1
  split <;> simp_all
@[simp] theorem q_or : dOr da db env R = da env fun x env1 => onB x (R (.bl true) env1) (db env1 R) := by
  unfold dOr onB
  congr 1; funext x env1
  split <;> simp_all
@[simp] theorem q_tb1 : tB1 da env U = da env fun x env1 => (match x with | .bl b => U b env1 | _ => False) := rfl
@[simp] theorem q_tand : tAnd1 t u env U = t env fun b env1 => if b = true then u env1 U else U false env1 := rfl
@[simp] theorem q_tor : tOr1 t u env U = t env fun b env1 => if b = true then U true env1 else u env1 U := rfl
@[simp] theorem q_tnot : tNot1 t env U = t env fun b env1 => U (!b) env1 := rfl
@[simp] theorem q_tyes : tYes1 env U = U true env := rfl
@[simp] theorem q_if : dIf t da db env R = t env fun b env1 => if b = true then da env1 R else db env1 R := rfl
@[simp] theorem q_anil : aNil env S = S [] env := rfl
@[simp] theorem q_acons : aCons de ds env S = de env fun x env1 => ds env1 fun xs env2 => S (x :: xs) env2 := rfl
@[simp] theorem q_tup : dTup ds env R = ds env fun xs env1 => xs.length ≤ sizeLine ∧ R (.tup xs) env1 := rfl
@[simp] theorem q_lst : dLst ds env R = ds env fun xs env1 => xs.length ≤ sizeLine ∧ R (.lst xs) env1 := rfl
@[simp] theorem q_flst : fLst ds env S = ds env fun xs env1 => xs.length ≤ sizeLine ∧ S xs env1 := rfl
@[simp] theorem q_cb : dCB gn ds env R = ds env fun xs env1 => gn xs fun d => R d env1 := rfl
@[simp] theorem q_call {F : FSpec} : dCall n F ds env R = ds env fun xs env1 => xs.length = n ∧ F xs fun d => R d env1 := rfl
@[simp] theorem q_callP {F : PSpec} : dCallP n F i ds env R = (match env[i]? with
  | some (.ol _) => ds env fun xs env1 => (match env1[i]? with
    | some (.ol ys) => xs.length = n ∧ F ys xs fun d zs => R d (env1.set i (.ol zs))
    | _ => False)
  | _ => False) := rfl
@[simp] theorem q_callPf {F : PSpec} : dCallPf F df env R = df env fun ys env1 => F ys [] fun d _ => R d env1 := rfl
@[simp] theorem q_fcall {F : RSpec} : fCall n F ds env S = ds env fun xs env1 => xs.length = n ∧ F xs fun ys => S ys env1 := rfl
@[simp] theorem q_fz : dFz df env R = df env fun xs env1 => R (.lst xs) env1 := rfl
@[simp] theorem q_flist : fList de env S = de env fun x env1 => (match itemsOf x with | some xs => S xs env1 | none => False) := rfl
@[simp] theorem q_onone : oNone env O = O none env := rfl
@[simp] theorem q_osome : oSome da env O = da env fun x env1 => (match x with | .int i => O (some i) env1 | _ => False) := rfl
@[simp] theorem q_slice {lo hi : DO} : dSlice da lo hi env R = da env fun x env1 => lo env1 fun l env2 => hi env2 fun h env3 => (match x with | .tup xs => R (.tup (cutD xs l h)) env3 | .lst xs => R (.lst (cutD xs l h)) env3 | _ => False) := rfl
@[simp] theorem q_iseq : iSeq de env S = de env fun x env1 => (match itemsOf x with | some xs => S xs env1 | none => False) := rfl
@[simp] theorem q_iran1 : iRan1 de env S = de env fun x env1 => (match x with | .int n => n < 2 ^ 62 ∧ -(2 ^ 62) ≤ n ∧ S (intD 0 n.toNat) env1 | _ => False) := rfl
@[simp] theorem q_iran2 : iRan2 da db env S = da env fun x env1 => db env1 fun y env2 => (match x, y with | .int i, .int j => (-(2 ^ 62) ≤ i ∧ i < 2 ^ 62 ∧ -(2 ^ 62) ≤ j ∧ j < 2 ^ 62) ∧ S (intD i (j - i).toNat) env2 | _, _ => False) := rfl
@[simp] theorem q_izip : iZipd da db env S = da env fun x env1 => db env1 fun y env2 => (match x, y with | .tup xs, .tup ys => S (zipD xs ys) env2 | .lst xs, .lst ys => S (zipD xs ys) env2 | _, _ => False) := rfl
@[simp] theorem q_ienum : iEnumd da env S = da env fun x env1 => (match x with | .lst xs => S (enumD 0 xs) env1 | _ => False) := rfl
@[simp] theorem q_flc : fLc di p t de vs env S = di env fun items env1 => okW env1 vs = true ∧ items.length ≤ sizeLine ∧ compD p t de vs items [] (wipeD env1 vs) fun acc env2 => S acc (backD env1 env2 vs) := rfl
@[simp] theorem q_fdc : fDc di p t dk dv vs env W = di env fun items env1 => okW env1 vs = true ∧ items.length ≤ sizeLine ∧ compDD p t dk dv vs items [] (wipeD env1 vs) fun acc env2 => W acc (backD env1 env2 vs) := rfl
@[simp] theorem q_fnewd : fNewD env W = W [] env := rfl
@[simp] theorem q_fdictp : fDictP de env W = de env fun x env1 => (match x with | .lst xs => (match pairsOf xs with | some kvs => W (mergeD [] kvs) env1 | none => False) | _ => False) := rfl
@[simp] theorem q_count : dCount da db env R = da env fun x env1 => (match x with
  | .lst xs => db env1 fun y env2 => (match intsOf xs, y with
    | some ns, .int k => R (.int (ns.count k : Nat)) env2
    | _, _ => False)
  | _ => False) := rfl
@[simp] theorem q_duprg1 : dTupRg1 da env R = da env fun x env1 => (match x with | .int n => (0 ≤ n ∧ n ≤ 16777216) ∧ R (.tup (rgD 0 n)) env1 | _ => False) := rfl
@[simp] theorem q_duprg2 : dTupRg2 da db env R = da env fun x env1 => db env1 fun y env2 => (match x, y with | .int a, .int b => (0 ≤ a ∧ a ≤ 16777216 ∧ 0 ≤ b ∧ b ≤ 16777216) ∧ R (.tup (rgD a b)) env2 | _, _ => False) := rfl
@[simp] theorem q_flrg1 : fLstRg1 da env S = da env fun x env1 => (match x with | .int n => (0 ≤ n ∧ n ≤ 16777216) ∧ S (rgD 0 n) env1 | _ => False) := rfl
@[simp] theorem q_listvals : dListVals i env R = (match env[i]? with | some (.od kvs) => R (.lst (kvs.map (·.2))) env | _ => False) := rfl
@[simp] theorem q_dget : dDGet i dk env R = (match dictOf env[i]? with
  | some _ => dk env fun k env1 => (match dictOf env1[i]?, keyOf k with
    | some kvs, some key => (match valD kvs key with
      | some d => R d env1
      | none => False)
    | _, _ => False)
  | none => False) := rfl
@[simp] theorem q_dictod {kvs} : dictOf (some (.od kvs)) = some kvs := rfl
@[simp] theorem q_dictld {o kvs} : dictOf (some (.ld o kvs)) = some kvs := rfl
@[simp] theorem q_keyi {z : Int} : keyOf (.int z) = some (.inl z) := rfl
@[simp] theorem q_keys {z : Str} : keyOf (.str z) = some (.inr z) := rfl
-- statements
@[simp] theorem q_next : sNext E env = E.nx env := rfl
@[simp] theorem q_seq : sSeq a b E env = a { E with nx := b E } env := rfl
@[simp] theorem q_seqF : sSeqF a b E env = a { nx := b E, rt := fun _ _ => False } env := rfl
@[simp] theorem q_ret : sRet de E env = de env fun d env1 => E.rt d env1 := rfl
@[simp] theorem q_retF : sRetF df E env = df env fun xs env1 => E.rt (.lst xs) env1 := rfl
@[simp] theorem q_retN : sRetN E env = E.rt .non env := rfl
@[simp] theorem q_brk : sBrk E env = E.bk env := rfl
@[simp] theorem q_cnt : sCnt E env = E.ct env := rfl
@[simp] theorem q_never : sNever E env = False := rfl
@[simp] theorem q_sif : sIf t a b E env = t env fun c env1 => if c = true then a E env1 else b E env1 := rfl
@[simp] theorem q_drop : sDrop de E env = de env fun _ env1 => E.nx env1 := rfl
@[simp] theorem q_asg : sAsg de p E env = de env fun d env1 => (match patSet p d env1 with | some env2 => E.nx env2 | none => False) := rfl
@[simp] theorem q_par : sPar i j da db E env = da env fun x env1 => db env1 fun y env2 => (canSet env2 i = true ∧ canSet env2 j = true) ∧ E.nx ((env2.set i (.fz x)).set j (.fz y)) := rfl
@[simp] theorem q_parO : sParO i j df db E env = df env fun xs env1 => db env1 fun y env2 => (canSet env2 i = true ∧ canSet env2 j = true) ∧ E.nx ((env2.set i (.ol xs)).set j (.fz y)) := rfl
@[simp] theorem q_parO2 : sParO2 i j da df E env = da env fun x env1 => df env1 fun ys env2 => (canSet env2 i = true ∧ canSet env2 j = true) ∧ E.nx ((env2.set i (.fz x)).set j (.ol ys)) := rfl
@[simp] theorem q_for : sFor di p b E env = di env fun items env1 => forD p b E items env1 := rfl
@[simp] theorem q_sown : sOwn i df E env = df env fun xs env1 => (i < env1.length ∧ (canSet env1 i = true ∨ (i ≠ 0 ∧ noLd env1 i = true))) ∧ E.nx (env1.set i (.ol xs)) := rfl
@[simp] theorem q_sownD {f : DFD} : sOwnD i f E env = f env fun xs env1 => (i < env1.length ∧ (canSet env1 i = true ∨ (i ≠ 0 ∧ noLd env1 i = true))) ∧ E.nx (env1.set i (.od xs)) := rfl
@[simp] theorem q_sapp : sApp i de E env = (match env[i]? with
  | some (.ol _) => de env fun d env1 => (match env1[i]? with
    | some (.ol xs) => xs.length < sizeLine ∧ E.nx (env1.set i (.ol (xs ++ [d])))
    | _ => False)
  | _ => False) := rfl
@[simp] theorem q_setix : sSetIx i dk dv E env = dv env fun d env1 => (match env1[i]? with
  | some (.ol _) => dk env1 fun k env2 => (match env2[i]?, k with
    | some (.ol xs), .int j => (match ixN xs.length j with
      | some n => E.nx (env2.set i (.ol (xs.set n d)))
      | none => False)
    | _, _ => False)
  | _ => False) := rfl
@[simp] theorem q_dput : sDPutD i dk dv E env = dv env fun d env1 => (match env1[i]? with
  | some (.od _) => dk env1 fun k env2 => (match env2[i]?, keyOf k with
    | some (.od kvs), some key => kvs.length < sizeLine ∧ E.nx (env2.set i (.od (putD kvs key d)))
    | _, _ => False)
  | _ => False) := rfl
@[simp] theorem q_frz {s : DS} : sFrz i s E env = (match env[i]? with | some (.ol xs) => i ≠ 0 ∧ s E (env.set i (.fz (.lst xs))) | _ => False) := rfl
@[simp] theorem q_skeys : sKeys i p b E env = (match env[i]? with | some (.od kvs) => i ≠ 0 ∧ ∀ o, forD p b (unE i o E) (kvs.map fun q => kD q.1) (env.set i (.ld o kvs)) | _ => False) := rfl
-- slots
@[simp] theorem q_pnm {d : D} : patSet (.nm i) d env = if canSet env i = true then some (env.set i (.fz d)) else none := by unfold patSet; rfl
@[simp] theorem q_ptp {ps : List Pat} {xs : List D} : patSet (.tp ps) (.tup xs) env = patSets ps xs env := by unfold patSet; rfl
@[simp] theorem q_pnil : patSets [] [] env = some env := by unfold patSets; rfl
@[simp] theorem q_pcons {ps : List Pat} {x : D} {xs : List D} : patSets (p :: ps) (x :: xs) env = (match patSet p x env with | some env1 => patSets ps xs env1 | none => none) := by
  conv => lhs; unfold patSets
  all_goals rfl
@[simp] theorem q_can0 {s : Sl} : canSet (s :: env) 0 = !s.isOwn := rfl
@[simp] theorem q_canS {s : Sl} : canSet (s :: env) (i + 1) = canSet env i := rfl
@[simp] theorem q_ld0 {s : Sl} : noLd (s :: env) 0 = !s.isLd := rfl
@[simp] theorem q_ldS {s : Sl} : noLd (s :: env) (i + 1) = noLd env i := rfl
@[simp] theorem q_own1 : Sl.isOwn .no = false := rfl
@[simp] theorem q_own2 {d : D} : Sl.isOwn (.fz d) = false := rfl
@[simp] theorem q_own3 {xs} : Sl.isOwn (.ol xs) = true := rfl
@[simp] theorem q_own4 {xs} : Sl.isOwn (.od xs) = true := rfl
@[simp] theorem q_own5 {o xs} : Sl.isOwn (.ld o xs) = true := rfl
@[simp] theorem q_isld1 : Sl.isLd .no = false := rfl
@[simp] theorem q_isld2 {d : D} : Sl.isLd (.fz d) = false := rfl
@[simp] theorem q_isld3 {xs} : Sl.isLd (.ol xs) = false := rfl
@[simp] theorem q_isld4 {xs} : Sl.isLd (.od xs) = false := rfl
@[simp] theorem q_wnil : wipeD env [] = env := rfl
@[simp] theorem q_wcons : wipeD env (i :: vs) = (wipeD env vs).set i .no := rfl
@[simp] theorem q_oknil : okW env [] = true := rfl
@[simp] theorem q_okcons : okW env (i :: vs) = (canSet env i && okW env vs) := rfl
@[simp] theorem q_bnil {env2 : SEnv} : backD env env2 [] = env2 := rfl
@[simp] theorem q_bcons {env2 : SEnv} : backD env env2 (i :: vs) = backD env (env2.set i (env[i]?.getD .no)) vs := rfl
-- operations
@[simp] theorem q_addi {x y : Int} : gAdd (.int x) (.int y) Q = Q (.int (x + y)) := rfl
@[simp] theorem q_addt {x y : List D} : gAdd (.tup x) (.tup y) Q = (x.length + y.length ≤ sizeLine ∧ Q (.tup (x ++ y))) := rfl
@[simp] theorem q_addl {x y : List D} : gAdd (.lst x) (.lst y) Q = (x.length + y.length ≤ sizeLine ∧ Q (.lst (x ++ y))) := rfl
@[simp] theorem q_sub {x y : Int} : gSub (.int x) (.int y) Q = Q (.int (x - y)) := rfl
@[simp] theorem q_mul {x y : Int} : gMul (.int x) (.int y) Q = (CMulA x y ∧ Q (.int (x * y))) := rfl
@[simp] theorem q_div {x y : Int} : gDiv (.int x) (.int y) Q = (CDivW x y ∧ Q (.int (x / y))) := rfl
@[simp] theorem q_mod {x y : Int} : gMod (.int x) (.int y) Q = (0 < y ∧ Q (.int (x % y))) := rfl
@[simp] theorem q_pow {x y : Int} : gPow (.int x) (.int y) Q = (CPowA x y ∧ Q (.int (x ^ y.toNat))) := rfl
@[simp] theorem q_eq {x y : D} : gEq x y Q = ((cmpD x = true ∧ cmpD y = true) ∧ Q (.bl (eqD x y))) := rfl
@[simp] theorem q_ne {x y : D} : gNe x y Q = ((cmpD x = true ∧ cmpD y = true) ∧ Q (.bl (!eqD x y))) := rfl
@[simp] theorem q_lti {x y : Int} : gLt (.int x) (.int y) Q = Q (.bl (decide (x < y))) := rfl
@[simp] theorem q_gti {x y : Int} : gGt (.int x) (.int y) Q = Q (.bl (decide (y < x))) := rfl
@[simp] theorem q_lei {x y : Int} : gLe (.int x) (.int y) Q = Q (.bl (decide (x ≤ y))) := rfl
@[simp] theorem q_gei {x y : Int} : gGe (.int x) (.int y) Q = Q (.bl (decide (y ≤ x))) := rfl
@[simp] theorem q_ltt {x y : List D} : gLt (.tup x) (.tup y) Q = ((cmpD (.tup x) = true ∧ cmpD (.tup y) = true ∧ likeD (.tup x) (.tup y) = true) ∧ Q (.bl (ltD (.tup x) (.tup y)))) := rfl
@[simp] theorem q_isn0 : gIsN .non .non Q = Q (.bl true) := rfl
@[simp] theorem q_isn1 {x : Int} : gIsN (.int x) .non Q = Q (.bl false) := rfl
@[simp] theorem q_isn2 {x} : gIsN (.tup x) .non Q = Q (.bl false) := rfl
@[simp] theorem q_notn0 : gNotN .non .non Q = Q (.bl false) := rfl
@[simp] theorem q_notn1 {x : Int} : gNotN (.int x) .non Q = Q (.bl true) := rfl
@[simp] theorem q_notn2 {x} : gNotN (.tup x) .non Q = Q (.bl true) := rfl
@[simp] theorem q_items1 {x} : itemsOf (.tup x) = some x := rfl
@[simp] theorem q_items2 {x} : itemsOf (.lst x) = some x := rfl
@[simp] theorem q_in {x y : D} {ng : Bool} : gIn ng x y Q = (match itemsOf y with | some xs => (flatD x = true ∧ xs.all flatD = true) ∧ Q (.bl (if ng then !inD x xs else inD x xs)) | none => False) := rfl
@[simp] theorem q_gix {x y : D} : gIx x y Q = (match itemsOf x, y with | some xs, .int i => (match atI xs i with | some d => Q d | none => False) | _, _ => False) := rfl
@[simp] theorem q_len {x : D} : gLen [x] Q = (match itemsOf x with | some xs => Q (.int xs.length) | none => False) := rfl
@[simp] theorem q_int {x : Int} : gInt1 [.int x] Q = Q (.int x) := rfl
@[simp] theorem q_intb {x : Bool} : gInt1 [.bl x] Q = Q (.int (if x then 1 else 0)) := rfl
@[simp] theorem q_abs {x : Int} : gAbs [.int x] Q = Q (.int (if x < 0 then -x else x)) := rfl
@[simp] theorem q_max2 {x y : Int} : gMax2 [.int x, .int y] Q = Q (.int (if y > x then y else x)) := rfl
@[simp] theorem q_min2 {x y : Int} : gMin2 [.int x, .int y] Q = Q (.int (if y < x then y else x)) := rfl
@[simp] theorem q_gcd {x y : Int} : gGcd [.int x, .int y] Q = Q (.int ((Nat.gcd x.natAbs y.natAbs : Nat) : Int)) := rfl
@[simp] theorem q_sum {x : D} : gSum [x] Q = (match itemsOf x with | some xs => (match intsOf xs with | some ns => Q (.int ns.sum) | none => False) | none => False) := rfl
@[simp] theorem q_max1 {x : D} : gMax1 [x] Q = (match itemsOf x with | some xs => (match intsOf xs with | some ns => 0 < ns.length ∧ ∀ m, m ∈ ns → (∀ y, y ∈ ns → y ≤ m) → Q (.int m) | none => False) | none => False) := rfl
@[simp] theorem q_min1 {x : D} : gMin1 [x] Q = (match itemsOf x with | some xs => (match intsOf xs with | some ns => 0 < ns.length ∧ ∀ m, m ∈ ns → (∀ y, y ∈ ns → m ≤ y) → Q (.int m) | none => False) | none => False) := rfl
@[simp] theorem q_all {x : List D} : gAll [.lst x] Q = (match blsOf x with | some bs => Q (.bl (bs.all id)) | none => False) := rfl
@[simp] theorem q_any {x : List D} : gAny [.lst x] Q = (match blsOf x with | some bs => Q (.bl (bs.any id)) | none => False) := rfl
@[simp] theorem q_tuple {x : D} : gTuple [x] Q = (match itemsOf x with | some xs => Q (.tup xs) | none => False) := rfl
@[simp] theorem q_list {x : D} : gList [x] Q = (match itemsOf x with | some xs => Q (.lst xs) | none => False) := rfl
@[simp] theorem q_isi {T U : String} {x : D} : gIsi T [x, .raw (.ty U)] Q = (U = T ∧ (match tyOfD x with | some t => (match kitB t T with | some b => Q (.bl b) | none => False) | none => False)) := rfl
end
@[simp] theorem kit_ii : kitB "int" "int" = some true := by decide +kernel
@[simp] theorem kit_it : kitB "int" "tuple" = some false := by decide +kernel
@[simp] theorem kit_ib : kitB "int" "bool" = some false := by decide +kernel
@[simp] theorem kit_bb : kitB "bool" "bool" = some true := by decide +kernel
@[simp] theorem kit_bi : kitB "bool" "int" = some true := by decide +kernel
@[simp] theorem kit_tt : kitB "tuple" "tuple" = some true := by decide +kernel
@[simp] theorem kit_ti : kitB "tuple" "int" = some false := by decide +kernel
@[simp] theorem kit_tb : kitB "tuple" "bool" = some false := by decide +kernel
@[simp] theorem kit_nt : kitB "NoneType" "tuple" = some false := by decide +kernel
@[simp] theorem kit_ni : kitB "NoneType" "int" = some false := by decide +kernel
@[simp] theorem ty_i {x : Int} : tyOfD (.int x) = some "int" := rfl
@[simp] theorem ty_b {x : Bool} : tyOfD (.bl x) = some "bool" := rfl
@[simp] theorem ty_t {x} : tyOfD (.tup x) = some "tuple" := rfl
@[simp] theorem ty_n : tyOfD .non = some "NoneType" := rfl

/-! ### lists of ints and bools -/
@[simp] theorem intsOf_map : ∀ ns : List Int, intsOf (ns.map D.int) = some ns
  | [] => rfl
  | n :: ns => by show (intsOf (ns.map D.int)).map (n :: ·) = _; rw [intsOf_map ns]; rfl
@[simp] theorem intsOf_nil : intsOf [] = some [] := rfl
@[simp] theorem intsOf_cons {n : Int} {xs : List D} : intsOf (.int n :: xs) = (intsOf xs).map (n :: ·) := rfl
theorem intsOf_mapf {α : Type} (f : α → Int) : ∀ xs : List α, intsOf (xs.map fun x => D.int (f x)) = some (xs.map f)
  | [] => rfl
  | x :: xs => by show (intsOf (xs.map fun x => D.int (f x))).map (f x :: ·) = _; rw [intsOf_mapf f xs]; rfl
@[simp] theorem blsOf_map : ∀ ns : List Bool, blsOf (ns.map D.bl) = some ns
  | [] => rfl
  | n :: ns => by show (blsOf (ns.map D.bl)).map (n :: ·) = _; rw [blsOf_map ns]; rfl
theorem blsOf_mapf {α : Type} (f : α → Bool) : ∀ xs : List α, blsOf (xs.map fun x => D.bl (f x)) = some (xs.map f)
  | [] => rfl
  | x :: xs => by show (blsOf (xs.map fun x => D.bl (f x))).map (f x :: ·) = _; rw [blsOf_mapf f xs]; rfl
def at0 (ns : List Int) (i : Nat) : Int := ns.getD i 0
theorem at0_get {ns : List Int} {i : Nat} (h : i < ns.length) : ns[i]? = some (at0 ns i) := by
  rw [List.getElem?_eq_getElem h]
  simp [at0, List.getD, List.getElem?_eq_getElem h]
theorem at0_mem {ns : List Int} {i : Nat} (h : i < ns.length) : at0 ns i ∈ ns := List.mem_of_getElem? (at0_get h)
theorem at0_of {ns : List Int} {i : Nat} {x : Int} (h : ns[i]? = some x) : at0 ns i = x := by
  unfold at0 List.getD
  rw [h]; rfl
theorem atI_int {ns : List Int} {i : Nat} (h : i < ns.length) : atI (ns.map D.int) (i : Int) = some (.int (at0 ns i)) := by
  refine atI_nat ?_
  rw [List.getElem?_map, at0_get h]
  rfl
theorem atI_of {xs : List D} {i : Int} {j : Nat} {d : D} (e : i = (j : Int)) (h : xs[j]? = some d) : atI xs i = some d := by
  subst e
  exact atI_nat h
theorem ixN_of {n : Nat} {i : Int} {j : Nat} (e : i = (j : Int)) (h : j < n) : ixN n i = some j := by
  subst e
  unfold ixN
  rw [if_pos (by omega), if_pos (by omega)]
  rfl
@[simp] theorem atI_0 {d : D} {xs : List D} : atI (d :: xs) 0 = some d := atI_of (j := 0) rfl rfl
@[simp] theorem atI_1 {c d : D} {xs : List D} : atI (c :: d :: xs) 1 = some d := atI_of (j := 1) rfl rfl
@[simp] theorem atI_2 {b c d : D} {xs : List D} : atI (b :: c :: d :: xs) 2 = some d := atI_of (j := 2) rfl rfl
/-! ### loops -/
section
variable {env : SEnv} {E : DEnds} {p : Pat} {b : DS} {t : DT} {e dk dv : DE} {vs : List Nat}
theorem forD_inv {items : List D} (I : Nat → SEnv → Prop) (h0 : I 0 env) (he : ∀ env, I items.length env → E.nx env)
    (hs : ∀ (i : Nat) x env (Nx : SEnv → Prop), items[i]? = some x → I i env → (∀ env, I (i + 1) env → Nx env) → match patSet p x env with
      | some env1 => b { E with nx := Nx, ct := Nx, bk := E.nx } env1
      | none => False) : forD p b E items env := by
  have key : ∀ (n i : Nat) env, i + n = items.length → I i env → forD p b E (items.drop i) env := by
    intro n
    induction n with
    | zero =>
      intro i env hi h
      rw [List.drop_eq_nil_of_le (by omega)]
      unfold forD
      exact he env (by rw [← hi]; exact h)
    | succ n ih =>
      intro i env hi h
      have hl : i < items.length := by omega
      rw [List.drop_eq_getElem_cons hl]
      unfold forD
      exact hs i _ env _ (List.getElem?_eq_getElem hl) h fun env' h' => ih (i + 1) env' (by omega) h'
  exact key items.length 0 env (by omega) h0
theorem forD_nil : forD p b E [] env = E.nx env := by unfold forD; rfl
theorem forD_cons {x : D} {xs : List D} : forD p b E (x :: xs) env = (match patSet p x env with
    | some env1 => b { E with nx := forD p b E xs, ct := forD p b E xs, bk := E.nx } env1
    | none => False) := by
  conv => lhs; unfold forD
  all_goals rfl
/-- over a list of things coded as data -/
theorem forD_map {α : Type} {xs : List α} (enc : α → D) (I : List α → SEnv → Prop) (h0 : I [] env) (he : ∀ env, I xs env → E.nx env)
    (hs : ∀ ys x zs env (Nx : SEnv → Prop), xs = ys ++ x :: zs → I ys env → (∀ env, I (ys ++ [x]) env → Nx env) → match patSet p (enc x) env with
      | some env1 => b { E with nx := Nx, ct := Nx, bk := E.nx } env1
      | none => False) : forD p b E (xs.map enc) env := by
  have key : ∀ (zs ys : List α) env, xs = ys ++ zs → I ys env → forD p b E (zs.map enc) env := by
    intro zs
    induction zs with
    | nil =>
      intro ys env e h
      rw [List.map_nil, forD_nil]
      rw [List.append_nil] at e
      exact he env (e ▸ h)
    | cons z zs ih =>
      intro ys env e h
      rw [List.map_cons, forD_cons]
      exact hs ys z zs env _ e h fun env' h' => ih (ys ++ [z]) env' (by rw [e, List.append_assoc]; rfl) h'
  exact key xs [] env rfl h0
theorem compD_map {α : Type} {xs : List α} (enc : α → D) {R : List D → SEnv → Prop} {acc : List D} (I : List α → List D → SEnv → Prop) (h0 : I [] acc env) (he : ∀ acc env, I xs acc env → R acc env)
    (hs : ∀ ys x zs acc env (Nx : List D → SEnv → Prop), xs = ys ++ x :: zs → I ys acc env → (∀ acc env, I (ys ++ [x]) acc env → Nx acc env) → match patSet p (enc x) env with
      | some env1 => t env1 fun b env2 => if b = true then e env2 fun d env3 => okW env3 vs = true ∧ Nx (acc ++ [d]) (wipeD env3 vs) else okW env2 vs = true ∧ Nx acc (wipeD env2 vs)
      | none => False) : compD p t e vs (xs.map enc) acc env R := by
  have key : ∀ (zs ys : List α) acc env, xs = ys ++ zs → I ys acc env → compD p t e vs (zs.map enc) acc env R := by
    intro zs
    induction zs with
    | nil =>
      intro ys acc env e h
      rw [List.map_nil]
      unfold compD
      rw [List.append_nil] at e
      exact he acc env (e ▸ h)
    | cons z zs ih =>
      intro ys acc env e h
      rw [List.map_cons]
      unfold compD
      exact hs ys z zs acc env _ e h fun acc' env' h' => ih (ys ++ [z]) acc' env' (by rw [e, List.append_assoc]; rfl) h'
  exact key xs [] acc env rfl h0
/-- nothing but the list comes of it: each item gives its value or nothing -/
theorem compD_fn {α : Type} {xs : List α} (enc : α → D) {R : List D → SEnv → Prop} (f : α → Option D) (h : R (xs.filterMap f) env)
    (hs : ∀ x, x ∈ xs → ∀ acc (Nx : List D → SEnv → Prop), Nx (acc ++ (f x).toList) env → match patSet p (enc x) env with
      | some env1 => t env1 fun b env2 => if b = true then e env2 fun d env3 => okW env3 vs = true ∧ Nx (acc ++ [d]) (wipeD env3 vs) else okW env2 vs = true ∧ Nx acc (wipeD env2 vs)
      | none => False) : compD p t e vs (xs.map enc) [] env R := by
  refine compD_map enc (fun ys acc env' => acc = ys.filterMap f ∧ env' = env) ⟨rfl, rfl⟩ (fun acc env' h' => by rw [h'.1, h'.2]; exact h) fun ys x zs acc env' Nx ex hI hN => ?_
  obtain ⟨rfl, rfl⟩ := hI
  refine hs x (by rw [ex]; simp) _ Nx (hN _ _ ⟨?_, rfl⟩)
  rw [List.filterMap_append]
  cases hf : f x <;> simp [hf]
theorem compDD_fn {α : Type} {xs : List α} (enc : α → D) {R : List (Key × D) → SEnv → Prop} (f : α → Option (Key × D)) (h : R ((xs.filterMap f).foldl (fun acc kv => putD acc kv.1 kv.2) []) env)
    (hs : ∀ x, x ∈ xs → ∀ acc (Nx : List (Key × D) → SEnv → Prop), Nx ((f x).toList.foldl (fun acc kv => putD acc kv.1 kv.2) acc) env → match patSet p (enc x) env with
      | some env1 => t env1 fun b env2 => if b = true then dk env2 fun k env3 => dv env3 fun d env4 => (match keyOf k with
          | some key => okW env4 vs = true ∧ Nx (putD acc key d) (wipeD env4 vs)
          | none => False)
        else okW env2 vs = true ∧ Nx acc (wipeD env2 vs)
      | none => False) : compDD p t dk dv vs (xs.map enc) [] env R := by
  have key : ∀ (zs ys : List α) acc, xs = ys ++ zs → acc = (ys.filterMap f).foldl (fun acc kv => putD acc kv.1 kv.2) [] → compDD p t dk dv vs (zs.map enc) acc env R := by
    intro zs
    induction zs with
    | nil =>
      intro ys acc e h'
      rw [List.map_nil]
      unfold compDD
      rw [List.append_nil] at e
      rw [h', ← e]
      exact h
    | cons z zs ih =>
      intro ys acc e h'
      rw [List.map_cons]
      unfold compDD
      refine hs z (by rw [e]; simp) acc (fun acc env' => compDD p t dk dv vs (zs.map enc) acc env' R) (ih (ys ++ [z]) _ (by rw [e, List.append_assoc]; rfl) ?_)
      rw [List.filterMap_append, List.foldl_append, ← h']
      cases hf : f z <;> simp [hf]
  exact key xs [] [] rfl rfl
end
@[simp] theorem intD_zero (n : Nat) : intD 0 n = (List.range n).map fun i : Nat => D.int (i : Int) := by
  unfold intD
  simp
theorem intD_map (lo : Int) (n : Nat) : intD lo n = (List.range n).map fun i : Nat => D.int (lo + (i : Int)) := rfl
theorem zipD_map : ∀ xs ys : List Int, zipD (xs.map D.int) (ys.map D.int) = (xs.zip ys).map fun q => D.tup [.int q.1, .int q.2]
  | [], _ => by simp [zipD]
  | _ :: _, [] => by simp [zipD]
  | x :: xs, y :: ys => by simp [zipD, zipD_map xs ys]
abbrev tI (ns : List Int) : D := .tup (ns.map D.int)
abbrev lI (ns : List Int) : D := .lst (ns.map D.int)
/-- a def as the top has it -/
structure DefOk (K : PySem.W.Frag) (mg : Str → Option Value) (x : Str) (st : Stmt) (ps : List Str) : Prop where
  ex : ∃ (f : Addr) (fd : FuncData), Fun K x x st f fd ∧ mg x = some (.ref f) ∧ Binds K fd ps []
end FL

namespace FL
open PySem PySem.Spec PyProof.Rows L2
/-! ### data compared -/
@[simp] theorem eqD_ii {x y : Int} : eqD (.int x) (.int y) = (x == y) := by
  show PyData.eqv (.int x) (.int y) = _
  rw [PyData.eqv]
@[simp] theorem eqD_bb {x y : Bool} : eqD (.bl x) (.bl y) = (x == y) := by
  show PyData.eqv (.bool x) (.bool y) = _
  rw [PyData.eqv]
@[simp] theorem eqD_nn : eqD .non .non = true := by
  show PyData.eqv .none .none = _
  rw [PyData.eqv]
@[simp] theorem eqD_ni {x : Int} : eqD .non (.int x) = false := by
  show PyData.eqv .none (.int x) = _
  simp [PyData.eqv]
@[simp] theorem eqD_in {x : Int} : eqD (.int x) .non = false := by
  show PyData.eqv (.int x) .none = _
  simp [PyData.eqv]
@[simp] theorem eqD_nt {x} : eqD .non (.tup x) = false := by
  show PyData.eqv .none (.tuple _) = _
  simp [PyData.eqv]
@[simp] theorem eqD_tn {x} : eqD (.tup x) .non = false := by
  show PyData.eqv (.tuple _) .none = _
  simp [PyData.eqv]
theorem eqv_tt {x y : List D} : eqD (.tup x) (.tup y) = PyData.eqvAll (toPs x) (toPs y) := by
  show PyData.eqv (.tuple (toPs x)) (.tuple (toPs y)) = _
  rw [PyData.eqv]
theorem eqv_ll {x y : List D} : eqD (.lst x) (.lst y) = PyData.eqvAll (toPs x) (toPs y) := by
  show PyData.eqv (.list (toPs x)) (.list (toPs y)) = _
  rw [PyData.eqv]
@[simp] theorem eqD_t0 : eqD (.tup []) (.tup []) = true := by rw [eqv_tt]; simp [toPs, PyData.eqvAll]
@[simp] theorem eqD_tc {x y : D} {xs ys : List D} : eqD (.tup (x :: xs)) (.tup (y :: ys)) = (eqD x y && eqD (.tup xs) (.tup ys)) := by
  rw [eqv_tt, eqv_tt]
  show PyData.eqvAll (toP x :: toPs xs) (toP y :: toPs ys) = _
  rw [PyData.eqvAll]
  rfl
@[simp] theorem eqD_l0 : eqD (.lst []) (.lst []) = true := by rw [eqv_ll]; simp [toPs, PyData.eqvAll]
@[simp] theorem eqD_lc {x y : D} {xs ys : List D} : eqD (.lst (x :: xs)) (.lst (y :: ys)) = (eqD x y && eqD (.lst xs) (.lst ys)) := by
  rw [eqv_ll, eqv_ll]
  show PyData.eqvAll (toP x :: toPs xs) (toP y :: toPs ys) = _
  rw [PyData.eqvAll]
  rfl
@[simp] theorem eqD_lcn {x : D} {xs : List D} : eqD (.lst (x :: xs)) (.lst []) = false := by rw [eqv_ll]; simp [toPs, PyData.eqvAll]
@[simp] theorem eqD_lnc {x : D} {xs : List D} : eqD (.lst []) (.lst (x :: xs)) = false := by rw [eqv_ll]; simp [toPs, PyData.eqvAll]
@[simp] theorem eqD_tcn {x : D} {xs : List D} : eqD (.tup (x :: xs)) (.tup []) = false := by rw [eqv_tt]; simp [toPs, PyData.eqvAll]
@[simp] theorem eqD_tnc {x : D} {xs : List D} : eqD (.tup []) (.tup (x :: xs)) = false := by rw [eqv_tt]; simp [toPs, PyData.eqvAll]
theorem eqD_ints : ∀ xs ys : List Int, eqD (.tup (xs.map D.int)) (.tup (ys.map D.int)) = (xs == ys)
  | [], [] => by simp
  | [], _ :: _ => by simp
  | _ :: _, [] => by simp
  | x :: xs, y :: ys => by
    rw [List.map_cons, List.map_cons, eqD_tc, eqD_ints xs ys, eqD_ii]
    rfl
theorem eqD_intl : ∀ xs ys : List Int, eqD (.lst (xs.map D.int)) (.lst (ys.map D.int)) = (xs == ys)
  | [], [] => by simp
  | [], _ :: _ => by simp
  | _ :: _, [] => by simp
  | x :: xs, y :: ys => by
    rw [List.map_cons, List.map_cons, eqD_lc, eqD_intl xs ys, eqD_ii]
    rfl
@[simp] theorem okD_i {x : Int} : okD (.int x) = true := rfl
@[simp] theorem okD_b {x : Bool} : okD (.bl x) = true := rfl
@[simp] theorem okD_n : okD .non = true := rfl
@[simp] theorem okD_t {xs} : okD (.tup xs) = okDs xs := by rw [okD]
@[simp] theorem okD_l {xs} : okD (.lst xs) = okDs xs := by rw [okD]
@[simp] theorem okDs_n : okDs [] = true := rfl
@[simp] theorem okDs_c {x xs} : okDs (x :: xs) = (okD x && okDs xs) := by rw [okDs]
theorem okDs_all : ∀ xs : List D, okDs xs = xs.all okD
  | [] => rfl
  | x :: xs => by rw [okDs_c, okDs_all xs]; rfl
@[simp] theorem okDs_map (ns : List Int) : okDs (ns.map D.int) = true := by rw [okDs_all]; simp
@[simp] theorem depD_i {x : Int} : depD (.int x) = 0 := rfl
@[simp] theorem depD_b {x : Bool} : depD (.bl x) = 0 := rfl
@[simp] theorem depD_n : depD .non = 0 := rfl
@[simp] theorem depD_t {xs} : depD (.tup xs) = depDs xs + 1 := by rw [depD]
@[simp] theorem depD_l {xs} : depD (.lst xs) = depDs xs + 1 := by rw [depD]
@[simp] theorem depDs_n : depDs [] = 0 := rfl
@[simp] theorem depDs_c {x xs} : depDs (x :: xs) = max (depD x) (depDs xs) := by rw [depDs]
theorem depDs_le {n : Nat} : ∀ {xs : List D}, (∀ x ∈ xs, depD x ≤ n) → depDs xs ≤ n
  | [], _ => Nat.zero_le _
  | x :: xs, h => by
    rw [depDs_c]
    have h1 := h x (by simp)
    have h2 := depDs_le (n := n) (xs := xs) fun y hy => h y (by simp [hy])
    omega
@[simp] theorem depDs_map (ns : List Int) : depDs (ns.map D.int) = 0 := Nat.le_zero.mp (depDs_le fun x hx => by
  obtain ⟨n, _, rfl⟩ := List.mem_map.mp hx
  exact Nat.le_refl _)
@[simp] theorem cmpD_i {x : Int} : cmpD (.int x) = true := rfl
@[simp] theorem cmpD_n : cmpD .non = true := rfl
@[simp] theorem cmpD_b {x : Bool} : cmpD (.bl x) = true := rfl
@[simp] theorem cmpD_ti (ns : List Int) : cmpD (.tup (ns.map D.int)) = true := by unfold cmpD; simp
@[simp] theorem cmpD_li (ns : List Int) : cmpD (.lst (ns.map D.int)) = true := by unfold cmpD; simp
theorem inD_ints (x : Int) (ns : List Int) : inD (.int x) (ns.map D.int) = ns.contains x := by
  unfold inD
  induction ns with
  | nil => rfl
  | cons n ns ih =>
    rw [List.map_cons, List.any_cons, ih, List.contains_cons, eqD_ii]
    congr 1
    simp [Bool.beq_comm, BEq.comm]
@[simp] theorem flat_i {x : Int} : flatD (.int x) = true := rfl
@[simp] theorem flat_all (ns : List Int) : (ns.map D.int).all flatD = true := by simp [flatD]
theorem lt_pair {a b c d : Int} : ltD (.tup [.int a, .int b]) (.tup [.int c, .int d]) = (decide (a < c) || (decide (a = c) && decide (b < d))) := by
  show PySem.W.dataLt (.tuple [.int a, .int b]) (.tuple [.int c, .int d]) = _
  rw [PySem.W.dataLt_tuple]
  have hal : ∀ x y : Int, PySem.W.alike (.int x) (.int y) = true := fun x y => by simp [PySem.W.alike]
  have hlt : ∀ x y : Int, PySem.W.dataLt (.int x) (.int y) = decide (x < y) := fun x y => by
    first
    | exact PySem.W.dataLt_int x y
    | (unfold PySem.W.dataLt; simp [PySem.W.keyToks, PyProof.Rows.lexLt, PySem.W.itemOrd])
  by_cases e : a = c
  · subst e
    rw [PySem.W.dataLt_all_yes (hal a a) (by simp [PyData.eqv])]
    by_cases e2 : b = d
    · subst e2
      rw [PySem.W.dataLt_all_yes (hal b b) (by simp [PyData.eqv])]
      simp [PySem.W.keyToksAll, PyProof.Rows.lex_irrefl]
    · rw [PySem.W.dataLt_all_no (hal b d) (by simp [PyData.eqv, e2]), hlt]
      simp
  · rw [PySem.W.dataLt_all_no (hal a c) (by simp [PyData.eqv, e]), hlt]
    simp [e]
@[simp] theorem like_pair {a b c d : Int} : likeD (.tup [.int a, .int b]) (.tup [.int c, .int d]) = true := by
  show PySem.W.alike (.tuple [.int a, .int b]) (.tuple [.int c, .int d]) = true
  simp [PySem.W.alike, PySem.W.alikeAll]
theorem sIx_len {n : Nat} (d : Nat) (k : Nat) : HT.sIx n d (some (k : Int)) = min k n := HT.sIx_nat n d k
theorem cut_from (xs : List D) (k : Nat) : cutD xs (some (k : Int)) none = xs.drop k := by
  unfold cutD
  rw [sIx_len, HT.sIx_none]
  by_cases h : k ≤ xs.length
  · rw [Nat.min_eq_left h]
    exact List.take_of_length_le (by rw [List.length_drop]; omega)
  · rw [Nat.min_eq_right (by omega), List.drop_eq_nil_of_le (Nat.le_refl _), List.drop_eq_nil_of_le (by omega)]
    simp
theorem cut_to (xs : List D) (k : Nat) : cutD xs none (some (k : Int)) = xs.take k := by
  unfold cutD
  rw [sIx_len, HT.sIx_none]
  show List.take (min k xs.length - 0) (List.drop 0 xs) = _
  rw [List.drop_zero, Nat.sub_zero]
  by_cases h : k ≤ xs.length
  · rw [Nat.min_eq_left h]
  · rw [Nat.min_eq_right (by omega), List.take_of_length_le (Nat.le_refl _), List.take_of_length_le (by omega)]
theorem cut_mid (xs : List D) (k m : Nat) : cutD xs (some (k : Int)) (some (m : Int)) = (xs.take m).drop k := by
  unfold cutD
  rw [sIx_len, sIx_len, List.drop_take]
  apply List.ext_getElem?
  intro i
  rw [List.getElem?_take, List.getElem?_take, List.getElem?_drop, List.getElem?_drop]
  by_cases h : k ≤ xs.length
  · rw [show min k xs.length = k by omega]
    split
    · rw [if_pos (by omega)]
    · split
      · rw [List.getElem?_eq_none (by omega)]
      · rfl
  · rw [if_neg (by omega)]
    split
    · rw [List.getElem?_eq_none (by omega)]
    · rfl
end FL

namespace S14
open PySem PySem.Spec PyProof.Rows L2 FL
def topS (i : Nat) : Stmt := PySem.Challenge.pw_seatssure_k14_whole_seatings_of_twelve_p.main.body.getD i (.Pass ⟨0, 0, 0, 0⟩)
structure Glb (mg : Str → Option Value) : Prop where
  f_gcd : mg "gcd" = some (.builtin "math.gcd")
  c_HUNDRED : ∃ t, mg "HUNDRED" = some (.int 100 t)
  c_MOST_DIVISOR : ∃ t, mg "MOST_DIVISOR" = some (.int 1000000 t)
  c_MOST_PARTIES : ∃ t, mg "MOST_PARTIES" = some (.int 12 t)
  c_MOST_SEATS : ∃ t, mg "MOST_SEATS" = some (.int 60 t)
  c_MOST_VOTES : ∃ t, mg "MOST_VOTES" = some (.int 1000000000 t)
  c_THREE_counts : ∃ t, mg "THREE_counts" = some (.int 3 t)
  c_THREE_marks : ∃ t, mg "THREE_marks" = some (.int 3 t)
  b_abs : mg "abs" = none
  b_all : mg "all" = none
  b_any : mg "any" = none
  b_bool : mg "bool" = none
  b_dict : mg "dict" = none
  b_int : mg "int" = none
  b_isinstance : mg "isinstance" = none
  b_len : mg "len" = none
  b_list : mg "list" = none
  b_max : mg "max" = none
  b_min : mg "min" = none
  b_range : mg "range" = none
  b_sum : mg "sum" = none
  b_tuple : mg "tuple" = none
  b_zip : mg "zip" = none
section
variable {P : Program} {w : World} {K : PySem.W.Frag} {mg : Str → Option Value} {base : Heap} {f : Addr}
/-! ### _law_take -/
abbrev s__law_take : Stmt := topS 56
abbrev N__law_take : List Str := ["pot", "upto", "prime", "blend", "digit"]
abbrev p__law_take : List Str := ["pot", "upto"]
theorem sc__law_take : FnScope N__law_take p__law_take (defScope s__law_take) := ⟨rfl, rfl, rfl, by decide +kernel, rfl, by decide +kernel, by decide +kernel⟩
def w__law_take : DS := sSeq (sIf (tB1 (dBin gGt (dBinN gIx 0 (dC (.int 0))) (dC (.int 0)))) (sSeq (sAsg (dBin gMod (dCB gInt1 (aCons (dBinN gIx 0 (dC (.int 0))) aNil)) (dVar 1)) (.nm 4)) (sSeq (sSetIx 0 (dC (.int 0)) (dBin gDiv (dBinN gIx 0 (dC (.int 0))) (dVar 1))) (sRet (dVar 4)))) sNext) (sSeq (sSetIx 0 (dC (.int 2)) (dBin gAdd (dBinN gIx 0 (dC (.int 2))) (dC (.int 1)))) (sSeq (sAsg (dBin gIx (dLst (aCons (dC (.int 2147483647)) (aCons (dC (.int 2147483629)) (aCons (dC (.int 2147483587)) (aCons (dC (.int 2147483579)) (aCons (dC (.int 2147483563)) aNil)))))) (dBin gMod (dCB gInt1 (aCons (dBinN gIx 0 (dC (.int 2))) aNil)) (dC (.int 5)))) (.nm 2)) (sSeq (sAsg (dBin gMod (dCB gInt1 (aCons (dBin gPow (dCB gInt1 (aCons (dBin gAdd (dBin gAdd (dBinN gIx 0 (dC (.int 1))) (dBin gMul (dBin gMul (dC (.int 105733)) (dBinN gIx 0 (dC (.int 2)))) (dBinN gIx 0 (dC (.int 2))))) (dC (.int 22725))) aNil)) (dC (.int 3))) aNil)) (dVar 2)) (.nm 3)) (sRet (dBin gMod (dCB gInt1 (aCons (dBin gDiv (dBin gMul (dVar 3) (dBin gAdd (dBin gMod (dCB gInt1 (aCons (dVar 3) aNil)) (dC (.int 31749))) (dBin gMul (dC (.int 2413)) (dBinN gIx 0 (dC (.int 2)))))) (dC (.int 1007))) aNil)) (dVar 1))))))
theorem b__law_take (g : Glb mg) (cdv : Value) (A : Around) (outer : List PySem.Env) (s : Shared) (H : Hp) (E : XK) (hr : Room 0 (A.deeper (envOfC "_law_take" (defScope s__law_take) s.heap.objs.size f cdv))) :
    PSsd (cxOf CX0 P w K mg base N__law_take "_law_take" (defScope s__law_take) f cdv A outer s H E).nox (defBody s__law_take) (w__law_take) := by
  unfold w__law_take
  exact dss_cons (ds_if (dt_cmp (opd_gt hr.units) (de_ixN ixd_ix (pv 0) ((de_int).toS) (fun _ _ => rfl)) ((de_int).toS) (nomark _)) (dss_cons (ds_set (ps_set (i := 4) sc__law_take.nd rfl (by first | exact .inl rfl | exact .inr rfl) (de_bin opd_modA (de_callTy1 cd_int1 (by rfl) g.b_int rfl ((de_ixN ixd_ix (pv 0) ((de_int).toS) (fun _ _ => rfl)).toS)) ((de_var (pv 1)).toS)))) (dss_cons (ds_setIx (x := "pot") (p := ⟨0, 0, 0, 0⟩) (tpos := ⟨0, 0, 0, 0⟩) (o := .Name "pot" ⟨0, 0, 0, 0⟩) (ke := .Name "pot" ⟨0, 0, 0, 0⟩) (ps_asg (de_bin opd_divA (de_ixN ixd_ix (pv 0) ((de_int).toS) (fun _ _ => rfl)) ((de_var (pv 1)).toS)) (pg_sub (pv 0) de_int set_list))) (dss_one (ds_ret (de_var (pv 4)))))) dss_nil) (dss_cons (ds_setIx (x := "pot") (p := ⟨0, 0, 0, 0⟩) (tpos := ⟨0, 0, 0, 0⟩) (o := .Name "pot" ⟨0, 0, 0, 0⟩) (ke := .Name "pot" ⟨0, 0, 0, 0⟩) (ps_asg (de_bin opd_add (de_ixN ixd_ix (pv 0) ((de_int).toS) (fun _ _ => rfl)) ((de_int).toS)) (pg_sub (pv 0) de_int set_list))) (dss_cons (ds_set (ps_set (i := 2) sc__law_take.nd rfl (by first | exact .inl rfl | exact .inr rfl) (de_ix ixd_ix (de_lst (da_cons de_int (da_cons de_int (da_cons de_int (da_cons de_int (da_cons de_int da_nil)))))) ((de_bin opd_modA (de_callTy1 cd_int1 (by rfl) g.b_int rfl ((de_ixN ixd_ix (pv 0) ((de_int).toS) (fun _ _ => rfl)).toS)) ((de_int).toS)).toS) (fun _ _ => rfl)))) (dss_cons (ds_set (ps_set (i := 3) sc__law_take.nd rfl (by first | exact .inl rfl | exact .inr rfl) (de_bin opd_modA (de_callTy1 cd_int1 (by rfl) g.b_int rfl ((de_bin opd_powA (de_callTy1 cd_int1 (by rfl) g.b_int rfl ((de_bin opd_add (de_bin opd_add (de_ixN ixd_ix (pv 0) ((de_int).toS) (fun _ _ => rfl)) ((de_bin opd_mulA (de_bin opd_mulA de_int ((de_ixN ixd_ix (pv 0) ((de_int).toS) (fun _ _ => rfl)).toS)) ((de_ixN ixd_ix (pv 0) ((de_int).toS) (fun _ _ => rfl)).toS)).toS)) ((de_int).toS)).toS)) ((de_int).toS)).toS)) ((de_var (pv 2)).toS)))) (dss_one (ds_ret (de_bin opd_modA (de_callTy1 cd_int1 (by rfl) g.b_int rfl ((de_bin opd_divA (de_bin opd_mulA (de_var (pv 3)) ((de_bin opd_add (de_bin opd_modA (de_callTy1 cd_int1 (by rfl) g.b_int rfl ((de_var (pv 3)).toS)) ((de_int).toS)) ((de_bin opd_mulA de_int ((de_ixN ixd_ix (pv 0) ((de_int).toS) (fun _ _ => rfl)).toS)).toS)).toS)) ((de_int).toS)).toS)) ((de_var (pv 1)).toS)))))))
theorem e__law_take (ys : List D) (a0 : D) : envP N__law_take ys [a0] = [.ol ys, .fz a0, .no, .no, .no] := rfl
theorem cal__law_take {F : PSpec} (D : DefOk K mg "_law_take" s__law_take p__law_take) (g : Glb mg) (hF : ∀ ys as R, as.length = 1 → F ys as R → w__law_take { nx := fun env => ∃ zs, env[0]? = some (.ol zs) ∧ R .non zs, rt := fun d env => ∃ zs, env[0]? = some (.ol zs) ∧ R d zs } (envP N__law_take ys as)) : Cal P w K mg base 1 "_law_take" (spP 1 F K) := by
  obtain ⟨fa, fd, Fn, hm, hb⟩ := D.ex
  exact ⟨fa, fd, p__law_take, fn_pot Fn sc__law_take rfl (fun cdv A outer s H E hr => b__law_take g cdv A outer s H E hr) hF, hm, Fn.kp, hb⟩
/-! ### _law_of -/
abbrev s__law_of : Stmt := topS 57
abbrev N__law_of : List Str := ["pot", "some"]
abbrev p__law_of : List Str := ["pot", "some"]
theorem sc__law_of : FnScope N__law_of p__law_of (defScope s__law_of) := ⟨rfl, rfl, rfl, by decide +kernel, rfl, by decide +kernel, by decide +kernel⟩
def w__law_of (F__law_take : PSpec) : DS := sRet (dBin gIx (dVar 1) (dCallP 1 F__law_take 0 (aCons (dCB gLen (aCons (dVar 1) aNil)) aNil)))
theorem b__law_of {F__law_take : PSpec} (g : Glb mg) (c__law_take : Cal P w K mg base 1 "_law_take" (spP 1 F__law_take K)) (cdv : Value) (A : Around) (outer : List PySem.Env) (s : Shared) (H : Hp) (E : XK) (hr : Room 1 (A.deeper (envOfC "_law_of" (defScope s__law_of) s.heap.objs.size f cdv))) :
    PSsd (cxOf CX0 P w K mg base N__law_of "_law_of" (defScope s__law_of) f cdv A outer s H E).nox (defBody s__law_of) (w__law_of F__law_take) := by
  unfold w__law_of
  exact dss_one (ds_ret (de_ix ixd_ix (de_var (pv 1)) ((de_callP c__law_take hr (by decide) (by rfl) (pv 0) (da_cons (de_callB1 cd_len (by rfl) g.b_len rfl ((de_var (pv 1)).toS)) da_nil)).toS) (fun _ _ => rfl)))
theorem e__law_of (ys : List D) (a0 : D) : envP N__law_of ys [a0] = [.ol ys, .fz a0] := rfl
theorem cal__law_of {F : PSpec} {F__law_take : PSpec} (D : DefOk K mg "_law_of" s__law_of p__law_of) (g : Glb mg) (c__law_take : Cal P w K mg base 1 "_law_take" (spP 1 F__law_take K)) (hF : ∀ ys as R, as.length = 1 → F ys as R → w__law_of F__law_take { nx := fun env => ∃ zs, env[0]? = some (.ol zs) ∧ R .non zs, rt := fun d env => ∃ zs, env[0]? = some (.ol zs) ∧ R d zs } (envP N__law_of ys as)) : Cal P w K mg base 2 "_law_of" (spP 1 F K) := by
  obtain ⟨fa, fd, Fn, hm, hb⟩ := D.ex
  exact ⟨fa, fd, p__law_of, fn_pot Fn sc__law_of rfl (fun cdv A outer s H E hr => b__law_of g c__law_take cdv A outer s H E hr) hF, hm, Fn.kp, hb⟩
/-! ### _law_votes -/
abbrev s__law_votes : Stmt := topS 59
abbrev N__law_votes : List Str := ["pot", "parties", "most", "found", "party"]
abbrev p__law_votes : List Str := ["pot", "parties"]
theorem sc__law_votes : FnScope N__law_votes p__law_votes (defScope s__law_votes) := ⟨rfl, rfl, rfl, by decide +kernel, rfl, by decide +kernel, by decide +kernel⟩
def w__law_votes (F__law_of : PSpec) (F__law_take : PSpec) : DS := sSeq (sAsg (dCallP 1 F__law_of 0 (aCons (dLst (aCons (dC (.int 9)) (aCons (dC (.int 60)) (aCons (dC (.int 1000)) (aCons (dBin gPow (dC (.int 10)) (dC (.int 6))) (aCons (dBin gPow (dC (.int 10)) (dC (.int 9))) aNil)))))) aNil)) (.nm 2)) (sSeq (sOwn 3 (fLst aNil)) (sSeq (sFor (iRan1 (dVar 1)) (.nm 4) (sApp 3 (dCallP 1 F__law_of 0 (aCons (dLst (aCons (dCallP 1 F__law_take 0 (aCons (dBin gAdd (dVar 2) (dC (.int 1))) aNil)) (aCons (dCallP 1 F__law_take 0 (aCons (dBin gAdd (dVar 2) (dC (.int 1))) aNil)) (aCons (dBin gDiv (dVar 2) (dC (.int 3))) aNil)))) aNil)))) (sFrz 3 (sRet (dCB gTuple (aCons (dVar 3) aNil))))))
theorem b__law_votes {F__law_of : PSpec} {F__law_take : PSpec} (g : Glb mg) (c__law_of : Cal P w K mg base 2 "_law_of" (spP 1 F__law_of K)) (c__law_take : Cal P w K mg base 1 "_law_take" (spP 1 F__law_take K)) (cdv : Value) (A : Around) (outer : List PySem.Env) (s : Shared) (H : Hp) (E : XK) (hr : Room 2 (A.deeper (envOfC "_law_votes" (defScope s__law_votes) s.heap.objs.size f cdv))) :
    PSsd (cxOf CX0 P w K mg base N__law_votes "_law_votes" (defScope s__law_votes) f cdv A outer s H E).nox (defBody s__law_votes) (w__law_votes F__law_of F__law_take) := by
  unfold w__law_votes
  exact dss_cons (ds_set (ps_set (i := 2) sc__law_votes.nd rfl (by first | exact .inl rfl | exact .inr rfl) (de_callP c__law_of hr (by decide) (by rfl) (pv 0) (da_cons (de_lst (da_cons de_int (da_cons de_int (da_cons de_int (da_cons (de_bin opd_powA de_int ((de_int).toS)) (da_cons (de_bin opd_powA de_int ((de_int).toS)) da_nil)))))) da_nil)))) (dss_cons (ds_own (ps_set (i := 3) sc__law_votes.nd rfl (by first | exact .inl rfl | exact .inr rfl) (df_lst da_nil))) (dss_cons (ds_for PassesOwn.never rfl (di_ran1 (by rfl) g.b_range (de_var (pv 1))) (pgd_nm (pg_name (i := 4) sc__law_votes.nd rfl (by first | exact .inl rfl | exact .inr rfl))) (dss_one (ds_app (pv 3) (de_callP c__law_of hr (by decide) (by rfl) (pv 0) (da_cons (de_lst (da_cons (de_callP c__law_take hr (by decide) (by rfl) (pv 0) (da_cons (de_bin opd_add (de_var (pv 2)) ((de_int).toS)) da_nil)) (da_cons (de_callP c__law_take hr (by decide) (by rfl) (pv 0) (da_cons (de_bin opd_add (de_var (pv 2)) ((de_int).toS)) da_nil)) (da_cons (de_bin opd_divA (de_var (pv 2)) ((de_int).toS)) da_nil)))) da_nil))))) (dss_frz (i := 3) (dss_one (ds_ret (de_callTy1 cd_tuple (by rfl) g.b_tuple rfl ((de_var (pv 3)).toS)))))))
theorem e__law_votes (ys : List D) (a0 : D) : envP N__law_votes ys [a0] = [.ol ys, .fz a0, .no, .no, .no] := rfl
theorem cal__law_votes {F : PSpec} {F__law_of : PSpec} {F__law_take : PSpec} (D : DefOk K mg "_law_votes" s__law_votes p__law_votes) (g : Glb mg) (c__law_of : Cal P w K mg base 2 "_law_of" (spP 1 F__law_of K)) (c__law_take : Cal P w K mg base 1 "_law_take" (spP 1 F__law_take K)) (hF : ∀ ys as R, as.length = 1 → F ys as R → w__law_votes F__law_of F__law_take { nx := fun env => ∃ zs, env[0]? = some (.ol zs) ∧ R .non zs, rt := fun d env => ∃ zs, env[0]? = some (.ol zs) ∧ R d zs } (envP N__law_votes ys as)) : Cal P w K mg base 3 "_law_votes" (spP 1 F K) := by
  obtain ⟨fa, fd, Fn, hm, hb⟩ := D.ex
  exact ⟨fa, fd, p__law_votes, fn_pot Fn sc__law_votes rfl (fun cdv A outer s H E hr => b__law_votes g c__law_of c__law_take cdv A outer s H E hr) hF, hm, Fn.kp, hb⟩
/-! ### _law_rule -/
abbrev s__law_rule : Stmt := topS 58
abbrev N__law_rule : List Str := ["pot", "parties", "seats", "bar", "many", "way", "divisors", "number", "here"]
abbrev p__law_rule : List Str := ["pot", "parties", "seats"]
theorem sc__law_rule : FnScope N__law_rule p__law_rule (defScope s__law_rule) := ⟨rfl, rfl, rfl, by decide +kernel, rfl, by decide +kernel, by decide +kernel⟩
def w__law_rule (F__law_take : PSpec) (F__law_of : PSpec) : DS := sSeq (sPar 4 5 (dBin gAdd (dVar 2) (dCallP 1 F__law_take 0 (aCons (dC (.int 3)) aNil))) (dCallP 1 F__law_take 0 (aCons (dC (.int 5)) aNil))) (sSeq (sIf (tB1 (dBin gLt (dVar 5) (dC (.int 2)))) (sSeq (sOwn 6 (fLc (iRan1 (dVar 4)) (.nm 7) tYes1 (dBin gAdd (dVar 7) (dC (.int 1))) [7])) (sFrz 6 sNext)) (sIf (tB1 (dBin gLt (dVar 5) (dC (.int 4)))) (sSeq (sOwn 6 (fLc (iRan1 (dVar 4)) (.nm 7) tYes1 (dBin gAdd (dBin gMul (dC (.int 2)) (dVar 7)) (dC (.int 1))) [7])) (sFrz 6 sNext)) (sSeq (sParO 6 8 (fLst aNil) (dCallP 1 F__law_of 0 (aCons (dLst (aCons (dC (.int 1)) (aCons (dC (.int 7)) (aCons (dBin gSub (dC (.int 999000)) (dVar 4)) aNil)))) aNil))) (sSeq (sFor (iRan1 (dVar 4)) (.nm 7) (sSeq (sApp 6 (dVar 8)) (sAsg (dBin gAdd (dBin gAdd (dVar 8) (dC (.int 1))) (dCallP 1 F__law_of 0 (aCons (dLst (aCons (dC (.int 0)) (aCons (dC (.int 0)) (aCons (dCallP 1 F__law_take 0 (aCons (dC (.int 9)) aNil)) aNil)))) aNil))) (.nm 8)))) (sFrz 6 sNext))))) (sSeq (sAsg (dCallP 1 F__law_of 0 (aCons (dLst (aCons (dC (.int 0)) (aCons (dC (.int 0)) (aCons (dC (.int 3)) (aCons (dCallP 1 F__law_take 0 (aCons (dBin gAdd (dBin gDiv (dC (.int 100)) (dVar 1)) (dC (.int 1))) aNil)) aNil))))) aNil)) (.nm 3)) (sRet (dTup (aCons (dCB gTuple (aCons (dVar 6) aNil)) (aCons (dVar 2) (aCons (dCB gMin2 (aCons (dVar 3) (aCons (dBin gDiv (dC (.int 100)) (dVar 1)) aNil))) aNil)))))))
theorem b__law_rule {F__law_take : PSpec} {F__law_of : PSpec} (g : Glb mg) (c__law_take : Cal P w K mg base 1 "_law_take" (spP 1 F__law_take K)) (c__law_of : Cal P w K mg base 2 "_law_of" (spP 1 F__law_of K)) (cdv : Value) (A : Around) (outer : List PySem.Env) (s : Shared) (H : Hp) (E : XK) (hr : Room 2 (A.deeper (envOfC "_law_rule" (defScope s__law_rule) s.heap.objs.size f cdv))) :
    PSsd (cxOf CX0 P w K mg base N__law_rule "_law_rule" (defScope s__law_rule) f cdv A outer s H E).nox (defBody s__law_rule) (w__law_rule F__law_take F__law_of) := by
  unfold w__law_rule
  exact dss_cons (ds_par (as := []) (ps_par (i := 4) (j := 5) rfl sc__law_rule.nd rfl rfl (by decide) rfl rfl (da_cons (de_bin opd_add (de_var (pv 2)) ((de_callP c__law_take hr (by decide) (by rfl) (pv 0) (da_cons de_int da_nil)).toS)) (da_cons (de_callP c__law_take hr (by decide) (by rfl) (pv 0) (da_cons de_int da_nil)) da_nil)) rfl) (by decide)) (dss_cons (ds_if (dt_cmp (opd_lt hr.units) (de_var (pv 5)) ((de_int).toS) (nomark _)) (dss_cons (ds_ownLc (ps_setLc (i := 6) (own := [("number", 7)]) rfl sc__law_rule.nd rfl rfl (sw_true rfl rfl rfl (by decide +kernel)) (di_ran1 (by rfl) g.b_range (de_var (pv 4))) (blkOk_by (by show blkC N__law_rule (defScope s__law_rule) _ [("number", 7)] = true; decide +kernel)) (fun _ _ _ _ _ => pgd_nm (pg_name (i := 7) sc__law_rule.nd rfl (by first | exact .inl rfl | exact .inr rfl))) (fun _ _ _ _ _ => dts_nil) (fun _ _ _ _ _ => de_bin opd_add (de_var (pv 7)) ((de_int).toS))) rfl (by decide)) (dss_frz (i := 6) dss_nil)) (dss_one (ds_if (dt_cmp (opd_lt hr.units) (de_var (pv 5)) ((de_int).toS) (nomark _)) (dss_cons (ds_ownLc (ps_setLc (i := 6) (own := [("number", 7)]) rfl sc__law_rule.nd rfl rfl (sw_true rfl rfl rfl (by decide +kernel)) (di_ran1 (by rfl) g.b_range (de_var (pv 4))) (blkOk_by (by show blkC N__law_rule (defScope s__law_rule) _ [("number", 7)] = true; decide +kernel)) (fun _ _ _ _ _ => pgd_nm (pg_name (i := 7) sc__law_rule.nd rfl (by first | exact .inl rfl | exact .inr rfl))) (fun _ _ _ _ _ => dts_nil) (fun _ _ _ _ _ => de_bin opd_add (de_bin opd_mulA de_int ((de_var (pv 7)).toS)) ((de_int).toS))) rfl (by decide)) (dss_frz (i := 6) dss_nil)) (dss_cons (ds_parO (ps_par (i := 6) (j := 8) rfl sc__law_rule.nd rfl rfl (by decide) rfl rfl (pa_cons (df_lst da_nil) (pa_cons (de_callP c__law_of hr (by decide) (by rfl) (pv 0) (da_cons (de_lst (da_cons de_int (da_cons de_int (da_cons (de_bin opd_subA de_int ((de_var (pv 4)).toS)) da_nil)))) da_nil)) pa_nil)) rfl) (by decide)) (dss_cons (ds_for PassesOwn.never rfl (di_ran1 (by rfl) g.b_range (de_var (pv 4))) (pgd_nm (pg_name (i := 7) sc__law_rule.nd rfl (by first | exact .inl rfl | exact .inr rfl))) (dss_cons (ds_app (pv 6) (de_var (pv 8))) (dss_one (ds_set (ps_set (i := 8) sc__law_rule.nd rfl (by first | exact .inl rfl | exact .inr rfl) (de_bin opd_add (de_bin opd_add (de_var (pv 8)) ((de_int).toS)) ((de_callP c__law_of hr (by decide) (by rfl) (pv 0) (da_cons (de_lst (da_cons de_int (da_cons de_int (da_cons (de_callP c__law_take hr (by decide) (by rfl) (pv 0) (da_cons de_int da_nil)) da_nil)))) da_nil)).toS))))))) (dss_frz (i := 6) dss_nil)))))) (dss_cons (ds_set (ps_set (i := 3) sc__law_rule.nd rfl (by first | exact .inl rfl | exact .inr rfl) (de_callP c__law_of hr (by decide) (by rfl) (pv 0) (da_cons (de_lst (da_cons de_int (da_cons de_int (da_cons de_int (da_cons (de_callP c__law_take hr (by decide) (by rfl) (pv 0) (da_cons (de_bin opd_add (de_bin opd_divA de_int ((de_var (pv 1)).toS)) ((de_int).toS)) da_nil)) da_nil))))) da_nil)))) (dss_one (ds_ret (de_tup (da_cons (de_callTy1 cd_tuple (by rfl) g.b_tuple rfl ((de_var (pv 6)).toS)) (da_cons (de_var (pv 2)) (da_cons (de_callB (cd_min2 rfl) (by rfl) g.b_min rfl (da_cons (de_var (pv 3)) (da_cons (de_bin opd_divA de_int ((de_var (pv 1)).toS)) da_nil))) da_nil))))))))
theorem e__law_rule (ys : List D) (a0 a1 : D) : envP N__law_rule ys [a0, a1] = [.ol ys, .fz a0, .fz a1, .no, .no, .no, .no, .no, .no] := rfl
theorem cal__law_rule {F : PSpec} {F__law_take : PSpec} {F__law_of : PSpec} (D : DefOk K mg "_law_rule" s__law_rule p__law_rule) (g : Glb mg) (c__law_take : Cal P w K mg base 1 "_law_take" (spP 1 F__law_take K)) (c__law_of : Cal P w K mg base 2 "_law_of" (spP 1 F__law_of K)) (hF : ∀ ys as R, as.length = 2 → F ys as R → w__law_rule F__law_take F__law_of { nx := fun env => ∃ zs, env[0]? = some (.ol zs) ∧ R .non zs, rt := fun d env => ∃ zs, env[0]? = some (.ol zs) ∧ R d zs } (envP N__law_rule ys as)) : Cal P w K mg base 3 "_law_rule" (spP 2 F K) := by
  obtain ⟨fa, fd, Fn, hm, hb⟩ := D.ex
  exact ⟨fa, fd, p__law_rule, fn_pot Fn sc__law_rule rfl (fun cdv A outer s H E hr => b__law_rule g c__law_take c__law_of cdv A outer s H E hr) hF, hm, Fn.kp, hb⟩
/-! ### _law_sorted -/
abbrev s__law_sorted : Stmt := topS 61
abbrev N__law_sorted : List Str := ["votes", "rule", "marks", "lap", "divisors", "seats", "bar", "fit", "found", "best", "party"]
abbrev p__law_sorted : List Str := ["votes", "rule"]
theorem sc__law_sorted : FnScope N__law_sorted p__law_sorted (defScope s__law_sorted) := ⟨rfl, rfl, rfl, by decide +kernel, rfl, by decide +kernel, by decide +kernel⟩
def w__law_sorted : DS := sSeq (sAsg (dVar 1) (.tp [.nm 4, .nm 5, .nm 6])) (sSeq (sParO2 7 8 (dFz (fLc (iRan1 (dCB gLen (aCons (dVar 0) aNil))) (.nm 10) (tB1 (dBin gGe (dBin gMul (dBin gIx (dVar 0) (dVar 10)) (dC (.int 100))) (dBin gMul (dVar 6) (dCB gSum (aCons (dVar 0) aNil))))) (dVar 10) [10])) (fLst aNil)) (sSeq (sOwnD 2 (fDictP (dFz (fLc (iSeq (dVar 7)) (.nm 10) tYes1 (dTup (aCons (dVar 10) (aCons (dC (.int 0)) aNil))) [10])))) (sSeq (sFor (iRan1 (dBin gMul (dCB gLen (aCons (dVar 7) aNil)) (dCB gLen (aCons (dVar 4) aNil)))) (.nm 3) (sSeq (sAsg (dC .non) (.nm 9)) (sSeq (sFor (iSeq (dVar 7)) (.nm 10) (sIf (tB1 (dBin gLt (dDGet 2 (dVar 10)) (dCB gLen (aCons (dVar 4) aNil)))) (sIf (tOr1 (tB1 (dBin gIsN (dVar 9) (dC .non))) (tB1 (dBin gGt (dBin gMul (dBin gIx (dVar 0) (dVar 10)) (dBin gIx (dVar 4) (dDGet 2 (dVar 9)))) (dBin gMul (dBin gIx (dVar 0) (dVar 9)) (dBin gIx (dVar 4) (dDGet 2 (dVar 10))))))) (sAsg (dVar 10) (.nm 9)) sNext) sNext)) (sSeq (sApp 8 (dTup (aCons (dVar 9) (aCons (dDGet 2 (dVar 9)) aNil)))) (sDPutD 2 (dVar 9) (dBin gAdd (dDGet 2 (dVar 9)) (dC (.int 1)))))))) (sFrz 8 (sRet (dVar 8))))))
theorem b__law_sorted (g : Glb mg) (cdv : Value) (A : Around) (outer : List PySem.Env) (s : Shared) (H : Hp) (E : XK) (hr : Room 0 (A.deeper (envOfC "_law_sorted" (defScope s__law_sorted) s.heap.objs.size f cdv))) :
    PSsd (cxOf CX0 P w K mg base N__law_sorted "_law_sorted" (defScope s__law_sorted) f cdv A outer s H E).nox (defBody s__law_sorted) (w__law_sorted) := by
  unfold w__law_sorted
  exact dss_cons (ds_asg (de_var (pv 1)) (pgd_tp rfl (pgsd_cons (pgd_nm (pg_name (i := 4) sc__law_sorted.nd rfl (by first | exact .inl rfl | exact .inr rfl))) (pgsd_cons (pgd_nm (pg_name (i := 5) sc__law_sorted.nd rfl (by first | exact .inl rfl | exact .inr rfl))) (pgsd_cons (pgd_nm (pg_name (i := 6) sc__law_sorted.nd rfl (by first | exact .inl rfl | exact .inr rfl))) pgsd_nil))))) (dss_cons (ds_parO2 (ps_par (i := 7) (j := 8) rfl sc__law_sorted.nd rfl rfl (by decide) rfl rfl (pa_cons (de_fz (df_lc (own := [("party", 10)]) rfl sc__law_sorted.nd (di_ran1 (by rfl) g.b_range (de_callB1 cd_len (by rfl) g.b_len rfl ((de_var (pv 0)).toS))) (blkOk_by (by show blkC N__law_sorted (defScope s__law_sorted) _ [("party", 10)] = true; decide +kernel)) (fun _ _ _ _ _ => pgd_nm (pg_name (i := 10) sc__law_sorted.nd rfl (by first | exact .inl rfl | exact .inr rfl))) (fun _ _ _ _ _ => dts_one (dt_cmp (opd_ge hr.units) (de_bin opd_mulA (de_ix ixd_ix (de_var (pv 0)) ((de_var (pv 10)).toS) (fun _ _ => rfl)) ((de_int).toS)) ((de_bin opd_mulA (de_var (pv 6)) ((de_callB1 (cd_sum rfl) (by rfl) g.b_sum rfl ((de_var (pv 0)).toS)).toS)).toS) (nomark _))) (fun _ _ _ _ _ => de_var (pv 10)) rfl (by decide))) (pa_cons (df_lst da_nil) pa_nil)) rfl) (by decide)) (dss_cons (ds_ownD (ps_set (i := 2) sc__law_sorted.nd rfl (by first | exact .inl rfl | exact .inr rfl) (dfd_pairs rfl (by rfl) g.b_dict rfl (de_fz (df_lc (own := [("party", 10)]) rfl sc__law_sorted.nd (di_seq (de_var (pv 7))) (blkOk_by (by show blkC N__law_sorted (defScope s__law_sorted) _ [("party", 10)] = true; decide +kernel)) (fun _ _ _ _ _ => pgd_nm (pg_name (i := 10) sc__law_sorted.nd rfl (by first | exact .inl rfl | exact .inr rfl))) (fun _ _ _ _ _ => dts_nil) (fun _ _ _ _ _ => de_tup (da_cons (de_var (pv 10)) (da_cons de_int da_nil))) rfl (by decide)))))) (dss_cons (ds_for PassesOwn.never rfl (di_ran1 (by rfl) g.b_range (de_bin opd_mulA (de_callB1 cd_len (by rfl) g.b_len rfl ((de_var (pv 7)).toS)) ((de_callB1 cd_len (by rfl) g.b_len rfl ((de_var (pv 4)).toS)).toS))) (pgd_nm (pg_name (i := 3) sc__law_sorted.nd rfl (by first | exact .inl rfl | exact .inr rfl))) (dss_cons (ds_set (ps_set (i := 9) sc__law_sorted.nd rfl (by first | exact .inl rfl | exact .inr rfl) de_non)) (dss_cons (ds_for PassesOwn.never rfl (di_seq (de_var (pv 7))) (pgd_nm (pg_name (i := 10) sc__law_sorted.nd rfl (by first | exact .inl rfl | exact .inr rfl))) (dss_one (ds_if (dt_cmp (opd_lt hr.units) (de_dget (hu_of hr) (pv 2) (de_var (pv 10)) (fun _ _ => rfl)) ((de_callB1 cd_len (by rfl) g.b_len rfl ((de_var (pv 4)).toS)).toS) (nomark _)) (dss_one (ds_if (dt_pw (dw_or (dt_cmp opd_isN (de_var (pv 9)) ((de_non).toS) (nomark _)) (dw_or1 (dt_cmp (opd_gt hr.units) (de_bin opd_mulA (de_ix ixd_ix (de_var (pv 0)) ((de_var (pv 10)).toS) (fun _ _ => rfl)) ((de_ix ixd_ix (de_var (pv 4)) ((de_dget (hu_of hr) (pv 2) (de_var (pv 9)) (fun _ _ => rfl)).toS) (fun _ _ => rfl)).toS)) ((de_bin opd_mulA (de_ix ixd_ix (de_var (pv 0)) ((de_var (pv 9)).toS) (fun _ _ => rfl)) ((de_ix ixd_ix (de_var (pv 4)) ((de_dget (hu_of hr) (pv 2) (de_var (pv 10)) (fun _ _ => rfl)).toS) (fun _ _ => rfl)).toS)).toS) (nomark _))))) (dss_one (ds_set (ps_set (i := 9) sc__law_sorted.nd rfl (by first | exact .inl rfl | exact .inr rfl) (de_var (pv 10))))) dss_nil)) dss_nil))) (dss_cons (ds_app (pv 8) (de_tup (da_cons (de_var (pv 9)) (da_cons (de_dget (hu_of hr) (pv 2) (de_var (pv 9)) (fun _ _ => rfl)) da_nil)))) (dss_one (ds_dput (hu_of hr) (pv 2) (de_var (pv 9)) (de_bin opd_add (de_dget (hu_of hr) (pv 2) (de_var (pv 9)) (fun _ _ => rfl)) ((de_int).toS)) (by rfl))))))) (dss_frz (i := 8) (dss_one (ds_ret (de_var (pv 8))))))))
theorem e__law_sorted (a0 a1 : D) : env0 N__law_sorted [a0, a1] = [.fz a0, .fz a1, .no, .no, .no, .no, .no, .no, .no, .no, .no] := rfl
theorem cal__law_sorted {F : FSpec} (D : DefOk K mg "_law_sorted" s__law_sorted p__law_sorted) (g : Glb mg) (hF : ∀ as R, as.length = 2 → F as R → w__law_sorted { nx := fun _ => R .non, rt := fun d _ => R d } (env0 N__law_sorted as)) : Cal P w K mg base 1 "_law_sorted" (spF 2 F K) := by
  obtain ⟨fa, fd, Fn, hm, hb⟩ := D.ex
  exact ⟨fa, fd, p__law_sorted, fn_pure Fn sc__law_sorted (fun cdv A outer s H E hr => b__law_sorted g cdv A outer s H E hr) hF, hm, Fn.kp, hb⟩
/-! ### is_integer -/
abbrev s_is_integer : Stmt := topS 11
abbrev N_is_integer : List Str := ["value"]
abbrev p_is_integer : List Str := ["value"]
theorem sc_is_integer : FnScope N_is_integer p_is_integer (defScope s_is_integer) := ⟨rfl, rfl, rfl, by decide +kernel, rfl, by decide +kernel, by decide +kernel⟩
def w_is_integer : DS := sRet (dAnd (dCB (gIsi "int") (aCons (dVar 0) (aCons (dC (.raw (.ty "int"))) aNil))) (dNot (dCB (gIsi "bool") (aCons (dVar 0) (aCons (dC (.raw (.ty "bool"))) aNil)))))
theorem b_is_integer (g : Glb mg) (cdv : Value) (A : Around) (outer : List PySem.Env) (s : Shared) (H : Hp) (E : XK) (hr : Room 0 (A.deeper (envOfC "is_integer" (defScope s_is_integer) s.heap.objs.size f cdv))) :
    PSsd (cxOf CX0 P w K mg base N_is_integer "is_integer" (defScope s_is_integer) f cdv A outer s H E).nox (defBody s_is_integer) (w_is_integer) := by
  unfold w_is_integer
  exact dss_one (ds_ret (de_and (de_callB cd_isi (by rfl) g.b_isinstance rfl (da_cons (de_var (pv 0)) (da_cons (de_ty (by rfl) g.b_int rfl) da_nil))) (de_one (de_not (de_callB cd_isi (by rfl) g.b_isinstance rfl (da_cons (de_var (pv 0)) (da_cons (de_ty (by rfl) g.b_bool rfl) da_nil)))))))
theorem e_is_integer (a0 : D) : env0 N_is_integer [a0] = [.fz a0] := rfl
theorem cal_is_integer {F : FSpec} (D : DefOk K mg "is_integer" s_is_integer p_is_integer) (g : Glb mg) (hF : ∀ as R, as.length = 1 → F as R → w_is_integer { nx := fun _ => R .non, rt := fun d _ => R d } (env0 N_is_integer as)) : Cal P w K mg base 1 "is_integer" (spF 1 F K) := by
  obtain ⟨fa, fd, Fn, hm, hb⟩ := D.ex
  exact ⟨fa, fd, p_is_integer, fn_pure Fn sc_is_integer (fun cdv A outer s H E hr => b_is_integer g cdv A outer s H E hr) hF, hm, Fn.kp, hb⟩
/-! ### is_between -/
abbrev s_is_between : Stmt := topS 12
abbrev N_is_between : List Str := ["value", "low", "high"]
abbrev p_is_between : List Str := ["value", "low", "high"]
theorem sc_is_between : FnScope N_is_between p_is_between (defScope s_is_between) := ⟨rfl, rfl, rfl, by decide +kernel, rfl, by decide +kernel, by decide +kernel⟩
def w_is_between (F_is_integer : FSpec) : DS := sRet (dAnd (dCall 1 F_is_integer (aCons (dVar 0) aNil)) (dChain gLe gLe (dVar 1) (dVar 0) (dVar 2)))
theorem b_is_between {F_is_integer : FSpec} (g : Glb mg) (c_is_integer : Cal P w K mg base 1 "is_integer" (spF 1 F_is_integer K)) (cdv : Value) (A : Around) (outer : List PySem.Env) (s : Shared) (H : Hp) (E : XK) (hr : Room 1 (A.deeper (envOfC "is_between" (defScope s_is_between) s.heap.objs.size f cdv))) :
    PSsd (cxOf CX0 P w K mg base N_is_between "is_between" (defScope s_is_between) f cdv A outer s H E).nox (defBody s_is_between) (w_is_between F_is_integer) := by
  unfold w_is_between
  exact dss_one (ds_ret (de_and (de_call c_is_integer hr (by decide) (by rfl) (da_cons (de_var (pv 0)) da_nil)) (de_one (de_chain (opd_le hr.units) (opd_le hr.units) (de_var (pv 1)) (de_var (pv 0)) (de_var (pv 2))))))
theorem e_is_between (a0 a1 a2 : D) : env0 N_is_between [a0, a1, a2] = [.fz a0, .fz a1, .fz a2] := rfl
theorem cal_is_between {F : FSpec} {F_is_integer : FSpec} (D : DefOk K mg "is_between" s_is_between p_is_between) (g : Glb mg) (c_is_integer : Cal P w K mg base 1 "is_integer" (spF 1 F_is_integer K)) (hF : ∀ as R, as.length = 3 → F as R → w_is_between F_is_integer { nx := fun _ => R .non, rt := fun d _ => R d } (env0 N_is_between as)) : Cal P w K mg base 2 "is_between" (spF 3 F K) := by
  obtain ⟨fa, fd, Fn, hm, hb⟩ := D.ex
  exact ⟨fa, fd, p_is_between, fn_pure Fn sc_is_between (fun cdv A outer s H E hr => b_is_between g c_is_integer cdv A outer s H E hr) hF, hm, Fn.kp, hb⟩
/-! ### are_between -/
abbrev s_are_between : Stmt := topS 13
abbrev N_are_between : List Str := ["value", "low", "high", "one"]
abbrev p_are_between : List Str := ["value", "low", "high"]
theorem sc_are_between : FnScope N_are_between p_are_between (defScope s_are_between) := ⟨rfl, rfl, rfl, by decide +kernel, rfl, by decide +kernel, by decide +kernel⟩
def w_are_between (F_is_between : FSpec) : DS := sRet (dAnd (dCB (gIsi "tuple") (aCons (dVar 0) (aCons (dC (.raw (.ty "tuple"))) aNil))) (dCB gAll (aCons (dFz (fLc (iSeq (dVar 0)) (.nm 3) tYes1 (dCall 3 F_is_between (aCons (dVar 3) (aCons (dVar 1) (aCons (dVar 2) aNil)))) [3])) aNil)))
theorem b_are_between {F_is_between : FSpec} (g : Glb mg) (c_is_between : Cal P w K mg base 2 "is_between" (spF 3 F_is_between K)) (cdv : Value) (A : Around) (outer : List PySem.Env) (s : Shared) (H : Hp) (E : XK) (hr : Room 2 (A.deeper (envOfC "are_between" (defScope s_are_between) s.heap.objs.size f cdv))) :
    PSsd (cxOf CX0 P w K mg base N_are_between "are_between" (defScope s_are_between) f cdv A outer s H E).nox (defBody s_are_between) (w_are_between F_is_between) := by
  unfold w_are_between
  exact dss_one (ds_ret (de_and (de_callB cd_isi (by rfl) g.b_isinstance rfl (da_cons (de_var (pv 0)) (da_cons (de_ty (by rfl) g.b_tuple rfl) da_nil))) (de_one (de_callB1 (cd_all rfl) (by rfl) g.b_all rfl ((de_fz (df_lc (own := [("one", 3)]) rfl sc_are_between.nd (di_seq (de_var (pv 0))) (blkOk_by (by show blkC N_are_between (defScope s_are_between) _ [("one", 3)] = true; decide +kernel)) (fun _ _ _ _ _ => pgd_nm (pg_name (i := 3) sc_are_between.nd rfl (by first | exact .inl rfl | exact .inr rfl))) (fun _ _ _ _ _ => dts_nil) (fun _ _ _ _ _ => de_call c_is_between hr (by decide) (by rfl) (da_cons (de_var (pv 3)) (da_cons (de_var (pv 1)) (da_cons (de_var (pv 2)) da_nil)))) rfl (by decide))).toS)))))
theorem e_are_between (a0 a1 a2 : D) : env0 N_are_between [a0, a1, a2] = [.fz a0, .fz a1, .fz a2, .no] := rfl
theorem cal_are_between {F : FSpec} {F_is_between : FSpec} (D : DefOk K mg "are_between" s_are_between p_are_between) (g : Glb mg) (c_is_between : Cal P w K mg base 2 "is_between" (spF 3 F_is_between K)) (hF : ∀ as R, as.length = 3 → F as R → w_are_between F_is_between { nx := fun _ => R .non, rt := fun d _ => R d } (env0 N_are_between as)) : Cal P w K mg base 3 "are_between" (spF 3 F K) := by
  obtain ⟨fa, fd, Fn, hm, hb⟩ := D.ex
  exact ⟨fa, fd, p_are_between, fn_pure Fn sc_are_between (fun cdv A outer s H E hr => b_are_between g c_is_between cdv A outer s H E hr) hF, hm, Fn.kp, hb⟩
/-! ### are_votes -/
abbrev s_are_votes : Stmt := topS 23
abbrev N_are_votes : List Str := ["value"]
abbrev p_are_votes : List Str := ["value"]
theorem sc_are_votes : FnScope N_are_votes p_are_votes (defScope s_are_votes) := ⟨rfl, rfl, rfl, by decide +kernel, rfl, by decide +kernel, by decide +kernel⟩
def w_are_votes (F_are_between : FSpec) : DS := sRet (dAnd (dCall 3 F_are_between (aCons (dVar 0) (aCons (dC (.int 0)) (aCons (dC (.int 1000000000)) aNil)))) (dChain gLe gLe (dC (.int 1)) (dCB gLen (aCons (dVar 0) aNil)) (dC (.int 12))))
theorem b_are_votes {F_are_between : FSpec} (g : Glb mg) (c_are_between : Cal P w K mg base 3 "are_between" (spF 3 F_are_between K)) (cdv : Value) (A : Around) (outer : List PySem.Env) (s : Shared) (H : Hp) (E : XK) (hr : Room 3 (A.deeper (envOfC "are_votes" (defScope s_are_votes) s.heap.objs.size f cdv))) :
    PSsd (cxOf CX0 P w K mg base N_are_votes "are_votes" (defScope s_are_votes) f cdv A outer s H E).nox (defBody s_are_votes) (w_are_votes F_are_between) := by
  unfold w_are_votes
  exact dss_one (ds_ret (de_and (de_call c_are_between hr (by decide) (by rfl) (da_cons (de_var (pv 0)) (da_cons de_int (da_cons (de_gint (by rfl) g.c_MOST_VOTES) da_nil)))) (de_one (de_chain (opd_le hr.units) (opd_le hr.units) de_int (de_callB1 cd_len (by rfl) g.b_len rfl ((de_var (pv 0)).toS)) (de_gint (by rfl) g.c_MOST_PARTIES)))))
theorem e_are_votes (a0 : D) : env0 N_are_votes [a0] = [.fz a0] := rfl
theorem cal_are_votes {F : FSpec} {F_are_between : FSpec} (D : DefOk K mg "are_votes" s_are_votes p_are_votes) (g : Glb mg) (c_are_between : Cal P w K mg base 3 "are_between" (spF 3 F_are_between K)) (hF : ∀ as R, as.length = 1 → F as R → w_are_votes F_are_between { nx := fun _ => R .non, rt := fun d _ => R d } (env0 N_are_votes as)) : Cal P w K mg base 4 "are_votes" (spF 1 F K) := by
  obtain ⟨fa, fd, Fn, hm, hb⟩ := D.ex
  exact ⟨fa, fd, p_are_votes, fn_pure Fn sc_are_votes (fun cdv A outer s H E hr => b_are_votes g c_are_between cdv A outer s H E hr) hF, hm, Fn.kp, hb⟩
/-! ### check_votes -/
abbrev s_check_votes : Stmt := topS 24
abbrev N_check_votes : List Str := ["value"]
abbrev p_check_votes : List Str := ["value"]
theorem sc_check_votes : FnScope N_check_votes p_check_votes (defScope s_check_votes) := ⟨rfl, rfl, rfl, by decide +kernel, rfl, by decide +kernel, by decide +kernel⟩
def w_check_votes (F_are_votes : FSpec) : DS := sIf (tNot1 (tB1 (dCall 1 F_are_votes (aCons (dVar 0) aNil)))) sNever sNext
theorem b_check_votes {F_are_votes : FSpec} (g : Glb mg) (c_are_votes : Cal P w K mg base 4 "are_votes" (spF 1 F_are_votes K)) (cdv : Value) (A : Around) (outer : List PySem.Env) (s : Shared) (H : Hp) (E : XK) (hr : Room 4 (A.deeper (envOfC "check_votes" (defScope s_check_votes) s.heap.objs.size f cdv))) :
    PSsd (cxOf CX0 P w K mg base N_check_votes "check_votes" (defScope s_check_votes) f cdv A outer s H E).nox (defBody s_check_votes) (w_check_votes F_are_votes) := by
  unfold w_check_votes
  exact dss_one (ds_if (dt_not (dt_val (de_call c_are_votes hr (by decide) (by rfl) (da_cons (de_var (pv 0)) da_nil)))) dss_never dss_nil)
theorem e_check_votes (a0 : D) : env0 N_check_votes [a0] = [.fz a0] := rfl
theorem cal_check_votes {F : FSpec} {F_are_votes : FSpec} (D : DefOk K mg "check_votes" s_check_votes p_check_votes) (g : Glb mg) (c_are_votes : Cal P w K mg base 4 "are_votes" (spF 1 F_are_votes K)) (hF : ∀ as R, as.length = 1 → F as R → w_check_votes F_are_votes { nx := fun _ => R .non, rt := fun d _ => R d } (env0 N_check_votes as)) : Cal P w K mg base 5 "check_votes" (spF 1 F K) := by
  obtain ⟨fa, fd, Fn, hm, hb⟩ := D.ex
  exact ⟨fa, fd, p_check_votes, fn_pure Fn sc_check_votes (fun cdv A outer s H E hr => b_check_votes g c_are_votes cdv A outer s H E hr) hF, hm, Fn.kp, hb⟩
/-! ### is_ascending -/
abbrev s_is_ascending : Stmt := topS 15
abbrev N_is_ascending : List Str := ["items", "one", "other"]
abbrev p_is_ascending : List Str := ["items"]
theorem sc_is_ascending : FnScope N_is_ascending p_is_ascending (defScope s_is_ascending) := ⟨rfl, rfl, rfl, by decide +kernel, rfl, by decide +kernel, by decide +kernel⟩
def w_is_ascending : DS := sRet (dCB gAll (aCons (dFz (fLc (iZipd (dVar 0) (dSlice (dVar 0) (oSome (dC (.int 1))) oNone)) (.tp [.nm 1, .nm 2]) tYes1 (dBin gLt (dVar 1) (dVar 2)) [1, 2])) aNil))
theorem b_is_ascending (g : Glb mg) (cdv : Value) (A : Around) (outer : List PySem.Env) (s : Shared) (H : Hp) (E : XK) (hr : Room 0 (A.deeper (envOfC "is_ascending" (defScope s_is_ascending) s.heap.objs.size f cdv))) :
    PSsd (cxOf CX0 P w K mg base N_is_ascending "is_ascending" (defScope s_is_ascending) f cdv A outer s H E).nox (defBody s_is_ascending) (w_is_ascending) := by
  unfold w_is_ascending
  exact dss_one (ds_ret (de_callB1 (cd_all rfl) (by rfl) g.b_all rfl ((de_fz (df_lc (own := [("one", 1), ("other", 2)]) rfl sc_is_ascending.nd (di_zip (by rfl) g.b_zip (de_var (pv 0)) (de_slice (de_var (pv 0)) (do_some de_int) do_none)) (blkOk_by (by show blkC N_is_ascending (defScope s_is_ascending) _ [("one", 1), ("other", 2)] = true; decide +kernel)) (fun _ _ _ _ _ => pgd_tp rfl (pgsd_cons (pgd_nm (pg_name (i := 1) sc_is_ascending.nd rfl (by first | exact .inl rfl | exact .inr rfl))) (pgsd_cons (pgd_nm (pg_name (i := 2) sc_is_ascending.nd rfl (by first | exact .inl rfl | exact .inr rfl))) pgsd_nil))) (fun _ _ _ _ _ => dts_nil) (fun _ _ _ _ _ => de_cmp (opd_lt hr.units) (de_var (pv 1)) ((de_var (pv 2)).toS) (nomark _)) rfl (by decide))).toS)))
theorem e_is_ascending (a0 : D) : env0 N_is_ascending [a0] = [.fz a0, .no, .no] := rfl
theorem cal_is_ascending {F : FSpec} (D : DefOk K mg "is_ascending" s_is_ascending p_is_ascending) (g : Glb mg) (hF : ∀ as R, as.length = 1 → F as R → w_is_ascending { nx := fun _ => R .non, rt := fun d _ => R d } (env0 N_is_ascending as)) : Cal P w K mg base 1 "is_ascending" (spF 1 F K) := by
  obtain ⟨fa, fd, Fn, hm, hb⟩ := D.ex
  exact ⟨fa, fd, p_is_ascending, fn_pure Fn sc_is_ascending (fun cdv A outer s H E hr => b_is_ascending g cdv A outer s H E hr) hF, hm, Fn.kp, hb⟩
/-! ### are_divisors -/
abbrev s_are_divisors : Stmt := topS 25
abbrev N_are_divisors : List Str := ["value"]
abbrev p_are_divisors : List Str := ["value"]
theorem sc_are_divisors : FnScope N_are_divisors p_are_divisors (defScope s_are_divisors) := ⟨rfl, rfl, rfl, by decide +kernel, rfl, by decide +kernel, by decide +kernel⟩
def w_are_divisors (F_are_between : FSpec) (F_is_ascending : FSpec) : DS := sRet (dAnd (dCall 3 F_are_between (aCons (dVar 0) (aCons (dC (.int 1)) (aCons (dC (.int 1000000)) aNil)))) (dAnd (dChain gLe gLe (dC (.int 1)) (dCB gLen (aCons (dVar 0) aNil)) (dC (.int 60))) (dCall 1 F_is_ascending (aCons (dVar 0) aNil))))
theorem b_are_divisors {F_are_between : FSpec} {F_is_ascending : FSpec} (g : Glb mg) (c_are_between : Cal P w K mg base 3 "are_between" (spF 3 F_are_between K)) (c_is_ascending : Cal P w K mg base 1 "is_ascending" (spF 1 F_is_ascending K)) (cdv : Value) (A : Around) (outer : List PySem.Env) (s : Shared) (H : Hp) (E : XK) (hr : Room 3 (A.deeper (envOfC "are_divisors" (defScope s_are_divisors) s.heap.objs.size f cdv))) :
    PSsd (cxOf CX0 P w K mg base N_are_divisors "are_divisors" (defScope s_are_divisors) f cdv A outer s H E).nox (defBody s_are_divisors) (w_are_divisors F_are_between F_is_ascending) := by
  unfold w_are_divisors
  exact dss_one (ds_ret (de_and (de_call c_are_between hr (by decide) (by rfl) (da_cons (de_var (pv 0)) (da_cons de_int (da_cons (de_gint (by rfl) g.c_MOST_DIVISOR) da_nil)))) (de_and (de_chain (opd_le hr.units) (opd_le hr.units) de_int (de_callB1 cd_len (by rfl) g.b_len rfl ((de_var (pv 0)).toS)) (de_gint (by rfl) g.c_MOST_SEATS)) (de_one (de_call c_is_ascending hr (by decide) (by rfl) (da_cons (de_var (pv 0)) da_nil))))))
theorem e_are_divisors (a0 : D) : env0 N_are_divisors [a0] = [.fz a0] := rfl
theorem cal_are_divisors {F : FSpec} {F_are_between : FSpec} {F_is_ascending : FSpec} (D : DefOk K mg "are_divisors" s_are_divisors p_are_divisors) (g : Glb mg) (c_are_between : Cal P w K mg base 3 "are_between" (spF 3 F_are_between K)) (c_is_ascending : Cal P w K mg base 1 "is_ascending" (spF 1 F_is_ascending K)) (hF : ∀ as R, as.length = 1 → F as R → w_are_divisors F_are_between F_is_ascending { nx := fun _ => R .non, rt := fun d _ => R d } (env0 N_are_divisors as)) : Cal P w K mg base 4 "are_divisors" (spF 1 F K) := by
  obtain ⟨fa, fd, Fn, hm, hb⟩ := D.ex
  exact ⟨fa, fd, p_are_divisors, fn_pure Fn sc_are_divisors (fun cdv A outer s H E hr => b_are_divisors g c_are_between c_is_ascending cdv A outer s H E hr) hF, hm, Fn.kp, hb⟩
/-! ### is_rule -/
abbrev s_is_rule : Stmt := topS 26
abbrev N_is_rule : List Str := ["value", "parties"]
abbrev p_is_rule : List Str := ["value", "parties"]
theorem sc_is_rule : FnScope N_is_rule p_is_rule (defScope s_is_rule) := ⟨rfl, rfl, rfl, by decide +kernel, rfl, by decide +kernel, by decide +kernel⟩
def w_is_rule (F_are_divisors : FSpec) (F_is_between : FSpec) : DS := sSeq (sIf (tOr1 (tNot1 (tB1 (dCB (gIsi "tuple") (aCons (dVar 0) (aCons (dC (.raw (.ty "tuple"))) aNil))))) (tOr1 (tB1 (dBin gNe (dCB gLen (aCons (dVar 0) aNil)) (dC (.int 3)))) (tNot1 (tB1 (dCall 1 F_are_divisors (aCons (dBin gIx (dVar 0) (dC (.int 0))) aNil)))))) (sRet (dC (.bl false))) sNext) (sRet (dAnd (dCall 3 F_is_between (aCons (dBin gIx (dVar 0) (dC (.int 1))) (aCons (dC (.int 1)) (aCons (dCB gLen (aCons (dBin gIx (dVar 0) (dC (.int 0))) aNil)) aNil)))) (dCall 3 F_is_between (aCons (dBin gIx (dVar 0) (dC (.int 2))) (aCons (dC (.int 0)) (aCons (dBin gDiv (dC (.int 100)) (dVar 1)) aNil))))))
theorem b_is_rule {F_are_divisors : FSpec} {F_is_between : FSpec} (g : Glb mg) (c_are_divisors : Cal P w K mg base 4 "are_divisors" (spF 1 F_are_divisors K)) (c_is_between : Cal P w K mg base 2 "is_between" (spF 3 F_is_between K)) (cdv : Value) (A : Around) (outer : List PySem.Env) (s : Shared) (H : Hp) (E : XK) (hr : Room 4 (A.deeper (envOfC "is_rule" (defScope s_is_rule) s.heap.objs.size f cdv))) :
    PSsd (cxOf CX0 P w K mg base N_is_rule "is_rule" (defScope s_is_rule) f cdv A outer s H E).nox (defBody s_is_rule) (w_is_rule F_are_divisors F_is_between) := by
  unfold w_is_rule
  exact dss_cons (ds_if (dt_pw (dw_or (dt_not (dt_val (de_callB cd_isi (by rfl) g.b_isinstance rfl (da_cons (de_var (pv 0)) (da_cons (de_ty (by rfl) g.b_tuple rfl) da_nil))))) (dw_or (dt_cmp (opd_ne hr.units) (de_callB1 cd_len (by rfl) g.b_len rfl ((de_var (pv 0)).toS)) ((de_gint (by rfl) g.c_THREE_counts).toS) (nomark _)) (dw_or1 (dt_not (dt_val (de_call c_are_divisors hr (by decide) (by rfl) (da_cons (de_ix ixd_ix (de_var (pv 0)) ((de_int).toS) (fun _ _ => rfl)) da_nil)))))))) (dss_one (ds_ret de_bl)) dss_nil) (dss_one (ds_ret (de_and (de_call c_is_between hr (by decide) (by rfl) (da_cons (de_ix ixd_ix (de_var (pv 0)) ((de_int).toS) (fun _ _ => rfl)) (da_cons de_int (da_cons (de_callB1 cd_len (by rfl) g.b_len rfl ((de_ix ixd_ix (de_var (pv 0)) ((de_int).toS) (fun _ _ => rfl)).toS)) da_nil)))) (de_one (de_call c_is_between hr (by decide) (by rfl) (da_cons (de_ix ixd_ix (de_var (pv 0)) ((de_int).toS) (fun _ _ => rfl)) (da_cons de_int (da_cons (de_bin opd_divA (de_gint (by rfl) g.c_HUNDRED) ((de_var (pv 1)).toS)) da_nil))))))))
theorem e_is_rule (a0 a1 : D) : env0 N_is_rule [a0, a1] = [.fz a0, .fz a1] := rfl
theorem cal_is_rule {F : FSpec} {F_are_divisors : FSpec} {F_is_between : FSpec} (D : DefOk K mg "is_rule" s_is_rule p_is_rule) (g : Glb mg) (c_are_divisors : Cal P w K mg base 4 "are_divisors" (spF 1 F_are_divisors K)) (c_is_between : Cal P w K mg base 2 "is_between" (spF 3 F_is_between K)) (hF : ∀ as R, as.length = 2 → F as R → w_is_rule F_are_divisors F_is_between { nx := fun _ => R .non, rt := fun d _ => R d } (env0 N_is_rule as)) : Cal P w K mg base 5 "is_rule" (spF 2 F K) := by
  obtain ⟨fa, fd, Fn, hm, hb⟩ := D.ex
  exact ⟨fa, fd, p_is_rule, fn_pure Fn sc_is_rule (fun cdv A outer s H E hr => b_is_rule g c_are_divisors c_is_between cdv A outer s H E hr) hF, hm, Fn.kp, hb⟩
/-! ### check_rule -/
abbrev s_check_rule : Stmt := topS 27
abbrev N_check_rule : List Str := ["value", "parties"]
abbrev p_check_rule : List Str := ["value", "parties"]
theorem sc_check_rule : FnScope N_check_rule p_check_rule (defScope s_check_rule) := ⟨rfl, rfl, rfl, by decide +kernel, rfl, by decide +kernel, by decide +kernel⟩
def w_check_rule (F_is_rule : FSpec) : DS := sIf (tNot1 (tB1 (dCall 2 F_is_rule (aCons (dVar 0) (aCons (dVar 1) aNil))))) sNever sNext
theorem b_check_rule {F_is_rule : FSpec} (g : Glb mg) (c_is_rule : Cal P w K mg base 5 "is_rule" (spF 2 F_is_rule K)) (cdv : Value) (A : Around) (outer : List PySem.Env) (s : Shared) (H : Hp) (E : XK) (hr : Room 5 (A.deeper (envOfC "check_rule" (defScope s_check_rule) s.heap.objs.size f cdv))) :
    PSsd (cxOf CX0 P w K mg base N_check_rule "check_rule" (defScope s_check_rule) f cdv A outer s H E).nox (defBody s_check_rule) (w_check_rule F_is_rule) := by
  unfold w_check_rule
  exact dss_one (ds_if (dt_not (dt_val (de_call c_is_rule hr (by decide) (by rfl) (da_cons (de_var (pv 0)) (da_cons (de_var (pv 1)) da_nil))))) dss_never dss_nil)
theorem e_check_rule (a0 a1 : D) : env0 N_check_rule [a0, a1] = [.fz a0, .fz a1] := rfl
theorem cal_check_rule {F : FSpec} {F_is_rule : FSpec} (D : DefOk K mg "check_rule" s_check_rule p_check_rule) (g : Glb mg) (c_is_rule : Cal P w K mg base 5 "is_rule" (spF 2 F_is_rule K)) (hF : ∀ as R, as.length = 2 → F as R → w_check_rule F_is_rule { nx := fun _ => R .non, rt := fun d _ => R d } (env0 N_check_rule as)) : Cal P w K mg base 6 "check_rule" (spF 2 F K) := by
  obtain ⟨fa, fd, Fn, hm, hb⟩ := D.ex
  exact ⟨fa, fd, p_check_rule, fn_pure Fn sc_check_rule (fun cdv A outer s H E hr => b_check_rule g c_is_rule cdv A outer s H E hr) hF, hm, Fn.kp, hb⟩
/-! ### check_two -/
abbrev s_check_two : Stmt := topS 36
abbrev N_check_two : List Str := ["votes", "rule"]
abbrev p_check_two : List Str := ["votes", "rule"]
theorem sc_check_two : FnScope N_check_two p_check_two (defScope s_check_two) := ⟨rfl, rfl, rfl, by decide +kernel, rfl, by decide +kernel, by decide +kernel⟩
def w_check_two (F_check_votes : FSpec) (F_check_rule : FSpec) : DS := sSeq (sDrop (dCall 1 F_check_votes (aCons (dVar 0) aNil))) (sDrop (dCall 2 F_check_rule (aCons (dVar 1) (aCons (dCB gLen (aCons (dVar 0) aNil)) aNil))))
theorem b_check_two {F_check_votes : FSpec} {F_check_rule : FSpec} (g : Glb mg) (c_check_votes : Cal P w K mg base 5 "check_votes" (spF 1 F_check_votes K)) (c_check_rule : Cal P w K mg base 6 "check_rule" (spF 2 F_check_rule K)) (cdv : Value) (A : Around) (outer : List PySem.Env) (s : Shared) (H : Hp) (E : XK) (hr : Room 6 (A.deeper (envOfC "check_two" (defScope s_check_two) s.heap.objs.size f cdv))) :
    PSsd (cxOf CX0 P w K mg base N_check_two "check_two" (defScope s_check_two) f cdv A outer s H E).nox (defBody s_check_two) (w_check_two F_check_votes F_check_rule) := by
  unfold w_check_two
  exact dss_cons (ds_expr (de_call c_check_votes hr (by decide) (by rfl) (da_cons (de_var (pv 0)) da_nil))) (dss_one (ds_expr (de_call c_check_rule hr (by decide) (by rfl) (da_cons (de_var (pv 1)) (da_cons (de_callB1 cd_len (by rfl) g.b_len rfl ((de_var (pv 0)).toS)) da_nil)))))
theorem e_check_two (a0 a1 : D) : env0 N_check_two [a0, a1] = [.fz a0, .fz a1] := rfl
theorem cal_check_two {F : FSpec} {F_check_votes : FSpec} {F_check_rule : FSpec} (D : DefOk K mg "check_two" s_check_two p_check_two) (g : Glb mg) (c_check_votes : Cal P w K mg base 5 "check_votes" (spF 1 F_check_votes K)) (c_check_rule : Cal P w K mg base 6 "check_rule" (spF 2 F_check_rule K)) (hF : ∀ as R, as.length = 2 → F as R → w_check_two F_check_votes F_check_rule { nx := fun _ => R .non, rt := fun d _ => R d } (env0 N_check_two as)) : Cal P w K mg base 7 "check_two" (spF 2 F K) := by
  obtain ⟨fa, fd, Fn, hm, hb⟩ := D.ex
  exact ⟨fa, fd, p_check_two, fn_pure Fn sc_check_two (fun cdv A outer s H E hr => b_check_two g c_check_votes c_check_rule cdv A outer s H E hr) hF, hm, Fn.kp, hb⟩
/-! ### is_below -/
abbrev s_is_below : Stmt := topS 32
abbrev N_is_below : List Str := ["votes", "bar", "party"]
abbrev p_is_below : List Str := ["votes", "bar", "party"]
theorem sc_is_below : FnScope N_is_below p_is_below (defScope s_is_below) := ⟨rfl, rfl, rfl, by decide +kernel, rfl, by decide +kernel, by decide +kernel⟩
def w_is_below : DS := sRet (dBin gLt (dBin gMul (dBin gIx (dVar 0) (dVar 2)) (dC (.int 100))) (dBin gMul (dVar 1) (dCB gSum (aCons (dVar 0) aNil))))
theorem b_is_below (g : Glb mg) (cdv : Value) (A : Around) (outer : List PySem.Env) (s : Shared) (H : Hp) (E : XK) (hr : Room 0 (A.deeper (envOfC "is_below" (defScope s_is_below) s.heap.objs.size f cdv))) :
    PSsd (cxOf CX0 P w K mg base N_is_below "is_below" (defScope s_is_below) f cdv A outer s H E).nox (defBody s_is_below) (w_is_below) := by
  unfold w_is_below
  exact dss_one (ds_ret (de_cmp (opd_lt hr.units) (de_bin opd_mulA (de_ix ixd_ix (de_var (pv 0)) ((de_var (pv 2)).toS) (fun _ _ => rfl)) ((de_gint (by rfl) g.c_HUNDRED).toS)) ((de_bin opd_mulA (de_var (pv 1)) ((de_callB1 (cd_sum rfl) (by rfl) g.b_sum rfl ((de_var (pv 0)).toS)).toS)).toS) (nomark _)))
theorem e_is_below (a0 a1 a2 : D) : env0 N_is_below [a0, a1, a2] = [.fz a0, .fz a1, .fz a2] := rfl
theorem cal_is_below {F : FSpec} (D : DefOk K mg "is_below" s_is_below p_is_below) (g : Glb mg) (hF : ∀ as R, as.length = 3 → F as R → w_is_below { nx := fun _ => R .non, rt := fun d _ => R d } (env0 N_is_below as)) : Cal P w K mg base 1 "is_below" (spF 3 F K) := by
  obtain ⟨fa, fd, Fn, hm, hb⟩ := D.ex
  exact ⟨fa, fd, p_is_below, fn_pure Fn sc_is_below (fun cdv A outer s H E hr => b_is_below g cdv A outer s H E hr) hF, hm, Fn.kp, hb⟩
/-! ### is_ahead -/
abbrev s_is_ahead : Stmt := topS 33
abbrev N_is_ahead : List Str := ["votes", "divisors", "one", "other", "mine", "its"]
abbrev p_is_ahead : List Str := ["votes", "divisors", "one", "other"]
theorem sc_is_ahead : FnScope N_is_ahead p_is_ahead (defScope s_is_ahead) := ⟨rfl, rfl, rfl, by decide +kernel, rfl, by decide +kernel, by decide +kernel⟩
def w_is_ahead : DS := sSeq (sAsg (dBin gMul (dBin gIx (dVar 0) (dBin gIx (dVar 2) (dC (.int 0)))) (dBin gIx (dVar 1) (dBin gIx (dVar 3) (dC (.int 1))))) (.nm 4)) (sSeq (sAsg (dBin gMul (dBin gIx (dVar 0) (dBin gIx (dVar 3) (dC (.int 0)))) (dBin gIx (dVar 1) (dBin gIx (dVar 2) (dC (.int 1))))) (.nm 5)) (sRet (dOr (dBin gGt (dVar 4) (dVar 5)) (dAnd (dBin gEq (dVar 4) (dVar 5)) (dBin gLt (dVar 2) (dVar 3))))))
theorem b_is_ahead (g : Glb mg) (cdv : Value) (A : Around) (outer : List PySem.Env) (s : Shared) (H : Hp) (E : XK) (hr : Room 0 (A.deeper (envOfC "is_ahead" (defScope s_is_ahead) s.heap.objs.size f cdv))) :
    PSsd (cxOf CX0 P w K mg base N_is_ahead "is_ahead" (defScope s_is_ahead) f cdv A outer s H E).nox (defBody s_is_ahead) (w_is_ahead) := by
  unfold w_is_ahead
  exact dss_cons (ds_set (ps_set (i := 4) sc_is_ahead.nd rfl (by first | exact .inl rfl | exact .inr rfl) (de_bin opd_mulA (de_ix ixd_ix (de_var (pv 0)) ((de_ix ixd_ix (de_var (pv 2)) ((de_int).toS) (fun _ _ => rfl)).toS) (fun _ _ => rfl)) ((de_ix ixd_ix (de_var (pv 1)) ((de_ix ixd_ix (de_var (pv 3)) ((de_int).toS) (fun _ _ => rfl)).toS) (fun _ _ => rfl)).toS)))) (dss_cons (ds_set (ps_set (i := 5) sc_is_ahead.nd rfl (by first | exact .inl rfl | exact .inr rfl) (de_bin opd_mulA (de_ix ixd_ix (de_var (pv 0)) ((de_ix ixd_ix (de_var (pv 3)) ((de_int).toS) (fun _ _ => rfl)).toS) (fun _ _ => rfl)) ((de_ix ixd_ix (de_var (pv 1)) ((de_ix ixd_ix (de_var (pv 2)) ((de_int).toS) (fun _ _ => rfl)).toS) (fun _ _ => rfl)).toS)))) (dss_one (ds_ret (de_or (de_cmp (opd_gt hr.units) (de_var (pv 4)) ((de_var (pv 5)).toS) (nomark _)) (de_one (de_and (de_cmp (opd_eq hr.units) (de_var (pv 4)) ((de_var (pv 5)).toS) (nomark _)) (de_one (de_cmp (opd_lt hr.units) (de_var (pv 2)) ((de_var (pv 3)).toS) (nomark _)))))))))
theorem e_is_ahead (a0 a1 a2 a3 : D) : env0 N_is_ahead [a0, a1, a2, a3] = [.fz a0, .fz a1, .fz a2, .fz a3, .no, .no] := rfl
theorem cal_is_ahead {F : FSpec} (D : DefOk K mg "is_ahead" s_is_ahead p_is_ahead) (g : Glb mg) (hF : ∀ as R, as.length = 4 → F as R → w_is_ahead { nx := fun _ => R .non, rt := fun d _ => R d } (env0 N_is_ahead as)) : Cal P w K mg base 1 "is_ahead" (spF 4 F K) := by
  obtain ⟨fa, fd, Fn, hm, hb⟩ := D.ex
  exact ⟨fa, fd, p_is_ahead, fn_pure Fn sc_is_ahead (fun cdv A outer s H E hr => b_is_ahead g cdv A outer s H E hr) hF, hm, Fn.kp, hb⟩
/-! ### dealt -/
abbrev s_dealt : Stmt := topS 34
abbrev N_dealt : List Str := ["votes", "rule", "held", "found", "lap", "divisors", "seats", "bar", "best", "party"]
abbrev p_dealt : List Str := ["votes", "rule"]
theorem sc_dealt : FnScope N_dealt p_dealt (defScope s_dealt) := ⟨rfl, rfl, rfl, by decide +kernel, rfl, by decide +kernel, by decide +kernel⟩
def w_dealt (F_is_below : FSpec) (F_is_ahead : FSpec) : DS := sSeq (sAsg (dVar 1) (.tp [.nm 5, .nm 6, .nm 7])) (sSeq (sOwnD 2 (fDc (iRan1 (dCB gLen (aCons (dVar 0) aNil))) (.nm 9) (tNot1 (tB1 (dCall 3 F_is_below (aCons (dVar 0) (aCons (dVar 7) (aCons (dVar 9) aNil)))))) (dVar 9) (dC (.int 0)) [9])) (sSeq (sOwn 3 (fLst aNil)) (sSeq (sFor (iRan1 (dVar 6)) (.nm 4) (sSeq (sAsg (dC .non) (.nm 8)) (sSeq (sKeys 2 (.nm 9) (sIf (tB1 (dBin gLt (dDGet 2 (dVar 9)) (dCB gLen (aCons (dVar 5) aNil)))) (sIf (tOr1 (tB1 (dBin gIsN (dVar 8) (dC .non))) (tB1 (dCall 4 F_is_ahead (aCons (dVar 0) (aCons (dVar 5) (aCons (dTup (aCons (dVar 9) (aCons (dDGet 2 (dVar 9)) aNil))) (aCons (dTup (aCons (dVar 8) (aCons (dDGet 2 (dVar 8)) aNil))) aNil))))))) (sAsg (dVar 9) (.nm 8)) sNext) sNext)) (sSeq (sDPutD 2 (dVar 8) (dBin gAdd (dDGet 2 (dVar 8)) (dC (.int 1)))) (sApp 3 (dVar 8)))))) (sFrz 3 (sRet (dVar 3))))))
theorem b_dealt {F_is_below : FSpec} {F_is_ahead : FSpec} (g : Glb mg) (c_is_below : Cal P w K mg base 1 "is_below" (spF 3 F_is_below K)) (c_is_ahead : Cal P w K mg base 1 "is_ahead" (spF 4 F_is_ahead K)) (cdv : Value) (A : Around) (outer : List PySem.Env) (s : Shared) (H : Hp) (E : XK) (hr : Room 1 (A.deeper (envOfC "dealt" (defScope s_dealt) s.heap.objs.size f cdv))) :
    PSsd (cxOf CX0 P w K mg base N_dealt "dealt" (defScope s_dealt) f cdv A outer s H E).nox (defBody s_dealt) (w_dealt F_is_below F_is_ahead) := by
  unfold w_dealt
  exact dss_cons (ds_asg (de_var (pv 1)) (pgd_tp rfl (pgsd_cons (pgd_nm (pg_name (i := 5) sc_dealt.nd rfl (by first | exact .inl rfl | exact .inr rfl))) (pgsd_cons (pgd_nm (pg_name (i := 6) sc_dealt.nd rfl (by first | exact .inl rfl | exact .inr rfl))) (pgsd_cons (pgd_nm (pg_name (i := 7) sc_dealt.nd rfl (by first | exact .inl rfl | exact .inr rfl))) pgsd_nil))))) (dss_cons (ds_ownDc (ps_setDc (i := 2) (own := [("party", 9)]) rfl sc_dealt.nd rfl rfl (sw_trueD rfl rfl rfl (by decide +kernel)) (di_ran1 (by rfl) g.b_range (de_callB1 cd_len (by rfl) g.b_len rfl ((de_var (pv 0)).toS))) (blkOk_by (by show blkC N_dealt (defScope s_dealt) _ [("party", 9)] = true; decide +kernel)) (fun _ _ _ _ _ => pgd_nm (pg_name (i := 9) sc_dealt.nd rfl (by first | exact .inl rfl | exact .inr rfl))) (fun _ _ _ _ _ => dts_one (dt_not (dt_val (de_call c_is_below hr (by decide) (by rfl) (da_cons (de_var (pv 0)) (da_cons (de_var (pv 7)) (da_cons (de_var (pv 9)) da_nil))))))) (fun _ _ _ _ _ => de_var (pv 9)) (fun _ _ _ _ _ => de_int)) rfl (by decide)) (dss_cons (ds_own (ps_set (i := 3) sc_dealt.nd rfl (by first | exact .inl rfl | exact .inr rfl) (df_lst da_nil))) (dss_cons (ds_for PassesOwn.never rfl (di_ran1 (by rfl) g.b_range (de_var (pv 6))) (pgd_nm (pg_name (i := 4) sc_dealt.nd rfl (by first | exact .inl rfl | exact .inr rfl))) (dss_cons (ds_set (ps_set (i := 8) sc_dealt.nd rfl (by first | exact .inl rfl | exact .inr rfl) de_non)) (dss_cons (ds_keys PassesOwn.never rfl (pv 2) (pgd_nm (pg_name (i := 9) sc_dealt.nd rfl (by first | exact .inl rfl | exact .inr rfl))) (dss_one (ds_if (dt_cmp (opd_lt hr.units) (de_dget (hu_of hr) (pv 2) (de_var (pv 9)) (fun _ _ => rfl)) ((de_callB1 cd_len (by rfl) g.b_len rfl ((de_var (pv 5)).toS)).toS) (nomark _)) (dss_one (ds_if (dt_pw (dw_or (dt_cmp opd_isN (de_var (pv 8)) ((de_non).toS) (nomark _)) (dw_or1 (dt_val (de_call c_is_ahead hr (by decide) (by rfl) (da_cons (de_var (pv 0)) (da_cons (de_var (pv 5)) (da_cons (de_tup (da_cons (de_var (pv 9)) (da_cons (de_dget (hu_of hr) (pv 2) (de_var (pv 9)) (fun _ _ => rfl)) da_nil))) (da_cons (de_tup (da_cons (de_var (pv 8)) (da_cons (de_dget (hu_of hr) (pv 2) (de_var (pv 8)) (fun _ _ => rfl)) da_nil))) da_nil))))))))) (dss_one (ds_set (ps_set (i := 8) sc_dealt.nd rfl (by first | exact .inl rfl | exact .inr rfl) (de_var (pv 9))))) dss_nil)) dss_nil))) (dss_cons (ds_dput (hu_of hr) (pv 2) (de_var (pv 8)) (de_bin opd_add (de_dget (hu_of hr) (pv 2) (de_var (pv 8)) (fun _ _ => rfl)) ((de_int).toS)) (by rfl)) (dss_one (ds_app (pv 3) (de_var (pv 8)))))))) (dss_frz (i := 3) (dss_one (ds_ret (de_var (pv 3))))))))
theorem e_dealt (a0 a1 : D) : env0 N_dealt [a0, a1] = [.fz a0, .fz a1, .no, .no, .no, .no, .no, .no, .no, .no] := rfl
theorem cal_dealt {F : FSpec} {F_is_below : FSpec} {F_is_ahead : FSpec} (D : DefOk K mg "dealt" s_dealt p_dealt) (g : Glb mg) (c_is_below : Cal P w K mg base 1 "is_below" (spF 3 F_is_below K)) (c_is_ahead : Cal P w K mg base 1 "is_ahead" (spF 4 F_is_ahead K)) (hF : ∀ as R, as.length = 2 → F as R → w_dealt F_is_below F_is_ahead { nx := fun _ => R .non, rt := fun d _ => R d } (env0 N_dealt as)) : Cal P w K mg base 2 "dealt" (spF 2 F K) := by
  obtain ⟨fa, fd, Fn, hm, hb⟩ := D.ex
  exact ⟨fa, fd, p_dealt, fn_pure Fn sc_dealt (fun cdv A outer s H E hr => b_dealt g c_is_below c_is_ahead cdv A outer s H E hr) hF, hm, Fn.kp, hb⟩
/-! ### seats_of -/
abbrev s_seats_of : Stmt := topS 35
abbrev N_seats_of : List Str := ["votes", "rule", "found", "party"]
abbrev p_seats_of : List Str := ["votes", "rule"]
theorem sc_seats_of : FnScope N_seats_of p_seats_of (defScope s_seats_of) := ⟨rfl, rfl, rfl, by decide +kernel, rfl, by decide +kernel, by decide +kernel⟩
def w_seats_of (F_dealt : FSpec) : DS := sSeq (sAsg (dCall 2 F_dealt (aCons (dVar 0) (aCons (dVar 1) aNil))) (.nm 2)) (sRet (dCB gTuple (aCons (dFz (fLc (iRan1 (dCB gLen (aCons (dVar 0) aNil))) (.nm 3) tYes1 (dCount (dVar 2) (dVar 3)) [3])) aNil)))
theorem b_seats_of {F_dealt : FSpec} (g : Glb mg) (c_dealt : Cal P w K mg base 2 "dealt" (spF 2 F_dealt K)) (cdv : Value) (A : Around) (outer : List PySem.Env) (s : Shared) (H : Hp) (E : XK) (hr : Room 2 (A.deeper (envOfC "seats_of" (defScope s_seats_of) s.heap.objs.size f cdv))) :
    PSsd (cxOf CX0 P w K mg base N_seats_of "seats_of" (defScope s_seats_of) f cdv A outer s H E).nox (defBody s_seats_of) (w_seats_of F_dealt) := by
  unfold w_seats_of
  exact dss_cons (ds_set (ps_set (i := 2) sc_seats_of.nd rfl (by first | exact .inl rfl | exact .inr rfl) (de_call c_dealt hr (by decide) (by rfl) (da_cons (de_var (pv 0)) (da_cons (de_var (pv 1)) da_nil))))) (dss_one (ds_ret (de_callTy1 cd_tuple (by rfl) g.b_tuple rfl ((de_fz (df_lc (own := [("party", 3)]) rfl sc_seats_of.nd (di_ran1 (by rfl) g.b_range (de_callB1 cd_len (by rfl) g.b_len rfl ((de_var (pv 0)).toS))) (blkOk_by (by show blkC N_seats_of (defScope s_seats_of) _ [("party", 3)] = true; decide +kernel)) (fun _ _ _ _ _ => pgd_nm (pg_name (i := 3) sc_seats_of.nd rfl (by first | exact .inl rfl | exact .inr rfl))) (fun _ _ _ _ _ => dts_nil) (fun _ _ _ _ _ => de_count (de_var (pv 2)) (de_var (pv 3))) rfl (by decide))).toS))))
theorem e_seats_of (a0 a1 : D) : env0 N_seats_of [a0, a1] = [.fz a0, .fz a1, .no, .no] := rfl
theorem cal_seats_of {F : FSpec} {F_dealt : FSpec} (D : DefOk K mg "seats_of" s_seats_of p_seats_of) (g : Glb mg) (c_dealt : Cal P w K mg base 2 "dealt" (spF 2 F_dealt K)) (hF : ∀ as R, as.length = 2 → F as R → w_seats_of F_dealt { nx := fun _ => R .non, rt := fun d _ => R d } (env0 N_seats_of as)) : Cal P w K mg base 3 "seats_of" (spF 2 F K) := by
  obtain ⟨fa, fd, Fn, hm, hb⟩ := D.ex
  exact ⟨fa, fd, p_seats_of, fn_pure Fn sc_seats_of (fun cdv A outer s H E hr => b_seats_of g c_dealt cdv A outer s H E hr) hF, hm, Fn.kp, hb⟩
/-! ### seating -/
abbrev s_seating : Stmt := topS 37
abbrev N_seating : List Str := ["votes", "rule"]
abbrev p_seating : List Str := ["votes", "rule"]
theorem sc_seating : FnScope N_seating p_seating (defScope s_seating) := ⟨rfl, rfl, rfl, by decide +kernel, rfl, by decide +kernel, by decide +kernel⟩
def w_seating (F_check_two : FSpec) (F_seats_of : FSpec) : DS := sSeq (sDrop (dCall 2 F_check_two (aCons (dVar 0) (aCons (dVar 1) aNil)))) (sRet (dCall 2 F_seats_of (aCons (dVar 0) (aCons (dVar 1) aNil))))
theorem b_seating {F_check_two : FSpec} {F_seats_of : FSpec} (g : Glb mg) (c_check_two : Cal P w K mg base 7 "check_two" (spF 2 F_check_two K)) (c_seats_of : Cal P w K mg base 3 "seats_of" (spF 2 F_seats_of K)) (cdv : Value) (A : Around) (outer : List PySem.Env) (s : Shared) (H : Hp) (E : XK) (hr : Room 7 (A.deeper (envOfC "seating" (defScope s_seating) s.heap.objs.size f cdv))) :
    PSsd (cxOf CX0 P w K mg base N_seating "seating" (defScope s_seating) f cdv A outer s H E).nox (defBody s_seating) (w_seating F_check_two F_seats_of) := by
  unfold w_seating
  exact dss_cons (ds_expr (de_call c_check_two hr (by decide) (by rfl) (da_cons (de_var (pv 0)) (da_cons (de_var (pv 1)) da_nil)))) (dss_one (ds_ret (de_call c_seats_of hr (by decide) (by rfl) (da_cons (de_var (pv 0)) (da_cons (de_var (pv 1)) da_nil)))))
theorem e_seating (a0 a1 : D) : env0 N_seating [a0, a1] = [.fz a0, .fz a1] := rfl
theorem cal_seating {F : FSpec} {F_check_two : FSpec} {F_seats_of : FSpec} (D : DefOk K mg "seating" s_seating p_seating) (g : Glb mg) (c_check_two : Cal P w K mg base 7 "check_two" (spF 2 F_check_two K)) (c_seats_of : Cal P w K mg base 3 "seats_of" (spF 2 F_seats_of K)) (hF : ∀ as R, as.length = 2 → F as R → w_seating F_check_two F_seats_of { nx := fun _ => R .non, rt := fun d _ => R d } (env0 N_seating as)) : Cal P w K mg base 8 "seating" (spF 2 F K) := by
  obtain ⟨fa, fd, Fn, hm, hb⟩ := D.ex
  exact ⟨fa, fd, p_seating, fn_pure Fn sc_seating (fun cdv A outer s H E hr => b_seating g c_check_two c_seats_of cdv A outer s H E hr) hF, hm, Fn.kp, hb⟩
/-! ### sequence -/
abbrev s_sequence : Stmt := topS 38
abbrev N_sequence : List Str := ["votes", "rule"]
abbrev p_sequence : List Str := ["votes", "rule"]
theorem sc_sequence : FnScope N_sequence p_sequence (defScope s_sequence) := ⟨rfl, rfl, rfl, by decide +kernel, rfl, by decide +kernel, by decide +kernel⟩
def w_sequence (F_check_two : FSpec) (F_dealt : FSpec) : DS := sSeq (sDrop (dCall 2 F_check_two (aCons (dVar 0) (aCons (dVar 1) aNil)))) (sRet (dCB gTuple (aCons (dCall 2 F_dealt (aCons (dVar 0) (aCons (dVar 1) aNil))) aNil)))
theorem b_sequence {F_check_two : FSpec} {F_dealt : FSpec} (g : Glb mg) (c_check_two : Cal P w K mg base 7 "check_two" (spF 2 F_check_two K)) (c_dealt : Cal P w K mg base 2 "dealt" (spF 2 F_dealt K)) (cdv : Value) (A : Around) (outer : List PySem.Env) (s : Shared) (H : Hp) (E : XK) (hr : Room 7 (A.deeper (envOfC "sequence" (defScope s_sequence) s.heap.objs.size f cdv))) :
    PSsd (cxOf CX0 P w K mg base N_sequence "sequence" (defScope s_sequence) f cdv A outer s H E).nox (defBody s_sequence) (w_sequence F_check_two F_dealt) := by
  unfold w_sequence
  exact dss_cons (ds_expr (de_call c_check_two hr (by decide) (by rfl) (da_cons (de_var (pv 0)) (da_cons (de_var (pv 1)) da_nil)))) (dss_one (ds_ret (de_callTy1 cd_tuple (by rfl) g.b_tuple rfl ((de_call c_dealt hr (by decide) (by rfl) (da_cons (de_var (pv 0)) (da_cons (de_var (pv 1)) da_nil))).toS))))
theorem e_sequence (a0 a1 : D) : env0 N_sequence [a0, a1] = [.fz a0, .fz a1] := rfl
theorem cal_sequence {F : FSpec} {F_check_two : FSpec} {F_dealt : FSpec} (D : DefOk K mg "sequence" s_sequence p_sequence) (g : Glb mg) (c_check_two : Cal P w K mg base 7 "check_two" (spF 2 F_check_two K)) (c_dealt : Cal P w K mg base 2 "dealt" (spF 2 F_dealt K)) (hF : ∀ as R, as.length = 2 → F as R → w_sequence F_check_two F_dealt { nx := fun _ => R .non, rt := fun d _ => R d } (env0 N_sequence as)) : Cal P w K mg base 8 "sequence" (spF 2 F K) := by
  obtain ⟨fa, fd, Fn, hm, hb⟩ := D.ex
  exact ⟨fa, fd, p_sequence, fn_pure Fn sc_sequence (fun cdv A outer s H E hr => b_sequence g c_check_two c_dealt cdv A outer s H E hr) hF, hm, Fn.kp, hb⟩
/-! ### next_one -/
abbrev s_next_one : Stmt := topS 39
abbrev N_next_one : List Str := ["votes", "rule", "found", "held", "best", "party", "divisors", "seats", "bar"]
abbrev p_next_one : List Str := ["votes", "rule"]
theorem sc_next_one : FnScope N_next_one p_next_one (defScope s_next_one) := ⟨rfl, rfl, rfl, by decide +kernel, rfl, by decide +kernel, by decide +kernel⟩
def w_next_one (F_check_two : FSpec) (F_dealt : FSpec) (F_is_below : FSpec) (F_is_ahead : FSpec) : DS := sSeq (sDrop (dCall 2 F_check_two (aCons (dVar 0) (aCons (dVar 1) aNil)))) (sSeq (sAsg (dVar 1) (.tp [.nm 6, .nm 7, .nm 8])) (sSeq (sAsg (dCall 2 F_dealt (aCons (dVar 0) (aCons (dVar 1) aNil))) (.nm 2)) (sSeq (sOwnD 3 (fDc (iRan1 (dCB gLen (aCons (dVar 0) aNil))) (.nm 5) (tNot1 (tB1 (dCall 3 F_is_below (aCons (dVar 0) (aCons (dVar 8) (aCons (dVar 5) aNil)))))) (dVar 5) (dCount (dVar 2) (dVar 5)) [5])) (sSeq (sIf (tB1 (dBin (gIn false) (dCB gLen (aCons (dVar 6) aNil)) (dListVals 3))) (sRet (dC .non)) sNext) (sSeq (sAsg (dC .non) (.nm 4)) (sSeq (sKeys 3 (.nm 5) (sIf (tOr1 (tB1 (dBin gIsN (dVar 4) (dC .non))) (tB1 (dCall 4 F_is_ahead (aCons (dVar 0) (aCons (dVar 6) (aCons (dTup (aCons (dVar 5) (aCons (dDGet 3 (dVar 5)) aNil))) (aCons (dTup (aCons (dVar 4) (aCons (dDGet 3 (dVar 4)) aNil))) aNil))))))) (sAsg (dVar 5) (.nm 4)) sNext)) (sRet (dVar 4))))))))
theorem b_next_one {F_check_two : FSpec} {F_dealt : FSpec} {F_is_below : FSpec} {F_is_ahead : FSpec} (g : Glb mg) (c_check_two : Cal P w K mg base 7 "check_two" (spF 2 F_check_two K)) (c_dealt : Cal P w K mg base 2 "dealt" (spF 2 F_dealt K)) (c_is_below : Cal P w K mg base 1 "is_below" (spF 3 F_is_below K)) (c_is_ahead : Cal P w K mg base 1 "is_ahead" (spF 4 F_is_ahead K)) (cdv : Value) (A : Around) (outer : List PySem.Env) (s : Shared) (H : Hp) (E : XK) (hr : Room 7 (A.deeper (envOfC "next_one" (defScope s_next_one) s.heap.objs.size f cdv))) :
    PSsd (cxOf CX0 P w K mg base N_next_one "next_one" (defScope s_next_one) f cdv A outer s H E).nox (defBody s_next_one) (w_next_one F_check_two F_dealt F_is_below F_is_ahead) := by
  unfold w_next_one
  exact dss_cons (ds_expr (de_call c_check_two hr (by decide) (by rfl) (da_cons (de_var (pv 0)) (da_cons (de_var (pv 1)) da_nil)))) (dss_cons (ds_asg (de_var (pv 1)) (pgd_tp rfl (pgsd_cons (pgd_nm (pg_name (i := 6) sc_next_one.nd rfl (by first | exact .inl rfl | exact .inr rfl))) (pgsd_cons (pgd_nm (pg_name (i := 7) sc_next_one.nd rfl (by first | exact .inl rfl | exact .inr rfl))) (pgsd_cons (pgd_nm (pg_name (i := 8) sc_next_one.nd rfl (by first | exact .inl rfl | exact .inr rfl))) pgsd_nil))))) (dss_cons (ds_set (ps_set (i := 2) sc_next_one.nd rfl (by first | exact .inl rfl | exact .inr rfl) (de_call c_dealt hr (by decide) (by rfl) (da_cons (de_var (pv 0)) (da_cons (de_var (pv 1)) da_nil))))) (dss_cons (ds_ownDc (ps_setDc (i := 3) (own := [("party", 5)]) rfl sc_next_one.nd rfl rfl (sw_trueD rfl rfl rfl (by decide +kernel)) (di_ran1 (by rfl) g.b_range (de_callB1 cd_len (by rfl) g.b_len rfl ((de_var (pv 0)).toS))) (blkOk_by (by show blkC N_next_one (defScope s_next_one) _ [("party", 5)] = true; decide +kernel)) (fun _ _ _ _ _ => pgd_nm (pg_name (i := 5) sc_next_one.nd rfl (by first | exact .inl rfl | exact .inr rfl))) (fun _ _ _ _ _ => dts_one (dt_not (dt_val (de_call c_is_below hr (by decide) (by rfl) (da_cons (de_var (pv 0)) (da_cons (de_var (pv 8)) (da_cons (de_var (pv 5)) da_nil))))))) (fun _ _ _ _ _ => de_var (pv 5)) (fun _ _ _ _ _ => de_count (de_var (pv 2)) (de_var (pv 5)))) rfl (by decide)) (dss_cons (ds_if (dt_cmp opd_in (de_callB1 cd_len (by rfl) g.b_len rfl ((de_var (pv 6)).toS)) ((de_listVals rfl (pv 3) (by rfl) g.b_list rfl).toS) (by rfl)) (dss_one (ds_ret de_non)) dss_nil) (dss_cons (ds_set (ps_set (i := 4) sc_next_one.nd rfl (by first | exact .inl rfl | exact .inr rfl) de_non)) (dss_cons (ds_keys PassesOwn.never rfl (pv 3) (pgd_nm (pg_name (i := 5) sc_next_one.nd rfl (by first | exact .inl rfl | exact .inr rfl))) (dss_one (ds_if (dt_pw (dw_or (dt_cmp opd_isN (de_var (pv 4)) ((de_non).toS) (nomark _)) (dw_or1 (dt_val (de_call c_is_ahead hr (by decide) (by rfl) (da_cons (de_var (pv 0)) (da_cons (de_var (pv 6)) (da_cons (de_tup (da_cons (de_var (pv 5)) (da_cons (de_dget (hu_of hr) (pv 3) (de_var (pv 5)) (fun _ _ => rfl)) da_nil))) (da_cons (de_tup (da_cons (de_var (pv 4)) (da_cons (de_dget (hu_of hr) (pv 3) (de_var (pv 4)) (fun _ _ => rfl)) da_nil))) da_nil))))))))) (dss_one (ds_set (ps_set (i := 4) sc_next_one.nd rfl (by first | exact .inl rfl | exact .inr rfl) (de_var (pv 5))))) dss_nil))) (dss_one (ds_ret (de_var (pv 4))))))))))
theorem e_next_one (a0 a1 : D) : env0 N_next_one [a0, a1] = [.fz a0, .fz a1, .no, .no, .no, .no, .no, .no, .no] := rfl
theorem cal_next_one {F : FSpec} {F_check_two : FSpec} {F_dealt : FSpec} {F_is_below : FSpec} {F_is_ahead : FSpec} (D : DefOk K mg "next_one" s_next_one p_next_one) (g : Glb mg) (c_check_two : Cal P w K mg base 7 "check_two" (spF 2 F_check_two K)) (c_dealt : Cal P w K mg base 2 "dealt" (spF 2 F_dealt K)) (c_is_below : Cal P w K mg base 1 "is_below" (spF 3 F_is_below K)) (c_is_ahead : Cal P w K mg base 1 "is_ahead" (spF 4 F_is_ahead K)) (hF : ∀ as R, as.length = 2 → F as R → w_next_one F_check_two F_dealt F_is_below F_is_ahead { nx := fun _ => R .non, rt := fun d _ => R d } (env0 N_next_one as)) : Cal P w K mg base 8 "next_one" (spF 2 F K) := by
  obtain ⟨fa, fd, Fn, hm, hb⟩ := D.ex
  exact ⟨fa, fd, p_next_one, fn_pure Fn sc_next_one (fun cdv A outer s H E hr => b_next_one g c_check_two c_dealt c_is_below c_is_ahead cdv A outer s H E hr) hF, hm, Fn.kp, hb⟩
/-! ### least_terms -/
abbrev s_least_terms : Stmt := topS 14
abbrev N_least_terms : List Str := ["top", "low", "common"]
abbrev p_least_terms : List Str := ["top", "low"]
theorem sc_least_terms : FnScope N_least_terms p_least_terms (defScope s_least_terms) := ⟨rfl, rfl, rfl, by decide +kernel, rfl, by decide +kernel, by decide +kernel⟩
def w_least_terms : DS := sSeq (sAsg (dCB gGcd (aCons (dVar 0) (aCons (dVar 1) aNil))) (.nm 2)) (sRet (dTup (aCons (dBin gDiv (dVar 0) (dVar 2)) (aCons (dBin gDiv (dVar 1) (dVar 2)) aNil))))
theorem b_least_terms (g : Glb mg) (cdv : Value) (A : Around) (outer : List PySem.Env) (s : Shared) (H : Hp) (E : XK) (hr : Room 0 (A.deeper (envOfC "least_terms" (defScope s_least_terms) s.heap.objs.size f cdv))) :
    PSsd (cxOf CX0 P w K mg base N_least_terms "least_terms" (defScope s_least_terms) f cdv A outer s H E).nox (defBody s_least_terms) (w_least_terms) := by
  unfold w_least_terms
  exact dss_cons (ds_set (ps_set (i := 2) sc_least_terms.nd rfl (by first | exact .inl rfl | exact .inr rfl) (de_callBf cd_gcd (by rfl) g.f_gcd (da_cons (de_var (pv 0)) (da_cons (de_var (pv 1)) da_nil))))) (dss_one (ds_ret (de_tup (da_cons (de_bin opd_divA (de_var (pv 0)) ((de_var (pv 2)).toS)) (da_cons (de_bin opd_divA (de_var (pv 1)) ((de_var (pv 2)).toS)) da_nil)))))
theorem e_least_terms (a0 a1 : D) : env0 N_least_terms [a0, a1] = [.fz a0, .fz a1, .no] := rfl
theorem cal_least_terms {F : FSpec} (D : DefOk K mg "least_terms" s_least_terms p_least_terms) (g : Glb mg) (hF : ∀ as R, as.length = 2 → F as R → w_least_terms { nx := fun _ => R .non, rt := fun d _ => R d } (env0 N_least_terms as)) : Cal P w K mg base 1 "least_terms" (spF 2 F K) := by
  obtain ⟨fa, fd, Fn, hm, hb⟩ := D.ex
  exact ⟨fa, fd, p_least_terms, fn_pure Fn sc_least_terms (fun cdv A outer s H E hr => b_least_terms g cdv A outer s H E hr) hF, hm, Fn.kp, hb⟩
/-! ### price -/
abbrev s_price : Stmt := topS 41
abbrev N_price : List Str := ["votes", "rule", "found"]
abbrev p_price : List Str := ["votes", "rule"]
theorem sc_price : FnScope N_price p_price (defScope s_price) := ⟨rfl, rfl, rfl, by decide +kernel, rfl, by decide +kernel, by decide +kernel⟩
def w_price (F_check_two : FSpec) (F_dealt : FSpec) (F_least_terms : FSpec) : DS := sSeq (sDrop (dCall 2 F_check_two (aCons (dVar 0) (aCons (dVar 1) aNil)))) (sSeq (sAsg (dCall 2 F_dealt (aCons (dVar 0) (aCons (dVar 1) aNil))) (.nm 2)) (sRet (dCall 2 F_least_terms (aCons (dBin gIx (dVar 0) (dBin gIx (dVar 2) (dNeg (dC (.int 1))))) (aCons (dBin gIx (dBin gIx (dVar 1) (dC (.int 0))) (dBin gSub (dCount (dVar 2) (dBin gIx (dVar 2) (dNeg (dC (.int 1))))) (dC (.int 1)))) aNil)))))
theorem b_price {F_check_two : FSpec} {F_dealt : FSpec} {F_least_terms : FSpec} (g : Glb mg) (c_check_two : Cal P w K mg base 7 "check_two" (spF 2 F_check_two K)) (c_dealt : Cal P w K mg base 2 "dealt" (spF 2 F_dealt K)) (c_least_terms : Cal P w K mg base 1 "least_terms" (spF 2 F_least_terms K)) (cdv : Value) (A : Around) (outer : List PySem.Env) (s : Shared) (H : Hp) (E : XK) (hr : Room 7 (A.deeper (envOfC "price" (defScope s_price) s.heap.objs.size f cdv))) :
    PSsd (cxOf CX0 P w K mg base N_price "price" (defScope s_price) f cdv A outer s H E).nox (defBody s_price) (w_price F_check_two F_dealt F_least_terms) := by
  unfold w_price
  exact dss_cons (ds_expr (de_call c_check_two hr (by decide) (by rfl) (da_cons (de_var (pv 0)) (da_cons (de_var (pv 1)) da_nil)))) (dss_cons (ds_set (ps_set (i := 2) sc_price.nd rfl (by first | exact .inl rfl | exact .inr rfl) (de_call c_dealt hr (by decide) (by rfl) (da_cons (de_var (pv 0)) (da_cons (de_var (pv 1)) da_nil))))) (dss_one (ds_ret (de_call c_least_terms hr (by decide) (by rfl) (da_cons (de_ix ixd_ix (de_var (pv 0)) ((de_ix ixd_ix (de_var (pv 2)) ((de_neg de_int).toS) (fun _ _ => rfl)).toS) (fun _ _ => rfl)) (da_cons (de_ix ixd_ix (de_ix ixd_ix (de_var (pv 1)) ((de_int).toS) (fun _ _ => rfl)) ((de_bin opd_subA (de_count (de_var (pv 2)) (de_ix ixd_ix (de_var (pv 2)) ((de_neg de_int).toS) (fun _ _ => rfl))) ((de_int).toS)).toS) (fun _ _ => rfl)) da_nil))))))
theorem e_price (a0 a1 : D) : env0 N_price [a0, a1] = [.fz a0, .fz a1, .no] := rfl
theorem cal_price {F : FSpec} {F_check_two : FSpec} {F_dealt : FSpec} {F_least_terms : FSpec} (D : DefOk K mg "price" s_price p_price) (g : Glb mg) (c_check_two : Cal P w K mg base 7 "check_two" (spF 2 F_check_two K)) (c_dealt : Cal P w K mg base 2 "dealt" (spF 2 F_dealt K)) (c_least_terms : Cal P w K mg base 1 "least_terms" (spF 2 F_least_terms K)) (hF : ∀ as R, as.length = 2 → F as R → w_price F_check_two F_dealt F_least_terms { nx := fun _ => R .non, rt := fun d _ => R d } (env0 N_price as)) : Cal P w K mg base 8 "price" (spF 2 F K) := by
  obtain ⟨fa, fd, Fn, hm, hb⟩ := D.ex
  exact ⟨fa, fd, p_price, fn_pure Fn sc_price (fun cdv A outer s H E hr => b_price g c_check_two c_dealt c_least_terms cdv A outer s H E hr) hF, hm, Fn.kp, hb⟩
/-! ### below -/
abbrev s_below : Stmt := topS 40
abbrev N_below : List Str := ["votes", "rule", "party"]
abbrev p_below : List Str := ["votes", "rule"]
theorem sc_below : FnScope N_below p_below (defScope s_below) := ⟨rfl, rfl, rfl, by decide +kernel, rfl, by decide +kernel, by decide +kernel⟩
def w_below (F_check_two : FSpec) (F_is_below : FSpec) : DS := sSeq (sDrop (dCall 2 F_check_two (aCons (dVar 0) (aCons (dVar 1) aNil)))) (sRet (dCB gTuple (aCons (dFz (fLc (iRan1 (dCB gLen (aCons (dVar 0) aNil))) (.nm 2) (tB1 (dCall 3 F_is_below (aCons (dVar 0) (aCons (dBin gIx (dVar 1) (dC (.int 2))) (aCons (dVar 2) aNil))))) (dVar 2) [2])) aNil)))
theorem b_below {F_check_two : FSpec} {F_is_below : FSpec} (g : Glb mg) (c_check_two : Cal P w K mg base 7 "check_two" (spF 2 F_check_two K)) (c_is_below : Cal P w K mg base 1 "is_below" (spF 3 F_is_below K)) (cdv : Value) (A : Around) (outer : List PySem.Env) (s : Shared) (H : Hp) (E : XK) (hr : Room 7 (A.deeper (envOfC "below" (defScope s_below) s.heap.objs.size f cdv))) :
    PSsd (cxOf CX0 P w K mg base N_below "below" (defScope s_below) f cdv A outer s H E).nox (defBody s_below) (w_below F_check_two F_is_below) := by
  unfold w_below
  exact dss_cons (ds_expr (de_call c_check_two hr (by decide) (by rfl) (da_cons (de_var (pv 0)) (da_cons (de_var (pv 1)) da_nil)))) (dss_one (ds_ret (de_callTy1 cd_tuple (by rfl) g.b_tuple rfl ((de_fz (df_lc (own := [("party", 2)]) rfl sc_below.nd (di_ran1 (by rfl) g.b_range (de_callB1 cd_len (by rfl) g.b_len rfl ((de_var (pv 0)).toS))) (blkOk_by (by show blkC N_below (defScope s_below) _ [("party", 2)] = true; decide +kernel)) (fun _ _ _ _ _ => pgd_nm (pg_name (i := 2) sc_below.nd rfl (by first | exact .inl rfl | exact .inr rfl))) (fun _ _ _ _ _ => dts_one (dt_val (de_call c_is_below hr (by decide) (by rfl) (da_cons (de_var (pv 0)) (da_cons (de_ix ixd_ix (de_var (pv 1)) ((de_int).toS) (fun _ _ => rfl)) (da_cons (de_var (pv 2)) da_nil)))))) (fun _ _ _ _ _ => de_var (pv 2)) rfl (by decide))).toS))))
theorem e_below (a0 a1 : D) : env0 N_below [a0, a1] = [.fz a0, .fz a1, .no] := rfl
theorem cal_below {F : FSpec} {F_check_two : FSpec} {F_is_below : FSpec} (D : DefOk K mg "below" s_below p_below) (g : Glb mg) (c_check_two : Cal P w K mg base 7 "check_two" (spF 2 F_check_two K)) (c_is_below : Cal P w K mg base 1 "is_below" (spF 3 F_is_below K)) (hF : ∀ as R, as.length = 2 → F as R → w_below F_check_two F_is_below { nx := fun _ => R .non, rt := fun d _ => R d } (env0 N_below as)) : Cal P w K mg base 8 "below" (spF 2 F K) := by
  obtain ⟨fa, fd, Fn, hm, hb⟩ := D.ex
  exact ⟨fa, fd, p_below, fn_pure Fn sc_below (fun cdv A outer s H E hr => b_below g c_check_two c_is_below cdv A outer s H E hr) hF, hm, Fn.kp, hb⟩
/-! ### with_seats -/
abbrev s_with_seats : Stmt := topS 42
abbrev N_with_seats : List Str := ["rule", "seats"]
abbrev p_with_seats : List Str := ["rule", "seats"]
theorem sc_with_seats : FnScope N_with_seats p_with_seats (defScope s_with_seats) := ⟨rfl, rfl, rfl, by decide +kernel, rfl, by decide +kernel, by decide +kernel⟩
def w_with_seats (F_check_rule : FSpec) (F_is_between : FSpec) : DS := sSeq (sDrop (dCall 2 F_check_rule (aCons (dVar 0) (aCons (dC (.int 1)) aNil)))) (sSeq (sIf (tNot1 (tB1 (dCall 3 F_is_between (aCons (dVar 1) (aCons (dC (.int 1)) (aCons (dCB gLen (aCons (dBin gIx (dVar 0) (dC (.int 0))) aNil)) aNil)))))) sNever sNext) (sRet (dTup (aCons (dBin gIx (dVar 0) (dC (.int 0))) (aCons (dVar 1) (aCons (dBin gIx (dVar 0) (dC (.int 2))) aNil))))))
theorem b_with_seats {F_check_rule : FSpec} {F_is_between : FSpec} (g : Glb mg) (c_check_rule : Cal P w K mg base 6 "check_rule" (spF 2 F_check_rule K)) (c_is_between : Cal P w K mg base 2 "is_between" (spF 3 F_is_between K)) (cdv : Value) (A : Around) (outer : List PySem.Env) (s : Shared) (H : Hp) (E : XK) (hr : Room 6 (A.deeper (envOfC "with_seats" (defScope s_with_seats) s.heap.objs.size f cdv))) :
    PSsd (cxOf CX0 P w K mg base N_with_seats "with_seats" (defScope s_with_seats) f cdv A outer s H E).nox (defBody s_with_seats) (w_with_seats F_check_rule F_is_between) := by
  unfold w_with_seats
  exact dss_cons (ds_expr (de_call c_check_rule hr (by decide) (by rfl) (da_cons (de_var (pv 0)) (da_cons de_int da_nil)))) (dss_cons (ds_if (dt_not (dt_val (de_call c_is_between hr (by decide) (by rfl) (da_cons (de_var (pv 1)) (da_cons de_int (da_cons (de_callB1 cd_len (by rfl) g.b_len rfl ((de_ix ixd_ix (de_var (pv 0)) ((de_int).toS) (fun _ _ => rfl)).toS)) da_nil)))))) dss_never dss_nil) (dss_one (ds_ret (de_tup (da_cons (de_ix ixd_ix (de_var (pv 0)) ((de_int).toS) (fun _ _ => rfl)) (da_cons (de_var (pv 1)) (da_cons (de_ix ixd_ix (de_var (pv 0)) ((de_int).toS) (fun _ _ => rfl)) da_nil)))))))
theorem e_with_seats (a0 a1 : D) : env0 N_with_seats [a0, a1] = [.fz a0, .fz a1] := rfl
theorem cal_with_seats {F : FSpec} {F_check_rule : FSpec} {F_is_between : FSpec} (D : DefOk K mg "with_seats" s_with_seats p_with_seats) (g : Glb mg) (c_check_rule : Cal P w K mg base 6 "check_rule" (spF 2 F_check_rule K)) (c_is_between : Cal P w K mg base 2 "is_between" (spF 3 F_is_between K)) (hF : ∀ as R, as.length = 2 → F as R → w_with_seats F_check_rule F_is_between { nx := fun _ => R .non, rt := fun d _ => R d } (env0 N_with_seats as)) : Cal P w K mg base 7 "with_seats" (spF 2 F K) := by
  obtain ⟨fa, fd, Fn, hm, hb⟩ := D.ex
  exact ⟨fa, fd, p_with_seats, fn_pure Fn sc_with_seats (fun cdv A outer s H E hr => b_with_seats g c_check_rule c_is_between cdv A outer s H E hr) hF, hm, Fn.kp, hb⟩
/-! ### _law_is_more_right -/
abbrev s__law_is_more_right : Stmt := topS 64
abbrev N__law_is_more_right : List Str := ["pot", "votes", "rule", "told", "here", "one", "number", "plain", "other", "joined", "both", "free", "party", "more", "first", "last"]
abbrev p__law_is_more_right : List Str := ["pot", "votes", "rule", "told"]
theorem sc__law_is_more_right : FnScope N__law_is_more_right p__law_is_more_right (defScope s__law_is_more_right) := ⟨rfl, rfl, rfl, by decide +kernel, rfl, by decide +kernel, by decide +kernel⟩
def w__law_is_more_right (F__law_take : PSpec) (F_seating : FSpec) : DS := sSeq (sAsg (dTup (aCons (dTup (aCons (dBin gIx (dVar 2) (dC (.int 0))) (aCons (dBin gIx (dVar 2) (dC (.int 1))) (aCons (dC (.int 0)) aNil)))) (aCons (dCallP 1 F__law_take 0 (aCons (dCB gLen (aCons (dVar 1) aNil)) aNil)) aNil))) (.tp [.nm 11, .nm 12])) (sSeq (sAsg (dCall 2 F_seating (aCons (dVar 1) (aCons (dVar 11) aNil))) (.nm 4)) (sSeq (sIf (tB1 (dBin gLt (dBin gIx (dVar 1) (dVar 12)) (dBin gPow (dC (.int 10)) (dC (.int 9))))) (sSeq (sAsg (dCall 2 F_seating (aCons (dBin gAdd (dBin gAdd (dSlice (dVar 1) oNone (oSome (dVar 12))) (dTup (aCons (dBin gAdd (dBin gIx (dVar 1) (dVar 12)) (dC (.int 1))) aNil))) (dSlice (dVar 1) (oSome (dBin gAdd (dVar 12) (dC (.int 1)))) oNone)) (aCons (dVar 11) aNil))) (.nm 13)) (sSeq (sIf (tB1 (dBin gLt (dBin gIx (dVar 13) (dVar 12)) (dBin gIx (dVar 4) (dVar 12)))) (sRet (dC (.bl false))) sNext) (sIf (tB1 (dCB gAny (aCons (dFz (fLc (iRan1 (dCB gLen (aCons (dVar 1) aNil))) (.nm 5) (tB1 (dBin gNe (dVar 5) (dVar 12))) (dBin gGt (dBin gIx (dVar 13) (dVar 5)) (dBin gIx (dVar 4) (dVar 5))) [5])) aNil))) (sRet (dC (.bl false))) sNext))) sNext) (sSeq (sFor (iRan1 (dCB gLen (aCons (dVar 1) aNil))) (.nm 5) (sIf (tB1 (dCB gAny (aCons (dFz (fLc (iRan1 (dCB gLen (aCons (dVar 1) aNil))) (.nm 8) tYes1 (dAnd (dBin gGt (dBin gIx (dVar 1) (dVar 5)) (dBin gIx (dVar 1) (dVar 8))) (dBin gLt (dBin gIx (dVar 3) (dVar 5)) (dBin gIx (dVar 3) (dVar 8)))) [8])) aNil))) (sRet (dC (.bl false))) sNext)) (sSeq (sAsg (dBin gAdd (dC (.int 2)) (dCallP 1 F__law_take 0 (aCons (dC (.int 8)) aNil))) (.nm 6)) (sSeq (sIf (tAnd1 (tB1 (dBin gLe (dBin gMul (dCB gMax1 (aCons (dVar 1) aNil)) (dVar 6)) (dBin gPow (dC (.int 10)) (dC (.int 9))))) (tB1 (dBin gNe (dCall 2 F_seating (aCons (dCB gTuple (aCons (dFz (fLc (iSeq (dVar 1)) (.nm 5) tYes1 (dBin gMul (dVar 6) (dVar 5)) [5])) aNil)) (aCons (dVar 2) aNil))) (dVar 3)))) (sRet (dC (.bl false))) sNext) (sSeq (sIf (tB1 (dBin gLe (dBin gMul (dBin gIx (dBin gIx (dVar 2) (dC (.int 0))) (dNeg (dC (.int 1)))) (dVar 6)) (dBin gPow (dC (.int 10)) (dC (.int 6))))) (sIf (tB1 (dBin gNe (dCall 2 F_seating (aCons (dVar 1) (aCons (dTup (aCons (dCB gTuple (aCons (dFz (fLc (iSeq (dBin gIx (dVar 2) (dC (.int 0)))) (.nm 5) tYes1 (dBin gMul (dVar 6) (dVar 5)) [5])) aNil)) (aCons (dBin gIx (dVar 2) (dC (.int 1))) (aCons (dBin gIx (dVar 2) (dC (.int 2))) aNil)))) aNil))) (dVar 3))) (sRet (dC (.bl false))) sNext) sNext) (sSeq (sIf (tB1 (dBin gLt (dCB gLen (aCons (dVar 1) aNil)) (dC (.int 2)))) (sRet (dC (.bl true))) sNext) (sSeq (sAsg (dTup (aCons (dTupRg2 (dC (.int 1)) (dBin gAdd (dCB gLen (aCons (dBin gIx (dVar 2) (dC (.int 0))) aNil)) (dC (.int 1)))) (aCons (dBin gIx (dVar 2) (dC (.int 1))) (aCons (dC (.int 0)) aNil)))) (.nm 7)) (sSeq (sAsg (dBin gMod (dCB gInt1 (aCons (dBin gAdd (dBin gAdd (dVar 12) (dC (.int 1))) (dCallP 1 F__law_take 0 (aCons (dBin gSub (dCB gLen (aCons (dVar 1) aNil)) (dC (.int 1))) aNil))) aNil)) (dCB gLen (aCons (dVar 1) aNil))) (.nm 8)) (sSeq (sPar 14 15 (dCB gMin2 (aCons (dVar 12) (aCons (dVar 8) aNil))) (dCB gMax2 (aCons (dVar 12) (aCons (dVar 8) aNil)))) (sSeq (sIf (tB1 (dBin gGt (dBin gAdd (dBin gIx (dVar 1) (dVar 14)) (dBin gIx (dVar 1) (dVar 15))) (dBin gPow (dC (.int 10)) (dC (.int 9))))) (sRet (dC (.bl true))) sNext) (sSeq (sAsg (dBin gAdd (dBin gAdd (dBin gAdd (dSlice (dVar 1) oNone (oSome (dVar 14))) (dTup (aCons (dBin gAdd (dBin gIx (dVar 1) (dVar 14)) (dBin gIx (dVar 1) (dVar 15))) aNil))) (dSlice (dVar 1) (oSome (dBin gAdd (dVar 14) (dC (.int 1)))) (oSome (dVar 15)))) (dSlice (dVar 1) (oSome (dBin gAdd (dVar 15) (dC (.int 1)))) oNone)) (.nm 9)) (sSeq (sAsg (dCall 2 F_seating (aCons (dVar 1) (aCons (dVar 7) aNil))) (.nm 10)) (sRet (dBin gGe (dBin gIx (dCall 2 F_seating (aCons (dVar 9) (aCons (dVar 7) aNil))) (dVar 14)) (dBin gAdd (dBin gIx (dVar 10) (dVar 14)) (dBin gIx (dVar 10) (dVar 15))))))))))))))))))
theorem b__law_is_more_right {F__law_take : PSpec} {F_seating : FSpec} (g : Glb mg) (c__law_take : Cal P w K mg base 1 "_law_take" (spP 1 F__law_take K)) (c_seating : Cal P w K mg base 8 "seating" (spF 2 F_seating K)) (cdv : Value) (A : Around) (outer : List PySem.Env) (s : Shared) (H : Hp) (E : XK) (hr : Room 8 (A.deeper (envOfC "_law_is_more_right" (defScope s__law_is_more_right) s.heap.objs.size f cdv))) :
    PSsd (cxOf CX0 P w K mg base N__law_is_more_right "_law_is_more_right" (defScope s__law_is_more_right) f cdv A outer s H E).nox (defBody s__law_is_more_right) (w__law_is_more_right F__law_take F_seating) := by
  unfold w__law_is_more_right
  exact dss_cons (ds_asg (de_tup (da_cons (de_tup (da_cons (de_ix ixd_ix (de_var (pv 2)) ((de_int).toS) (fun _ _ => rfl)) (da_cons (de_ix ixd_ix (de_var (pv 2)) ((de_int).toS) (fun _ _ => rfl)) (da_cons de_int da_nil)))) (da_cons (de_callP c__law_take hr (by decide) (by rfl) (pv 0) (da_cons (de_callB1 cd_len (by rfl) g.b_len rfl ((de_var (pv 1)).toS)) da_nil)) da_nil))) (pgd_tp rfl (pgsd_cons (pgd_nm (pg_name (i := 11) sc__law_is_more_right.nd rfl (by first | exact .inl rfl | exact .inr rfl))) (pgsd_cons (pgd_nm (pg_name (i := 12) sc__law_is_more_right.nd rfl (by first | exact .inl rfl | exact .inr rfl))) pgsd_nil)))) (dss_cons (ds_set (ps_set (i := 4) sc__law_is_more_right.nd rfl (by first | exact .inl rfl | exact .inr rfl) (de_call c_seating hr (by decide) (by rfl) (da_cons (de_var (pv 1)) (da_cons (de_var (pv 11)) da_nil))))) (dss_cons (ds_if (dt_cmp (opd_lt hr.units) (de_ix ixd_ix (de_var (pv 1)) ((de_var (pv 12)).toS) (fun _ _ => rfl)) ((de_bin opd_powA de_int ((de_int).toS)).toS) (nomark _)) (dss_cons (ds_set (ps_set (i := 13) sc__law_is_more_right.nd rfl (by first | exact .inl rfl | exact .inr rfl) (de_call c_seating hr (by decide) (by rfl) (da_cons (de_bin opd_add (de_bin opd_add (de_slice (de_var (pv 1)) do_none (do_some (de_var (pv 12)))) ((de_tup (da_cons (de_bin opd_add (de_ix ixd_ix (de_var (pv 1)) ((de_var (pv 12)).toS) (fun _ _ => rfl)) ((de_int).toS)) da_nil)).toS)) ((de_slice (de_var (pv 1)) (do_some (de_bin opd_add (de_var (pv 12)) ((de_int).toS))) do_none).toS)) (da_cons (de_var (pv 11)) da_nil))))) (dss_cons (ds_if (dt_cmp (opd_lt hr.units) (de_ix ixd_ix (de_var (pv 13)) ((de_var (pv 12)).toS) (fun _ _ => rfl)) ((de_ix ixd_ix (de_var (pv 4)) ((de_var (pv 12)).toS) (fun _ _ => rfl)).toS) (nomark _)) (dss_one (ds_ret de_bl)) dss_nil) (dss_one (ds_if (dt_val (de_callB1 (cd_any rfl) (by rfl) g.b_any rfl ((de_fz (df_lc (own := [("one", 5)]) rfl sc__law_is_more_right.nd (di_ran1 (by rfl) g.b_range (de_callB1 cd_len (by rfl) g.b_len rfl ((de_var (pv 1)).toS))) (blkOk_by (by show blkC N__law_is_more_right (defScope s__law_is_more_right) _ [("one", 5)] = true; decide +kernel)) (fun _ _ _ _ _ => pgd_nm (pg_name (i := 5) sc__law_is_more_right.nd rfl (by first | exact .inl rfl | exact .inr rfl))) (fun _ _ _ _ _ => dts_one (dt_cmp (opd_ne hr.units) (de_var (pv 5)) ((de_var (pv 12)).toS) (nomark _))) (fun _ _ _ _ _ => de_cmp (opd_gt hr.units) (de_ix ixd_ix (de_var (pv 13)) ((de_var (pv 5)).toS) (fun _ _ => rfl)) ((de_ix ixd_ix (de_var (pv 4)) ((de_var (pv 5)).toS) (fun _ _ => rfl)).toS) (nomark _)) rfl (by decide))).toS))) (dss_one (ds_ret de_bl)) dss_nil)))) dss_nil) (dss_cons (ds_for PassesOwn.never rfl (di_ran1 (by rfl) g.b_range (de_callB1 cd_len (by rfl) g.b_len rfl ((de_var (pv 1)).toS))) (pgd_nm (pg_name (i := 5) sc__law_is_more_right.nd rfl (by first | exact .inl rfl | exact .inr rfl))) (dss_one (ds_if (dt_val (de_callB1 (cd_any rfl) (by rfl) g.b_any rfl ((de_fz (df_lc (own := [("other", 8)]) rfl sc__law_is_more_right.nd (di_ran1 (by rfl) g.b_range (de_callB1 cd_len (by rfl) g.b_len rfl ((de_var (pv 1)).toS))) (blkOk_by (by show blkC N__law_is_more_right (defScope s__law_is_more_right) _ [("other", 8)] = true; decide +kernel)) (fun _ _ _ _ _ => pgd_nm (pg_name (i := 8) sc__law_is_more_right.nd rfl (by first | exact .inl rfl | exact .inr rfl))) (fun _ _ _ _ _ => dts_nil) (fun _ _ _ _ _ => de_and (de_cmp (opd_gt hr.units) (de_ix ixd_ix (de_var (pv 1)) ((de_var (pv 5)).toS) (fun _ _ => rfl)) ((de_ix ixd_ix (de_var (pv 1)) ((de_var (pv 8)).toS) (fun _ _ => rfl)).toS) (nomark _)) (de_one (de_cmp (opd_lt hr.units) (de_ix ixd_ix (de_var (pv 3)) ((de_var (pv 5)).toS) (fun _ _ => rfl)) ((de_ix ixd_ix (de_var (pv 3)) ((de_var (pv 8)).toS) (fun _ _ => rfl)).toS) (nomark _)))) rfl (by decide))).toS))) (dss_one (ds_ret de_bl)) dss_nil))) (dss_cons (ds_set (ps_set (i := 6) sc__law_is_more_right.nd rfl (by first | exact .inl rfl | exact .inr rfl) (de_bin opd_add de_int ((de_callP c__law_take hr (by decide) (by rfl) (pv 0) (da_cons de_int da_nil)).toS)))) (dss_cons (ds_if (dt_pw (dw_and (dt_cmp (opd_le hr.units) (de_bin opd_mulA (de_callB1 (cd_max1 rfl hr.units) (by rfl) g.b_max rfl ((de_var (pv 1)).toS)) ((de_var (pv 6)).toS)) ((de_bin opd_powA de_int ((de_int).toS)).toS) (nomark _)) (dw_and1 (dt_cmp (opd_ne hr.units) (de_call c_seating hr (by decide) (by rfl) (da_cons (de_callTy1 cd_tuple (by rfl) g.b_tuple rfl ((de_fz (df_lc (own := [("one", 5)]) rfl sc__law_is_more_right.nd (di_seq (de_var (pv 1))) (blkOk_by (by show blkC N__law_is_more_right (defScope s__law_is_more_right) _ [("one", 5)] = true; decide +kernel)) (fun _ _ _ _ _ => pgd_nm (pg_name (i := 5) sc__law_is_more_right.nd rfl (by first | exact .inl rfl | exact .inr rfl))) (fun _ _ _ _ _ => dts_nil) (fun _ _ _ _ _ => de_bin opd_mulA (de_var (pv 6)) ((de_var (pv 5)).toS)) rfl (by decide))).toS)) (da_cons (de_var (pv 2)) da_nil))) ((de_var (pv 3)).toS) (nomark _))))) (dss_one (ds_ret de_bl)) dss_nil) (dss_cons (ds_if (dt_cmp (opd_le hr.units) (de_bin opd_mulA (de_ix ixd_ix (de_ix ixd_ix (de_var (pv 2)) ((de_int).toS) (fun _ _ => rfl)) ((de_neg de_int).toS) (fun _ _ => rfl)) ((de_var (pv 6)).toS)) ((de_bin opd_powA de_int ((de_int).toS)).toS) (nomark _)) (dss_one (ds_if (dt_cmp (opd_ne hr.units) (de_call c_seating hr (by decide) (by rfl) (da_cons (de_var (pv 1)) (da_cons (de_tup (da_cons (de_callTy1 cd_tuple (by rfl) g.b_tuple rfl ((de_fz (df_lc (own := [("one", 5)]) rfl sc__law_is_more_right.nd (di_seq (de_ix ixd_ix (de_var (pv 2)) ((de_int).toS) (fun _ _ => rfl))) (blkOk_by (by show blkC N__law_is_more_right (defScope s__law_is_more_right) _ [("one", 5)] = true; decide +kernel)) (fun _ _ _ _ _ => pgd_nm (pg_name (i := 5) sc__law_is_more_right.nd rfl (by first | exact .inl rfl | exact .inr rfl))) (fun _ _ _ _ _ => dts_nil) (fun _ _ _ _ _ => de_bin opd_mulA (de_var (pv 6)) ((de_var (pv 5)).toS)) rfl (by decide))).toS)) (da_cons (de_ix ixd_ix (de_var (pv 2)) ((de_int).toS) (fun _ _ => rfl)) (da_cons (de_ix ixd_ix (de_var (pv 2)) ((de_int).toS) (fun _ _ => rfl)) da_nil)))) da_nil))) ((de_var (pv 3)).toS) (nomark _)) (dss_one (ds_ret de_bl)) dss_nil)) dss_nil) (dss_cons (ds_if (dt_cmp (opd_lt hr.units) (de_callB1 cd_len (by rfl) g.b_len rfl ((de_var (pv 1)).toS)) ((de_int).toS) (nomark _)) (dss_one (ds_ret de_bl)) dss_nil) (dss_cons (ds_set (ps_set (i := 7) sc__law_is_more_right.nd rfl (by first | exact .inl rfl | exact .inr rfl) (de_tup (da_cons (de_tupRg2 rfl (by rfl) g.b_tuple (by rfl) g.b_range de_int (de_bin opd_add (de_callB1 cd_len (by rfl) g.b_len rfl ((de_ix ixd_ix (de_var (pv 2)) ((de_int).toS) (fun _ _ => rfl)).toS)) ((de_int).toS))) (da_cons (de_ix ixd_ix (de_var (pv 2)) ((de_int).toS) (fun _ _ => rfl)) (da_cons de_int da_nil)))))) (dss_cons (ds_set (ps_set (i := 8) sc__law_is_more_right.nd rfl (by first | exact .inl rfl | exact .inr rfl) (de_bin opd_modA (de_callTy1 cd_int1 (by rfl) g.b_int rfl ((de_bin opd_add (de_bin opd_add (de_var (pv 12)) ((de_int).toS)) ((de_callP c__law_take hr (by decide) (by rfl) (pv 0) (da_cons (de_bin opd_subA (de_callB1 cd_len (by rfl) g.b_len rfl ((de_var (pv 1)).toS)) ((de_int).toS)) da_nil)).toS)).toS)) ((de_callB1 cd_len (by rfl) g.b_len rfl ((de_var (pv 1)).toS)).toS)))) (dss_cons (ds_par (as := []) (ps_par (i := 14) (j := 15) rfl sc__law_is_more_right.nd rfl rfl (by decide) rfl rfl (da_cons (de_callB (cd_min2 rfl) (by rfl) g.b_min rfl (da_cons (de_var (pv 12)) (da_cons (de_var (pv 8)) da_nil))) (da_cons (de_callB (cd_max2 rfl) (by rfl) g.b_max rfl (da_cons (de_var (pv 12)) (da_cons (de_var (pv 8)) da_nil))) da_nil)) rfl) (by decide)) (dss_cons (ds_if (dt_cmp (opd_gt hr.units) (de_bin opd_add (de_ix ixd_ix (de_var (pv 1)) ((de_var (pv 14)).toS) (fun _ _ => rfl)) ((de_ix ixd_ix (de_var (pv 1)) ((de_var (pv 15)).toS) (fun _ _ => rfl)).toS)) ((de_bin opd_powA de_int ((de_int).toS)).toS) (nomark _)) (dss_one (ds_ret de_bl)) dss_nil) (dss_cons (ds_set (ps_set (i := 9) sc__law_is_more_right.nd rfl (by first | exact .inl rfl | exact .inr rfl) (de_bin opd_add (de_bin opd_add (de_bin opd_add (de_slice (de_var (pv 1)) do_none (do_some (de_var (pv 14)))) ((de_tup (da_cons (de_bin opd_add (de_ix ixd_ix (de_var (pv 1)) ((de_var (pv 14)).toS) (fun _ _ => rfl)) ((de_ix ixd_ix (de_var (pv 1)) ((de_var (pv 15)).toS) (fun _ _ => rfl)).toS)) da_nil)).toS)) ((de_slice (de_var (pv 1)) (do_some (de_bin opd_add (de_var (pv 14)) ((de_int).toS))) (do_some (de_var (pv 15)))).toS)) ((de_slice (de_var (pv 1)) (do_some (de_bin opd_add (de_var (pv 15)) ((de_int).toS))) do_none).toS)))) (dss_cons (ds_set (ps_set (i := 10) sc__law_is_more_right.nd rfl (by first | exact .inl rfl | exact .inr rfl) (de_call c_seating hr (by decide) (by rfl) (da_cons (de_var (pv 1)) (da_cons (de_var (pv 7)) da_nil))))) (dss_one (ds_ret (de_cmp (opd_ge hr.units) (de_ix ixd_ix (de_call c_seating hr (by decide) (by rfl) (da_cons (de_var (pv 9)) (da_cons (de_var (pv 7)) da_nil))) ((de_var (pv 14)).toS) (fun _ _ => rfl)) ((de_bin opd_add (de_ix ixd_ix (de_var (pv 10)) ((de_var (pv 14)).toS) (fun _ _ => rfl)) ((de_ix ixd_ix (de_var (pv 10)) ((de_var (pv 15)).toS) (fun _ _ => rfl)).toS)).toS) (nomark _)))))))))))))))))
theorem e__law_is_more_right (ys : List D) (a0 a1 a2 : D) : envP N__law_is_more_right ys [a0, a1, a2] = [.ol ys, .fz a0, .fz a1, .fz a2, .no, .no, .no, .no, .no, .no, .no, .no, .no, .no, .no, .no] := rfl
theorem cal__law_is_more_right {F : PSpec} {F__law_take : PSpec} {F_seating : FSpec} (D : DefOk K mg "_law_is_more_right" s__law_is_more_right p__law_is_more_right) (g : Glb mg) (c__law_take : Cal P w K mg base 1 "_law_take" (spP 1 F__law_take K)) (c_seating : Cal P w K mg base 8 "seating" (spF 2 F_seating K)) (hF : ∀ ys as R, as.length = 3 → F ys as R → w__law_is_more_right F__law_take F_seating { nx := fun env => ∃ zs, env[0]? = some (.ol zs) ∧ R .non zs, rt := fun d env => ∃ zs, env[0]? = some (.ol zs) ∧ R d zs } (envP N__law_is_more_right ys as)) : Cal P w K mg base 9 "_law_is_more_right" (spP 3 F K) := by
  obtain ⟨fa, fd, Fn, hm, hb⟩ := D.ex
  exact ⟨fa, fd, p__law_is_more_right, fn_pot Fn sc__law_is_more_right rfl (fun cdv A outer s H E hr => b__law_is_more_right g c__law_take c_seating cdv A outer s H E hr) hF, hm, Fn.kp, hb⟩
/-! ### _law_out -/
abbrev s__law_out : Stmt := topS 60
abbrev N__law_out : List Str := ["pot", "parties", "most", "highs", "lows", "many", "party", "high"]
abbrev p__law_out : List Str := ["pot", "parties", "most"]
theorem sc__law_out : FnScope N__law_out p__law_out (defScope s__law_out) := ⟨rfl, rfl, rfl, by decide +kernel, rfl, by decide +kernel, by decide +kernel⟩
def w__law_out (F__law_of : PSpec) (F__law_take : PSpec) : DS := sSeq (sAsg (dFz (fLc (iRan1 (dVar 1)) (.nm 6) tYes1 (dCallP 1 F__law_of 0 (aCons (dLst (aCons (dVar 2) (aCons (dVar 2) (aCons (dCallP 1 F__law_take 0 (aCons (dBin gAdd (dVar 2) (dC (.int 1))) aNil)) aNil)))) aNil)) [6])) (.nm 3)) (sSeq (sAsg (dFz (fLc (iSeq (dVar 3)) (.nm 7) tYes1 (dCallP 1 F__law_of 0 (aCons (dLst (aCons (dC (.int 0)) (aCons (dC (.int 0)) (aCons (dBin gDiv (dCallP 1 F__law_take 0 (aCons (dBin gAdd (dVar 7) (dC (.int 1))) aNil)) (dBin gMul (dC (.int 4)) (dVar 1))) aNil)))) aNil)) [7])) (.nm 4)) (sSeq (sAsg (dBin gAdd (dCB gSum (aCons (dVar 4) aNil)) (dCallP 1 F__law_take 0 (aCons (dBin gAdd (dCB gMin2 (aCons (dBin gAdd (dBin gDiv (dVar 2) (dC (.int 2))) (dC (.int 1))) (aCons (dBin gSub (dCB gSum (aCons (dVar 3) aNil)) (dCB gSum (aCons (dVar 4) aNil))) aNil))) (dC (.int 1))) aNil))) (.nm 5)) (sRet (dTup (aCons (dVar 5) (aCons (dCB gTuple (aCons (dVar 4) aNil)) (aCons (dCB gTuple (aCons (dVar 3) aNil)) aNil)))))))
theorem b__law_out {F__law_of : PSpec} {F__law_take : PSpec} (g : Glb mg) (c__law_of : Cal P w K mg base 2 "_law_of" (spP 1 F__law_of K)) (c__law_take : Cal P w K mg base 1 "_law_take" (spP 1 F__law_take K)) (cdv : Value) (A : Around) (outer : List PySem.Env) (s : Shared) (H : Hp) (E : XK) (hr : Room 2 (A.deeper (envOfC "_law_out" (defScope s__law_out) s.heap.objs.size f cdv))) :
    PSsd (cxOf CX0 P w K mg base N__law_out "_law_out" (defScope s__law_out) f cdv A outer s H E).nox (defBody s__law_out) (w__law_out F__law_of F__law_take) := by
  unfold w__law_out
  exact dss_cons (ds_setLc (ps_setLc (i := 3) (own := [("party", 6)]) rfl sc__law_out.nd rfl rfl (sw_true rfl rfl rfl (by decide +kernel)) (di_ran1 (by rfl) g.b_range (de_var (pv 1))) (blkOk_by (by show blkC N__law_out (defScope s__law_out) _ [("party", 6)] = true; decide +kernel)) (fun _ _ _ _ _ => pgd_nm (pg_name (i := 6) sc__law_out.nd rfl (by first | exact .inl rfl | exact .inr rfl))) (fun _ _ _ _ _ => dts_nil) (fun _ _ _ _ _ => de_callP c__law_of hr (by decide) (by rfl) (pv 0) (da_cons (de_lst (da_cons (de_var (pv 2)) (da_cons (de_var (pv 2)) (da_cons (de_callP c__law_take hr (by decide) (by rfl) (pv 0) (da_cons (de_bin opd_add (de_var (pv 2)) ((de_int).toS)) da_nil)) da_nil)))) da_nil))) rfl (by decide)) (dss_cons (ds_setLc (ps_setLc (i := 4) (own := [("high", 7)]) rfl sc__law_out.nd rfl rfl (sw_true rfl rfl rfl (by decide +kernel)) (di_seq (de_var (pv 3))) (blkOk_by (by show blkC N__law_out (defScope s__law_out) _ [("high", 7)] = true; decide +kernel)) (fun _ _ _ _ _ => pgd_nm (pg_name (i := 7) sc__law_out.nd rfl (by first | exact .inl rfl | exact .inr rfl))) (fun _ _ _ _ _ => dts_nil) (fun _ _ _ _ _ => de_callP c__law_of hr (by decide) (by rfl) (pv 0) (da_cons (de_lst (da_cons de_int (da_cons de_int (da_cons (de_bin opd_divA (de_callP c__law_take hr (by decide) (by rfl) (pv 0) (da_cons (de_bin opd_add (de_var (pv 7)) ((de_int).toS)) da_nil)) ((de_bin opd_mulA de_int ((de_var (pv 1)).toS)).toS)) da_nil)))) da_nil))) rfl (by decide)) (dss_cons (ds_set (ps_set (i := 5) sc__law_out.nd rfl (by first | exact .inl rfl | exact .inr rfl) (de_bin opd_add (de_callB1 (cd_sum rfl) (by rfl) g.b_sum rfl ((de_var (pv 4)).toS)) ((de_callP c__law_take hr (by decide) (by rfl) (pv 0) (da_cons (de_bin opd_add (de_callB (cd_min2 rfl) (by rfl) g.b_min rfl (da_cons (de_bin opd_add (de_bin opd_divA (de_var (pv 2)) ((de_int).toS)) ((de_int).toS)) (da_cons (de_bin opd_subA (de_callB1 (cd_sum rfl) (by rfl) g.b_sum rfl ((de_var (pv 3)).toS)) ((de_callB1 (cd_sum rfl) (by rfl) g.b_sum rfl ((de_var (pv 4)).toS)).toS)) da_nil))) ((de_int).toS)) da_nil)).toS)))) (dss_one (ds_ret (de_tup (da_cons (de_var (pv 5)) (da_cons (de_callTy1 cd_tuple (by rfl) g.b_tuple rfl ((de_var (pv 4)).toS)) (da_cons (de_callTy1 cd_tuple (by rfl) g.b_tuple rfl ((de_var (pv 3)).toS)) da_nil))))))))
theorem e__law_out (ys : List D) (a0 a1 : D) : envP N__law_out ys [a0, a1] = [.ol ys, .fz a0, .fz a1, .no, .no, .no, .no, .no] := rfl
theorem cal__law_out {F : PSpec} {F__law_of : PSpec} {F__law_take : PSpec} (D : DefOk K mg "_law_out" s__law_out p__law_out) (g : Glb mg) (c__law_of : Cal P w K mg base 2 "_law_of" (spP 1 F__law_of K)) (c__law_take : Cal P w K mg base 1 "_law_take" (spP 1 F__law_take K)) (hF : ∀ ys as R, as.length = 2 → F ys as R → w__law_out F__law_of F__law_take { nx := fun env => ∃ zs, env[0]? = some (.ol zs) ∧ R .non zs, rt := fun d env => ∃ zs, env[0]? = some (.ol zs) ∧ R d zs } (envP N__law_out ys as)) : Cal P w K mg base 3 "_law_out" (spP 2 F K) := by
  obtain ⟨fa, fd, Fn, hm, hb⟩ := D.ex
  exact ⟨fa, fd, p__law_out, fn_pot Fn sc__law_out rfl (fun cdv A outer s H E hr => b__law_out g c__law_of c__law_take cdv A outer s H E hr) hF, hm, Fn.kp, hb⟩
/-! ### is_out -/
abbrev s_is_out : Stmt := topS 29
abbrev N_is_out : List Str := ["value", "many", "lows", "highs", "low", "high"]
abbrev p_is_out : List Str := ["value"]
theorem sc_is_out : FnScope N_is_out p_is_out (defScope s_is_out) := ⟨rfl, rfl, rfl, by decide +kernel, rfl, by decide +kernel, by decide +kernel⟩
def w_is_out (F_is_between : FSpec) (F_are_between : FSpec) : DS := sSeq (sIf (tOr1 (tNot1 (tB1 (dCB (gIsi "tuple") (aCons (dVar 0) (aCons (dC (.raw (.ty "tuple"))) aNil))))) (tOr1 (tB1 (dBin gNe (dCB gLen (aCons (dVar 0) aNil)) (dC (.int 3)))) (tNot1 (tB1 (dCall 3 F_is_between (aCons (dBin gIx (dVar 0) (dC (.int 0))) (aCons (dC (.int 0)) (aCons (dC (.int 1000000000)) aNil)))))))) (sRet (dC (.bl false))) sNext) (sSeq (sAsg (dVar 0) (.tp [.nm 1, .nm 2, .nm 3])) (sSeq (sIf (tOr1 (tNot1 (tB1 (dCall 3 F_are_between (aCons (dVar 2) (aCons (dC (.int 0)) (aCons (dC (.int 1000000000)) aNil)))))) (tNot1 (tB1 (dCall 3 F_are_between (aCons (dVar 3) (aCons (dC (.int 0)) (aCons (dC (.int 1000000000)) aNil))))))) (sRet (dC (.bl false))) sNext) (sSeq (sIf (tOr1 (tNot1 (tB1 (dChain gLe gLe (dC (.int 1)) (dCB gLen (aCons (dVar 2) aNil)) (dC (.int 12))))) (tOr1 (tB1 (dBin gNe (dCB gLen (aCons (dVar 3) aNil)) (dCB gLen (aCons (dVar 2) aNil)))) (tOr1 (tB1 (dBin gGt (dCB gSum (aCons (dVar 2) aNil)) (dVar 1))) (tB1 (dBin gLt (dCB gSum (aCons (dVar 3) aNil)) (dVar 1)))))) (sRet (dC (.bl false))) sNext) (sRet (dCB gAll (aCons (dFz (fLc (iZipd (dVar 2) (dVar 3)) (.tp [.nm 4, .nm 5]) tYes1 (dBin gLe (dVar 4) (dVar 5)) [4, 5])) aNil))))))
theorem b_is_out {F_is_between : FSpec} {F_are_between : FSpec} (g : Glb mg) (c_is_between : Cal P w K mg base 2 "is_between" (spF 3 F_is_between K)) (c_are_between : Cal P w K mg base 3 "are_between" (spF 3 F_are_between K)) (cdv : Value) (A : Around) (outer : List PySem.Env) (s : Shared) (H : Hp) (E : XK) (hr : Room 3 (A.deeper (envOfC "is_out" (defScope s_is_out) s.heap.objs.size f cdv))) :
    PSsd (cxOf CX0 P w K mg base N_is_out "is_out" (defScope s_is_out) f cdv A outer s H E).nox (defBody s_is_out) (w_is_out F_is_between F_are_between) := by
  unfold w_is_out
  exact dss_cons (ds_if (dt_pw (dw_or (dt_not (dt_val (de_callB cd_isi (by rfl) g.b_isinstance rfl (da_cons (de_var (pv 0)) (da_cons (de_ty (by rfl) g.b_tuple rfl) da_nil))))) (dw_or (dt_cmp (opd_ne hr.units) (de_callB1 cd_len (by rfl) g.b_len rfl ((de_var (pv 0)).toS)) ((de_gint (by rfl) g.c_THREE_counts).toS) (nomark _)) (dw_or1 (dt_not (dt_val (de_call c_is_between hr (by decide) (by rfl) (da_cons (de_ix ixd_ix (de_var (pv 0)) ((de_int).toS) (fun _ _ => rfl)) (da_cons de_int (da_cons (de_gint (by rfl) g.c_MOST_VOTES) da_nil)))))))))) (dss_one (ds_ret de_bl)) dss_nil) (dss_cons (ds_asg (de_var (pv 0)) (pgd_tp rfl (pgsd_cons (pgd_nm (pg_name (i := 1) sc_is_out.nd rfl (by first | exact .inl rfl | exact .inr rfl))) (pgsd_cons (pgd_nm (pg_name (i := 2) sc_is_out.nd rfl (by first | exact .inl rfl | exact .inr rfl))) (pgsd_cons (pgd_nm (pg_name (i := 3) sc_is_out.nd rfl (by first | exact .inl rfl | exact .inr rfl))) pgsd_nil))))) (dss_cons (ds_if (dt_pw (dw_or (dt_not (dt_val (de_call c_are_between hr (by decide) (by rfl) (da_cons (de_var (pv 2)) (da_cons de_int (da_cons (de_gint (by rfl) g.c_MOST_VOTES) da_nil)))))) (dw_or1 (dt_not (dt_val (de_call c_are_between hr (by decide) (by rfl) (da_cons (de_var (pv 3)) (da_cons de_int (da_cons (de_gint (by rfl) g.c_MOST_VOTES) da_nil))))))))) (dss_one (ds_ret de_bl)) dss_nil) (dss_cons (ds_if (dt_pw (dw_or (dt_not (dt_chain (opd_le hr.units) (opd_le hr.units) de_int (de_callB1 cd_len (by rfl) g.b_len rfl ((de_var (pv 2)).toS)) (de_gint (by rfl) g.c_MOST_PARTIES))) (dw_or (dt_cmp (opd_ne hr.units) (de_callB1 cd_len (by rfl) g.b_len rfl ((de_var (pv 3)).toS)) ((de_callB1 cd_len (by rfl) g.b_len rfl ((de_var (pv 2)).toS)).toS) (nomark _)) (dw_or (dt_cmp (opd_gt hr.units) (de_callB1 (cd_sum rfl) (by rfl) g.b_sum rfl ((de_var (pv 2)).toS)) ((de_var (pv 1)).toS) (nomark _)) (dw_or1 (dt_cmp (opd_lt hr.units) (de_callB1 (cd_sum rfl) (by rfl) g.b_sum rfl ((de_var (pv 3)).toS)) ((de_var (pv 1)).toS) (nomark _))))))) (dss_one (ds_ret de_bl)) dss_nil) (dss_one (ds_ret (de_callB1 (cd_all rfl) (by rfl) g.b_all rfl ((de_fz (df_lc (own := [("low", 4), ("high", 5)]) rfl sc_is_out.nd (di_zip (by rfl) g.b_zip (de_var (pv 2)) (de_var (pv 3))) (blkOk_by (by show blkC N_is_out (defScope s_is_out) _ [("low", 4), ("high", 5)] = true; decide +kernel)) (fun _ _ _ _ _ => pgd_tp rfl (pgsd_cons (pgd_nm (pg_name (i := 4) sc_is_out.nd rfl (by first | exact .inl rfl | exact .inr rfl))) (pgsd_cons (pgd_nm (pg_name (i := 5) sc_is_out.nd rfl (by first | exact .inl rfl | exact .inr rfl))) pgsd_nil))) (fun _ _ _ _ _ => dts_nil) (fun _ _ _ _ _ => de_cmp (opd_le hr.units) (de_var (pv 4)) ((de_var (pv 5)).toS) (nomark _)) rfl (by decide))).toS)))))))
theorem e_is_out (a0 : D) : env0 N_is_out [a0] = [.fz a0, .no, .no, .no, .no, .no] := rfl
theorem cal_is_out {F : FSpec} {F_is_between : FSpec} {F_are_between : FSpec} (D : DefOk K mg "is_out" s_is_out p_is_out) (g : Glb mg) (c_is_between : Cal P w K mg base 2 "is_between" (spF 3 F_is_between K)) (c_are_between : Cal P w K mg base 3 "are_between" (spF 3 F_are_between K)) (hF : ∀ as R, as.length = 1 → F as R → w_is_out F_is_between F_are_between { nx := fun _ => R .non, rt := fun d _ => R d } (env0 N_is_out as)) : Cal P w K mg base 4 "is_out" (spF 1 F K) := by
  obtain ⟨fa, fd, Fn, hm, hb⟩ := D.ex
  exact ⟨fa, fd, p_is_out, fn_pure Fn sc_is_out (fun cdv A outer s H E hr => b_is_out g c_is_between c_are_between cdv A outer s H E hr) hF, hm, Fn.kp, hb⟩
/-! ### check_out -/
abbrev s_check_out : Stmt := topS 30
abbrev N_check_out : List Str := ["value", "parties"]
abbrev p_check_out : List Str := ["value", "parties"]
theorem sc_check_out : FnScope N_check_out p_check_out (defScope s_check_out) := ⟨rfl, rfl, rfl, by decide +kernel, rfl, by decide +kernel, by decide +kernel⟩
def w_check_out (F_is_out : FSpec) : DS := sIf (tOr1 (tNot1 (tB1 (dCall 1 F_is_out (aCons (dVar 0) aNil)))) (tB1 (dBin (gIn true) (dVar 1) (dTup (aCons (dC .non) (aCons (dCB gLen (aCons (dBin gIx (dVar 0) (dC (.int 1))) aNil)) aNil)))))) sNever sNext
theorem b_check_out {F_is_out : FSpec} (g : Glb mg) (c_is_out : Cal P w K mg base 4 "is_out" (spF 1 F_is_out K)) (cdv : Value) (A : Around) (outer : List PySem.Env) (s : Shared) (H : Hp) (E : XK) (hr : Room 4 (A.deeper (envOfC "check_out" (defScope s_check_out) s.heap.objs.size f cdv))) :
    PSsd (cxOf CX0 P w K mg base N_check_out "check_out" (defScope s_check_out) f cdv A outer s H E).nox (defBody s_check_out) (w_check_out F_is_out) := by
  unfold w_check_out
  exact dss_one (ds_if (dt_pw (dw_or (dt_not (dt_val (de_call c_is_out hr (by decide) (by rfl) (da_cons (de_var (pv 0)) da_nil)))) (dw_or1 (dt_cmp opd_notIn (de_var (pv 1)) ((de_tup (da_cons de_non (da_cons (de_callB1 cd_len (by rfl) g.b_len rfl ((de_ix ixd_ix (de_var (pv 0)) ((de_int).toS) (fun _ _ => rfl)).toS)) da_nil))).toS) (by rfl))))) dss_never dss_nil)
theorem e_check_out (a0 a1 : D) : env0 N_check_out [a0, a1] = [.fz a0, .fz a1] := rfl
theorem cal_check_out {F : FSpec} {F_is_out : FSpec} (D : DefOk K mg "check_out" s_check_out p_check_out) (g : Glb mg) (c_is_out : Cal P w K mg base 4 "is_out" (spF 1 F_is_out K)) (hF : ∀ as R, as.length = 2 → F as R → w_check_out F_is_out { nx := fun _ => R .non, rt := fun d _ => R d } (env0 N_check_out as)) : Cal P w K mg base 5 "check_out" (spF 2 F K) := by
  obtain ⟨fa, fd, Fn, hm, hb⟩ := D.ex
  exact ⟨fa, fd, p_check_out, fn_pure Fn sc_check_out (fun cdv A outer s H E hr => b_check_out g c_is_out cdv A outer s H E hr) hF, hm, Fn.kp, hb⟩
/-! ### is_mark_of -/
abbrev s_is_mark_of : Stmt := topS 45
abbrev N_is_mark_of : List Str := ["votes", "value", "top", "low", "party", "one"]
abbrev p_is_mark_of : List Str := ["votes", "value"]
theorem sc_is_mark_of : FnScope N_is_mark_of p_is_mark_of (defScope s_is_mark_of) := ⟨rfl, rfl, rfl, by decide +kernel, rfl, by decide +kernel, by decide +kernel⟩
def w_is_mark_of (F_is_integer : FSpec) : DS := sSeq (sIf (tOr1 (tNot1 (tB1 (dCB (gIsi "tuple") (aCons (dVar 1) (aCons (dC (.raw (.ty "tuple"))) aNil))))) (tOr1 (tB1 (dBin gNe (dCB gLen (aCons (dVar 1) aNil)) (dC (.int 3)))) (tNot1 (tB1 (dCB gAll (aCons (dFz (fLc (iSeq (dVar 1)) (.nm 5) tYes1 (dCall 1 F_is_integer (aCons (dVar 5) aNil)) [5])) aNil)))))) (sRet (dC (.bl false))) sNext) (sSeq (sAsg (dVar 1) (.tp [.nm 2, .nm 3, .nm 4])) (sRet (dAnd (dBin gGe (dVar 2) (dC (.int 0))) (dAnd (dBin gGe (dVar 3) (dC (.int 1))) (dChain gLe gLe (dC (.int 0)) (dVar 4) (dCB gLen (aCons (dVar 0) aNil)))))))
theorem b_is_mark_of {F_is_integer : FSpec} (g : Glb mg) (c_is_integer : Cal P w K mg base 1 "is_integer" (spF 1 F_is_integer K)) (cdv : Value) (A : Around) (outer : List PySem.Env) (s : Shared) (H : Hp) (E : XK) (hr : Room 1 (A.deeper (envOfC "is_mark_of" (defScope s_is_mark_of) s.heap.objs.size f cdv))) :
    PSsd (cxOf CX0 P w K mg base N_is_mark_of "is_mark_of" (defScope s_is_mark_of) f cdv A outer s H E).nox (defBody s_is_mark_of) (w_is_mark_of F_is_integer) := by
  unfold w_is_mark_of
  exact dss_cons (ds_if (dt_pw (dw_or (dt_not (dt_val (de_callB cd_isi (by rfl) g.b_isinstance rfl (da_cons (de_var (pv 1)) (da_cons (de_ty (by rfl) g.b_tuple rfl) da_nil))))) (dw_or (dt_cmp (opd_ne hr.units) (de_callB1 cd_len (by rfl) g.b_len rfl ((de_var (pv 1)).toS)) ((de_gint (by rfl) g.c_THREE_marks).toS) (nomark _)) (dw_or1 (dt_not (dt_val (de_callB1 (cd_all rfl) (by rfl) g.b_all rfl ((de_fz (df_lc (own := [("one", 5)]) rfl sc_is_mark_of.nd (di_seq (de_var (pv 1))) (blkOk_by (by show blkC N_is_mark_of (defScope s_is_mark_of) _ [("one", 5)] = true; decide +kernel)) (fun _ _ _ _ _ => pgd_nm (pg_name (i := 5) sc_is_mark_of.nd rfl (by first | exact .inl rfl | exact .inr rfl))) (fun _ _ _ _ _ => dts_nil) (fun _ _ _ _ _ => de_call c_is_integer hr (by decide) (by rfl) (da_cons (de_var (pv 5)) da_nil)) rfl (by decide))).toS)))))))) (dss_one (ds_ret de_bl)) dss_nil) (dss_cons (ds_asg (de_var (pv 1)) (pgd_tp rfl (pgsd_cons (pgd_nm (pg_name (i := 2) sc_is_mark_of.nd rfl (by first | exact .inl rfl | exact .inr rfl))) (pgsd_cons (pgd_nm (pg_name (i := 3) sc_is_mark_of.nd rfl (by first | exact .inl rfl | exact .inr rfl))) (pgsd_cons (pgd_nm (pg_name (i := 4) sc_is_mark_of.nd rfl (by first | exact .inl rfl | exact .inr rfl))) pgsd_nil))))) (dss_one (ds_ret (de_and (de_cmp (opd_ge hr.units) (de_var (pv 2)) ((de_int).toS) (nomark _)) (de_and (de_cmp (opd_ge hr.units) (de_var (pv 3)) ((de_int).toS) (nomark _)) (de_one (de_chain (opd_le hr.units) (opd_le hr.units) de_int (de_var (pv 4)) (de_callB1 cd_len (by rfl) g.b_len rfl ((de_var (pv 0)).toS)))))))))
theorem e_is_mark_of (a0 a1 : D) : env0 N_is_mark_of [a0, a1] = [.fz a0, .fz a1, .no, .no, .no, .no] := rfl
theorem cal_is_mark_of {F : FSpec} {F_is_integer : FSpec} (D : DefOk K mg "is_mark_of" s_is_mark_of p_is_mark_of) (g : Glb mg) (c_is_integer : Cal P w K mg base 1 "is_integer" (spF 1 F_is_integer K)) (hF : ∀ as R, as.length = 2 → F as R → w_is_mark_of F_is_integer { nx := fun _ => R .non, rt := fun d _ => R d } (env0 N_is_mark_of as)) : Cal P w K mg base 2 "is_mark_of" (spF 2 F K) := by
  obtain ⟨fa, fd, Fn, hm, hb⟩ := D.ex
  exact ⟨fa, fd, p_is_mark_of, fn_pure Fn sc_is_mark_of (fun cdv A outer s H E hr => b_is_mark_of g c_is_integer cdv A outer s H E hr) hF, hm, Fn.kp, hb⟩
/-! ### check_party -/
abbrev s_check_party : Stmt := topS 28
abbrev N_check_party : List Str := ["votes", "party"]
abbrev p_check_party : List Str := ["votes", "party"]
theorem sc_check_party : FnScope N_check_party p_check_party (defScope s_check_party) := ⟨rfl, rfl, rfl, by decide +kernel, rfl, by decide +kernel, by decide +kernel⟩
def w_check_party (F_is_between : FSpec) : DS := sIf (tNot1 (tB1 (dCall 3 F_is_between (aCons (dVar 1) (aCons (dC (.int 0)) (aCons (dBin gSub (dCB gLen (aCons (dVar 0) aNil)) (dC (.int 1))) aNil)))))) sNever sNext
theorem b_check_party {F_is_between : FSpec} (g : Glb mg) (c_is_between : Cal P w K mg base 2 "is_between" (spF 3 F_is_between K)) (cdv : Value) (A : Around) (outer : List PySem.Env) (s : Shared) (H : Hp) (E : XK) (hr : Room 2 (A.deeper (envOfC "check_party" (defScope s_check_party) s.heap.objs.size f cdv))) :
    PSsd (cxOf CX0 P w K mg base N_check_party "check_party" (defScope s_check_party) f cdv A outer s H E).nox (defBody s_check_party) (w_check_party F_is_between) := by
  unfold w_check_party
  exact dss_one (ds_if (dt_not (dt_val (de_call c_is_between hr (by decide) (by rfl) (da_cons (de_var (pv 1)) (da_cons de_int (da_cons (de_bin opd_subA (de_callB1 cd_len (by rfl) g.b_len rfl ((de_var (pv 0)).toS)) ((de_int).toS)) da_nil)))))) dss_never dss_nil)
theorem e_check_party (a0 a1 : D) : env0 N_check_party [a0, a1] = [.fz a0, .fz a1] := rfl
theorem cal_check_party {F : FSpec} {F_is_between : FSpec} (D : DefOk K mg "check_party" s_check_party p_check_party) (g : Glb mg) (c_is_between : Cal P w K mg base 2 "is_between" (spF 3 F_is_between K)) (hF : ∀ as R, as.length = 2 → F as R → w_check_party F_is_between { nx := fun _ => R .non, rt := fun d _ => R d } (env0 N_check_party as)) : Cal P w K mg base 3 "check_party" (spF 2 F K) := by
  obtain ⟨fa, fd, Fn, hm, hb⟩ := D.ex
  exact ⟨fa, fd, p_check_party, fn_pure Fn sc_check_party (fun cdv A outer s H E hr => b_check_party g c_is_between cdv A outer s H E hr) hF, hm, Fn.kp, hb⟩
/-! ### check_asked -/
abbrev s_check_asked : Stmt := topS 51
abbrev N_check_asked : List Str := ["votes", "rule", "out", "mark", "party", "number"]
abbrev p_check_asked : List Str := ["votes", "rule", "out", "mark", "party", "number"]
theorem sc_check_asked : FnScope N_check_asked p_check_asked (defScope s_check_asked) := ⟨rfl, rfl, rfl, by decide +kernel, rfl, by decide +kernel, by decide +kernel⟩
def w_check_asked (F_check_votes : FSpec) (F_check_rule : FSpec) (F_check_out : FSpec) (F_is_mark_of : FSpec) (F_check_party : FSpec) (F_is_between : FSpec) : DS := sSeq (sDrop (dCall 1 F_check_votes (aCons (dVar 0) aNil))) (sSeq (sDrop (dCall 2 F_check_rule (aCons (dVar 1) (aCons (dCB gLen (aCons (dVar 0) aNil)) aNil)))) (sSeq (sDrop (dCall 2 F_check_out (aCons (dVar 2) (aCons (dCB gLen (aCons (dVar 0) aNil)) aNil)))) (sSeq (sIf (tNot1 (tB1 (dCall 2 F_is_mark_of (aCons (dVar 0) (aCons (dVar 3) aNil))))) sNever sNext) (sSeq (sDrop (dCall 2 F_check_party (aCons (dVar 0) (aCons (dVar 4) aNil)))) (sIf (tNot1 (tB1 (dCall 3 F_is_between (aCons (dVar 5) (aCons (dC (.int 0)) (aCons (dBin gIx (dVar 1) (dC (.int 1))) aNil)))))) sNever sNext)))))
theorem b_check_asked {F_check_votes : FSpec} {F_check_rule : FSpec} {F_check_out : FSpec} {F_is_mark_of : FSpec} {F_check_party : FSpec} {F_is_between : FSpec} (g : Glb mg) (c_check_votes : Cal P w K mg base 5 "check_votes" (spF 1 F_check_votes K)) (c_check_rule : Cal P w K mg base 6 "check_rule" (spF 2 F_check_rule K)) (c_check_out : Cal P w K mg base 5 "check_out" (spF 2 F_check_out K)) (c_is_mark_of : Cal P w K mg base 2 "is_mark_of" (spF 2 F_is_mark_of K)) (c_check_party : Cal P w K mg base 3 "check_party" (spF 2 F_check_party K)) (c_is_between : Cal P w K mg base 2 "is_between" (spF 3 F_is_between K)) (cdv : Value) (A : Around) (outer : List PySem.Env) (s : Shared) (H : Hp) (E : XK) (hr : Room 6 (A.deeper (envOfC "check_asked" (defScope s_check_asked) s.heap.objs.size f cdv))) :
    PSsd (cxOf CX0 P w K mg base N_check_asked "check_asked" (defScope s_check_asked) f cdv A outer s H E).nox (defBody s_check_asked) (w_check_asked F_check_votes F_check_rule F_check_out F_is_mark_of F_check_party F_is_between) := by
  unfold w_check_asked
  exact dss_cons (ds_expr (de_call c_check_votes hr (by decide) (by rfl) (da_cons (de_var (pv 0)) da_nil))) (dss_cons (ds_expr (de_call c_check_rule hr (by decide) (by rfl) (da_cons (de_var (pv 1)) (da_cons (de_callB1 cd_len (by rfl) g.b_len rfl ((de_var (pv 0)).toS)) da_nil)))) (dss_cons (ds_expr (de_call c_check_out hr (by decide) (by rfl) (da_cons (de_var (pv 2)) (da_cons (de_callB1 cd_len (by rfl) g.b_len rfl ((de_var (pv 0)).toS)) da_nil)))) (dss_cons (ds_if (dt_not (dt_val (de_call c_is_mark_of hr (by decide) (by rfl) (da_cons (de_var (pv 0)) (da_cons (de_var (pv 3)) da_nil))))) dss_never dss_nil) (dss_cons (ds_expr (de_call c_check_party hr (by decide) (by rfl) (da_cons (de_var (pv 0)) (da_cons (de_var (pv 4)) da_nil)))) (dss_one (ds_if (dt_not (dt_val (de_call c_is_between hr (by decide) (by rfl) (da_cons (de_var (pv 5)) (da_cons de_int (da_cons (de_ix ixd_ix (de_var (pv 1)) ((de_int).toS) (fun _ _ => rfl)) da_nil)))))) dss_never dss_nil))))))
theorem e_check_asked (a0 a1 a2 a3 a4 a5 : D) : env0 N_check_asked [a0, a1, a2, a3, a4, a5] = [.fz a0, .fz a1, .fz a2, .fz a3, .fz a4, .fz a5] := rfl
theorem cal_check_asked {F : FSpec} {F_check_votes : FSpec} {F_check_rule : FSpec} {F_check_out : FSpec} {F_is_mark_of : FSpec} {F_check_party : FSpec} {F_is_between : FSpec} (D : DefOk K mg "check_asked" s_check_asked p_check_asked) (g : Glb mg) (c_check_votes : Cal P w K mg base 5 "check_votes" (spF 1 F_check_votes K)) (c_check_rule : Cal P w K mg base 6 "check_rule" (spF 2 F_check_rule K)) (c_check_out : Cal P w K mg base 5 "check_out" (spF 2 F_check_out K)) (c_is_mark_of : Cal P w K mg base 2 "is_mark_of" (spF 2 F_is_mark_of K)) (c_check_party : Cal P w K mg base 3 "check_party" (spF 2 F_check_party K)) (c_is_between : Cal P w K mg base 2 "is_between" (spF 3 F_is_between K)) (hF : ∀ as R, as.length = 6 → F as R → w_check_asked F_check_votes F_check_rule F_check_out F_is_mark_of F_check_party F_is_between { nx := fun _ => R .non, rt := fun d _ => R d } (env0 N_check_asked as)) : Cal P w K mg base 7 "check_asked" (spF 6 F K) := by
  obtain ⟨fa, fd, Fn, hm, hb⟩ := D.ex
  exact ⟨fa, fd, p_check_asked, fn_pure Fn sc_check_asked (fun cdv A outer s H E hr => b_check_asked g c_check_votes c_check_rule c_check_out c_is_mark_of c_check_party c_is_between cdv A outer s H E hr) hF, hm, Fn.kp, hb⟩
/-! ### votes_ahead -/
abbrev s_votes_ahead : Stmt := topS 48
abbrev N_votes_ahead : List Str := ["divisor", "mark", "party", "top", "low", "place"]
abbrev p_votes_ahead : List Str := ["divisor", "mark", "party"]
theorem sc_votes_ahead : FnScope N_votes_ahead p_votes_ahead (defScope s_votes_ahead) := ⟨rfl, rfl, rfl, by decide +kernel, rfl, by decide +kernel, by decide +kernel⟩
def w_votes_ahead : DS := sSeq (sAsg (dVar 1) (.tp [.nm 3, .nm 4, .nm 5])) (sSeq (sIf (tB1 (dBin gLt (dVar 2) (dVar 5))) (sRet (dBin gDiv (dBin gSub (dBin gAdd (dBin gMul (dVar 3) (dVar 0)) (dVar 4)) (dC (.int 1))) (dVar 4))) sNext) (sRet (dBin gAdd (dBin gDiv (dBin gMul (dVar 3) (dVar 0)) (dVar 4)) (dC (.int 1)))))
theorem b_votes_ahead (g : Glb mg) (cdv : Value) (A : Around) (outer : List PySem.Env) (s : Shared) (H : Hp) (E : XK) (hr : Room 0 (A.deeper (envOfC "votes_ahead" (defScope s_votes_ahead) s.heap.objs.size f cdv))) :
    PSsd (cxOf CX0 P w K mg base N_votes_ahead "votes_ahead" (defScope s_votes_ahead) f cdv A outer s H E).nox (defBody s_votes_ahead) (w_votes_ahead) := by
  unfold w_votes_ahead
  exact dss_cons (ds_asg (de_var (pv 1)) (pgd_tp rfl (pgsd_cons (pgd_nm (pg_name (i := 3) sc_votes_ahead.nd rfl (by first | exact .inl rfl | exact .inr rfl))) (pgsd_cons (pgd_nm (pg_name (i := 4) sc_votes_ahead.nd rfl (by first | exact .inl rfl | exact .inr rfl))) (pgsd_cons (pgd_nm (pg_name (i := 5) sc_votes_ahead.nd rfl (by first | exact .inl rfl | exact .inr rfl))) pgsd_nil))))) (dss_cons (ds_if (dt_cmp (opd_lt hr.units) (de_var (pv 2)) ((de_var (pv 5)).toS) (nomark _)) (dss_one (ds_ret (de_bin opd_divA (de_bin opd_subA (de_bin opd_add (de_bin opd_mulA (de_var (pv 3)) ((de_var (pv 0)).toS)) ((de_var (pv 4)).toS)) ((de_int).toS)) ((de_var (pv 4)).toS)))) dss_nil) (dss_one (ds_ret (de_bin opd_add (de_bin opd_divA (de_bin opd_mulA (de_var (pv 3)) ((de_var (pv 0)).toS)) ((de_var (pv 4)).toS)) ((de_int).toS)))))
theorem e_votes_ahead (a0 a1 a2 : D) : env0 N_votes_ahead [a0, a1, a2] = [.fz a0, .fz a1, .fz a2, .no, .no, .no] := rfl
theorem cal_votes_ahead {F : FSpec} (D : DefOk K mg "votes_ahead" s_votes_ahead p_votes_ahead) (g : Glb mg) (hF : ∀ as R, as.length = 3 → F as R → w_votes_ahead { nx := fun _ => R .non, rt := fun d _ => R d } (env0 N_votes_ahead as)) : Cal P w K mg base 1 "votes_ahead" (spF 3 F K) := by
  obtain ⟨fa, fd, Fn, hm, hb⟩ := D.ex
  exact ⟨fa, fd, p_votes_ahead, fn_pure Fn sc_votes_ahead (fun cdv A outer s H E hr => b_votes_ahead g cdv A outer s H E hr) hF, hm, Fn.kp, hb⟩
/-! ### least_votes -/
abbrev s_least_votes : Stmt := topS 47
abbrev N_least_votes : List Str := ["votes", "rule", "out"]
abbrev p_least_votes : List Str := ["votes", "rule", "out"]
theorem sc_least_votes : FnScope N_least_votes p_least_votes (defScope s_least_votes) := ⟨rfl, rfl, rfl, by decide +kernel, rfl, by decide +kernel, by decide +kernel⟩
def w_least_votes : DS := sRet (dBin gDiv (dBin gSub (dBin gAdd (dBin gMul (dBin gIx (dVar 1) (dC (.int 2))) (dBin gAdd (dCB gSum (aCons (dVar 0) aNil)) (dBin gIx (dVar 2) (dC (.int 0))))) (dC (.int 100))) (dC (.int 1))) (dC (.int 100)))
theorem b_least_votes (g : Glb mg) (cdv : Value) (A : Around) (outer : List PySem.Env) (s : Shared) (H : Hp) (E : XK) (hr : Room 0 (A.deeper (envOfC "least_votes" (defScope s_least_votes) s.heap.objs.size f cdv))) :
    PSsd (cxOf CX0 P w K mg base N_least_votes "least_votes" (defScope s_least_votes) f cdv A outer s H E).nox (defBody s_least_votes) (w_least_votes) := by
  unfold w_least_votes
  exact dss_one (ds_ret (de_bin opd_divA (de_bin opd_subA (de_bin opd_add (de_bin opd_mulA (de_ix ixd_ix (de_var (pv 1)) ((de_int).toS) (fun _ _ => rfl)) ((de_bin opd_add (de_callB1 (cd_sum rfl) (by rfl) g.b_sum rfl ((de_var (pv 0)).toS)) ((de_ix ixd_ix (de_var (pv 2)) ((de_int).toS) (fun _ _ => rfl)).toS)).toS)) ((de_gint (by rfl) g.c_HUNDRED).toS)) ((de_int).toS)) ((de_gint (by rfl) g.c_HUNDRED).toS)))
theorem e_least_votes (a0 a1 a2 : D) : env0 N_least_votes [a0, a1, a2] = [.fz a0, .fz a1, .fz a2] := rfl
theorem cal_least_votes {F : FSpec} (D : DefOk K mg "least_votes" s_least_votes p_least_votes) (g : Glb mg) (hF : ∀ as R, as.length = 3 → F as R → w_least_votes { nx := fun _ => R .non, rt := fun d _ => R d } (env0 N_least_votes as)) : Cal P w K mg base 1 "least_votes" (spF 3 F K) := by
  obtain ⟨fa, fd, Fn, hm, hb⟩ := D.ex
  exact ⟨fa, fd, p_least_votes, fn_pure Fn sc_least_votes (fun cdv A outer s H E hr => b_least_votes g cdv A outer s H E hr) hF, hm, Fn.kp, hb⟩
/-! ### needed -/
abbrev s_needed : Stmt := topS 49
abbrev N_needed : List Str := ["votes", "rule", "out", "mark", "party", "number", "wanted", "share"]
abbrev p_needed : List Str := ["votes", "rule", "out", "mark", "party", "number"]
theorem sc_needed : FnScope N_needed p_needed (defScope s_needed) := ⟨rfl, rfl, rfl, by decide +kernel, rfl, by decide +kernel, by decide +kernel⟩
def w_needed (F_votes_ahead : FSpec) (F_least_votes : FSpec) : DS := sSeq (sIf (tB1 (dBin gEq (dVar 5) (dC (.int 0)))) (sRet (dBin gIx (dBin gIx (dVar 2) (dC (.int 1))) (dVar 4))) sNext) (sSeq (sIf (tB1 (dBin gGt (dVar 5) (dCB gLen (aCons (dBin gIx (dVar 1) (dC (.int 0))) aNil)))) (sRet (dC .non)) sNext) (sSeq (sAsg (dCB gMax2 (aCons (dCall 3 F_votes_ahead (aCons (dBin gIx (dBin gIx (dVar 1) (dC (.int 0))) (dBin gSub (dVar 5) (dC (.int 1)))) (aCons (dVar 3) (aCons (dVar 4) aNil)))) (aCons (dCall 3 F_least_votes (aCons (dVar 0) (aCons (dVar 1) (aCons (dVar 2) aNil)))) aNil))) (.nm 6)) (sSeq (sAsg (dCB gMax2 (aCons (dBin gIx (dBin gIx (dVar 2) (dC (.int 1))) (dVar 4)) (aCons (dBin gSub (dVar 6) (dBin gIx (dVar 0) (dVar 4))) aNil))) (.nm 7)) (sRet (dIf (tB1 (dBin gLe (dVar 7) (dBin gIx (dBin gIx (dVar 2) (dC (.int 2))) (dVar 4)))) (dVar 7) (dC .non))))))
theorem b_needed {F_votes_ahead : FSpec} {F_least_votes : FSpec} (g : Glb mg) (c_votes_ahead : Cal P w K mg base 1 "votes_ahead" (spF 3 F_votes_ahead K)) (c_least_votes : Cal P w K mg base 1 "least_votes" (spF 3 F_least_votes K)) (cdv : Value) (A : Around) (outer : List PySem.Env) (s : Shared) (H : Hp) (E : XK) (hr : Room 1 (A.deeper (envOfC "needed" (defScope s_needed) s.heap.objs.size f cdv))) :
    PSsd (cxOf CX0 P w K mg base N_needed "needed" (defScope s_needed) f cdv A outer s H E).nox (defBody s_needed) (w_needed F_votes_ahead F_least_votes) := by
  unfold w_needed
  exact dss_cons (ds_if (dt_cmp (opd_eq hr.units) (de_var (pv 5)) ((de_int).toS) (nomark _)) (dss_one (ds_ret (de_ix ixd_ix (de_ix ixd_ix (de_var (pv 2)) ((de_int).toS) (fun _ _ => rfl)) ((de_var (pv 4)).toS) (fun _ _ => rfl)))) dss_nil) (dss_cons (ds_if (dt_cmp (opd_gt hr.units) (de_var (pv 5)) ((de_callB1 cd_len (by rfl) g.b_len rfl ((de_ix ixd_ix (de_var (pv 1)) ((de_int).toS) (fun _ _ => rfl)).toS)).toS) (nomark _)) (dss_one (ds_ret de_non)) dss_nil) (dss_cons (ds_set (ps_set (i := 6) sc_needed.nd rfl (by first | exact .inl rfl | exact .inr rfl) (de_callB (cd_max2 rfl) (by rfl) g.b_max rfl (da_cons (de_call c_votes_ahead hr (by decide) (by rfl) (da_cons (de_ix ixd_ix (de_ix ixd_ix (de_var (pv 1)) ((de_int).toS) (fun _ _ => rfl)) ((de_bin opd_subA (de_var (pv 5)) ((de_int).toS)).toS) (fun _ _ => rfl)) (da_cons (de_var (pv 3)) (da_cons (de_var (pv 4)) da_nil)))) (da_cons (de_call c_least_votes hr (by decide) (by rfl) (da_cons (de_var (pv 0)) (da_cons (de_var (pv 1)) (da_cons (de_var (pv 2)) da_nil)))) da_nil))))) (dss_cons (ds_set (ps_set (i := 7) sc_needed.nd rfl (by first | exact .inl rfl | exact .inr rfl) (de_callB (cd_max2 rfl) (by rfl) g.b_max rfl (da_cons (de_ix ixd_ix (de_ix ixd_ix (de_var (pv 2)) ((de_int).toS) (fun _ _ => rfl)) ((de_var (pv 4)).toS) (fun _ _ => rfl)) (da_cons (de_bin opd_subA (de_var (pv 6)) ((de_ix ixd_ix (de_var (pv 0)) ((de_var (pv 4)).toS) (fun _ _ => rfl)).toS)) da_nil))))) (dss_one (ds_ret (de_if (dt_cmp (opd_le hr.units) (de_var (pv 7)) ((de_ix ixd_ix (de_ix ixd_ix (de_var (pv 2)) ((de_int).toS) (fun _ _ => rfl)) ((de_var (pv 4)).toS) (fun _ _ => rfl)).toS) (nomark _)) (de_var (pv 7)) de_non))))))
theorem e_needed (a0 a1 a2 a3 a4 a5 : D) : env0 N_needed [a0, a1, a2, a3, a4, a5] = [.fz a0, .fz a1, .fz a2, .fz a3, .fz a4, .fz a5, .no, .no] := rfl
theorem cal_needed {F : FSpec} {F_votes_ahead : FSpec} {F_least_votes : FSpec} (D : DefOk K mg "needed" s_needed p_needed) (g : Glb mg) (c_votes_ahead : Cal P w K mg base 1 "votes_ahead" (spF 3 F_votes_ahead K)) (c_least_votes : Cal P w K mg base 1 "least_votes" (spF 3 F_least_votes K)) (hF : ∀ as R, as.length = 6 → F as R → w_needed F_votes_ahead F_least_votes { nx := fun _ => R .non, rt := fun d _ => R d } (env0 N_needed as)) : Cal P w K mg base 2 "needed" (spF 6 F K) := by
  obtain ⟨fa, fd, Fn, hm, hb⟩ := D.ex
  exact ⟨fa, fd, p_needed, fn_pure Fn sc_needed (fun cdv A outer s H E hr => b_needed g c_votes_ahead c_least_votes cdv A outer s H E hr) hF, hm, Fn.kp, hb⟩
/-! ### need -/
abbrev s_need : Stmt := topS 52
abbrev N_need : List Str := ["votes", "rule", "out", "mark", "party", "number"]
abbrev p_need : List Str := ["votes", "rule", "out", "mark", "party", "number"]
theorem sc_need : FnScope N_need p_need (defScope s_need) := ⟨rfl, rfl, rfl, by decide +kernel, rfl, by decide +kernel, by decide +kernel⟩
def w_need (F_check_asked : FSpec) (F_needed : FSpec) : DS := sSeq (sDrop (dCall 6 F_check_asked (aCons (dVar 0) (aCons (dVar 1) (aCons (dVar 2) (aCons (dVar 3) (aCons (dVar 4) (aCons (dVar 5) aNil)))))))) (sRet (dCall 6 F_needed (aCons (dVar 0) (aCons (dVar 1) (aCons (dVar 2) (aCons (dVar 3) (aCons (dVar 4) (aCons (dVar 5) aNil))))))))
theorem b_need {F_check_asked : FSpec} {F_needed : FSpec} (g : Glb mg) (c_check_asked : Cal P w K mg base 7 "check_asked" (spF 6 F_check_asked K)) (c_needed : Cal P w K mg base 2 "needed" (spF 6 F_needed K)) (cdv : Value) (A : Around) (outer : List PySem.Env) (s : Shared) (H : Hp) (E : XK) (hr : Room 7 (A.deeper (envOfC "need" (defScope s_need) s.heap.objs.size f cdv))) :
    PSsd (cxOf CX0 P w K mg base N_need "need" (defScope s_need) f cdv A outer s H E).nox (defBody s_need) (w_need F_check_asked F_needed) := by
  unfold w_need
  exact dss_cons (ds_expr (de_call c_check_asked hr (by decide) (by rfl) (da_cons (de_var (pv 0)) (da_cons (de_var (pv 1)) (da_cons (de_var (pv 2)) (da_cons (de_var (pv 3)) (da_cons (de_var (pv 4)) (da_cons (de_var (pv 5)) da_nil)))))))) (dss_one (ds_ret (de_call c_needed hr (by decide) (by rfl) (da_cons (de_var (pv 0)) (da_cons (de_var (pv 1)) (da_cons (de_var (pv 2)) (da_cons (de_var (pv 3)) (da_cons (de_var (pv 4)) (da_cons (de_var (pv 5)) da_nil)))))))))
theorem e_need (a0 a1 a2 a3 a4 a5 : D) : env0 N_need [a0, a1, a2, a3, a4, a5] = [.fz a0, .fz a1, .fz a2, .fz a3, .fz a4, .fz a5] := rfl
theorem cal_need {F : FSpec} {F_check_asked : FSpec} {F_needed : FSpec} (D : DefOk K mg "need" s_need p_need) (g : Glb mg) (c_check_asked : Cal P w K mg base 7 "check_asked" (spF 6 F_check_asked K)) (c_needed : Cal P w K mg base 2 "needed" (spF 6 F_needed K)) (hF : ∀ as R, as.length = 6 → F as R → w_need F_check_asked F_needed { nx := fun _ => R .non, rt := fun d _ => R d } (env0 N_need as)) : Cal P w K mg base 8 "need" (spF 6 F K) := by
  obtain ⟨fa, fd, Fn, hm, hb⟩ := D.ex
  exact ⟨fa, fd, p_need, fn_pure Fn sc_need (fun cdv A outer s H E hr => b_need g c_check_asked c_needed cdv A outer s H E hr) hF, hm, Fn.kp, hb⟩
/-! ### capped -/
abbrev s_capped : Stmt := topS 50
abbrev N_capped : List Str := ["votes", "rule", "out", "mark", "party", "number", "most", "share"]
abbrev p_capped : List Str := ["votes", "rule", "out", "mark", "party", "number"]
theorem sc_capped : FnScope N_capped p_capped (defScope s_capped) := ⟨rfl, rfl, rfl, by decide +kernel, rfl, by decide +kernel, by decide +kernel⟩
def w_capped (F_votes_ahead : FSpec) (F_least_votes : FSpec) : DS := sSeq (sIf (tB1 (dBin gGe (dVar 5) (dCB gLen (aCons (dBin gIx (dVar 1) (dC (.int 0))) aNil)))) (sRet (dBin gIx (dBin gIx (dVar 2) (dC (.int 2))) (dVar 4))) sNext) (sSeq (sAsg (dBin gSub (dCB gMax2 (aCons (dCall 3 F_votes_ahead (aCons (dBin gIx (dBin gIx (dVar 1) (dC (.int 0))) (dVar 5)) (aCons (dVar 3) (aCons (dVar 4) aNil)))) (aCons (dCall 3 F_least_votes (aCons (dVar 0) (aCons (dVar 1) (aCons (dVar 2) aNil)))) aNil))) (dC (.int 1))) (.nm 6)) (sSeq (sAsg (dCB gMin2 (aCons (dBin gIx (dBin gIx (dVar 2) (dC (.int 2))) (dVar 4)) (aCons (dBin gSub (dVar 6) (dBin gIx (dVar 0) (dVar 4))) aNil))) (.nm 7)) (sRet (dIf (tB1 (dBin gGe (dVar 7) (dBin gIx (dBin gIx (dVar 2) (dC (.int 1))) (dVar 4)))) (dVar 7) (dC .non)))))
theorem b_capped {F_votes_ahead : FSpec} {F_least_votes : FSpec} (g : Glb mg) (c_votes_ahead : Cal P w K mg base 1 "votes_ahead" (spF 3 F_votes_ahead K)) (c_least_votes : Cal P w K mg base 1 "least_votes" (spF 3 F_least_votes K)) (cdv : Value) (A : Around) (outer : List PySem.Env) (s : Shared) (H : Hp) (E : XK) (hr : Room 1 (A.deeper (envOfC "capped" (defScope s_capped) s.heap.objs.size f cdv))) :
    PSsd (cxOf CX0 P w K mg base N_capped "capped" (defScope s_capped) f cdv A outer s H E).nox (defBody s_capped) (w_capped F_votes_ahead F_least_votes) := by
  unfold w_capped
  exact dss_cons (ds_if (dt_cmp (opd_ge hr.units) (de_var (pv 5)) ((de_callB1 cd_len (by rfl) g.b_len rfl ((de_ix ixd_ix (de_var (pv 1)) ((de_int).toS) (fun _ _ => rfl)).toS)).toS) (nomark _)) (dss_one (ds_ret (de_ix ixd_ix (de_ix ixd_ix (de_var (pv 2)) ((de_int).toS) (fun _ _ => rfl)) ((de_var (pv 4)).toS) (fun _ _ => rfl)))) dss_nil) (dss_cons (ds_set (ps_set (i := 6) sc_capped.nd rfl (by first | exact .inl rfl | exact .inr rfl) (de_bin opd_subA (de_callB (cd_max2 rfl) (by rfl) g.b_max rfl (da_cons (de_call c_votes_ahead hr (by decide) (by rfl) (da_cons (de_ix ixd_ix (de_ix ixd_ix (de_var (pv 1)) ((de_int).toS) (fun _ _ => rfl)) ((de_var (pv 5)).toS) (fun _ _ => rfl)) (da_cons (de_var (pv 3)) (da_cons (de_var (pv 4)) da_nil)))) (da_cons (de_call c_least_votes hr (by decide) (by rfl) (da_cons (de_var (pv 0)) (da_cons (de_var (pv 1)) (da_cons (de_var (pv 2)) da_nil)))) da_nil))) ((de_int).toS)))) (dss_cons (ds_set (ps_set (i := 7) sc_capped.nd rfl (by first | exact .inl rfl | exact .inr rfl) (de_callB (cd_min2 rfl) (by rfl) g.b_min rfl (da_cons (de_ix ixd_ix (de_ix ixd_ix (de_var (pv 2)) ((de_int).toS) (fun _ _ => rfl)) ((de_var (pv 4)).toS) (fun _ _ => rfl)) (da_cons (de_bin opd_subA (de_var (pv 6)) ((de_ix ixd_ix (de_var (pv 0)) ((de_var (pv 4)).toS) (fun _ _ => rfl)).toS)) da_nil))))) (dss_one (ds_ret (de_if (dt_cmp (opd_ge hr.units) (de_var (pv 7)) ((de_ix ixd_ix (de_ix ixd_ix (de_var (pv 2)) ((de_int).toS) (fun _ _ => rfl)) ((de_var (pv 4)).toS) (fun _ _ => rfl)).toS) (nomark _)) (de_var (pv 7)) de_non)))))
theorem e_capped (a0 a1 a2 a3 a4 a5 : D) : env0 N_capped [a0, a1, a2, a3, a4, a5] = [.fz a0, .fz a1, .fz a2, .fz a3, .fz a4, .fz a5, .no, .no] := rfl
theorem cal_capped {F : FSpec} {F_votes_ahead : FSpec} {F_least_votes : FSpec} (D : DefOk K mg "capped" s_capped p_capped) (g : Glb mg) (c_votes_ahead : Cal P w K mg base 1 "votes_ahead" (spF 3 F_votes_ahead K)) (c_least_votes : Cal P w K mg base 1 "least_votes" (spF 3 F_least_votes K)) (hF : ∀ as R, as.length = 6 → F as R → w_capped F_votes_ahead F_least_votes { nx := fun _ => R .non, rt := fun d _ => R d } (env0 N_capped as)) : Cal P w K mg base 2 "capped" (spF 6 F K) := by
  obtain ⟨fa, fd, Fn, hm, hb⟩ := D.ex
  exact ⟨fa, fd, p_capped, fn_pure Fn sc_capped (fun cdv A outer s H E hr => b_capped g c_votes_ahead c_least_votes cdv A outer s H E hr) hF, hm, Fn.kp, hb⟩
/-! ### cap -/
abbrev s_cap : Stmt := topS 53
abbrev N_cap : List Str := ["votes", "rule", "out", "mark", "party", "number"]
abbrev p_cap : List Str := ["votes", "rule", "out", "mark", "party", "number"]
theorem sc_cap : FnScope N_cap p_cap (defScope s_cap) := ⟨rfl, rfl, rfl, by decide +kernel, rfl, by decide +kernel, by decide +kernel⟩
def w_cap (F_check_asked : FSpec) (F_capped : FSpec) : DS := sSeq (sDrop (dCall 6 F_check_asked (aCons (dVar 0) (aCons (dVar 1) (aCons (dVar 2) (aCons (dVar 3) (aCons (dVar 4) (aCons (dVar 5) aNil)))))))) (sRet (dCall 6 F_capped (aCons (dVar 0) (aCons (dVar 1) (aCons (dVar 2) (aCons (dVar 3) (aCons (dVar 4) (aCons (dVar 5) aNil))))))))
theorem b_cap {F_check_asked : FSpec} {F_capped : FSpec} (g : Glb mg) (c_check_asked : Cal P w K mg base 7 "check_asked" (spF 6 F_check_asked K)) (c_capped : Cal P w K mg base 2 "capped" (spF 6 F_capped K)) (cdv : Value) (A : Around) (outer : List PySem.Env) (s : Shared) (H : Hp) (E : XK) (hr : Room 7 (A.deeper (envOfC "cap" (defScope s_cap) s.heap.objs.size f cdv))) :
    PSsd (cxOf CX0 P w K mg base N_cap "cap" (defScope s_cap) f cdv A outer s H E).nox (defBody s_cap) (w_cap F_check_asked F_capped) := by
  unfold w_cap
  exact dss_cons (ds_expr (de_call c_check_asked hr (by decide) (by rfl) (da_cons (de_var (pv 0)) (da_cons (de_var (pv 1)) (da_cons (de_var (pv 2)) (da_cons (de_var (pv 3)) (da_cons (de_var (pv 4)) (da_cons (de_var (pv 5)) da_nil)))))))) (dss_one (ds_ret (de_call c_capped hr (by decide) (by rfl) (da_cons (de_var (pv 0)) (da_cons (de_var (pv 1)) (da_cons (de_var (pv 2)) (da_cons (de_var (pv 3)) (da_cons (de_var (pv 4)) (da_cons (de_var (pv 5)) da_nil)))))))))
theorem e_cap (a0 a1 a2 a3 a4 a5 : D) : env0 N_cap [a0, a1, a2, a3, a4, a5] = [.fz a0, .fz a1, .fz a2, .fz a3, .fz a4, .fz a5] := rfl
theorem cal_cap {F : FSpec} {F_check_asked : FSpec} {F_capped : FSpec} (D : DefOk K mg "cap" s_cap p_cap) (g : Glb mg) (c_check_asked : Cal P w K mg base 7 "check_asked" (spF 6 F_check_asked K)) (c_capped : Cal P w K mg base 2 "capped" (spF 6 F_capped K)) (hF : ∀ as R, as.length = 6 → F as R → w_cap F_check_asked F_capped { nx := fun _ => R .non, rt := fun d _ => R d } (env0 N_cap as)) : Cal P w K mg base 8 "cap" (spF 6 F K) := by
  obtain ⟨fa, fd, Fn, hm, hb⟩ := D.ex
  exact ⟨fa, fd, p_cap, fn_pure Fn sc_cap (fun cdv A outer s H E hr => b_cap g c_check_asked c_capped cdv A outer s H E hr) hF, hm, Fn.kp, hb⟩
/-! ### _law_ahead -/
abbrev s__law_ahead : Stmt := topS 62
abbrev N__law_ahead : List Str := ["votes", "rule", "mark", "party", "top", "low", "place", "one"]
abbrev p__law_ahead : List Str := ["votes", "rule", "mark", "party"]
theorem sc__law_ahead : FnScope N__law_ahead p__law_ahead (defScope s__law_ahead) := ⟨rfl, rfl, rfl, by decide +kernel, rfl, by decide +kernel, by decide +kernel⟩
def w__law_ahead : DS := sSeq (sAsg (dVar 2) (.tp [.nm 4, .nm 5, .nm 6])) (sRet (dCB gLen (aCons (dFz (fLc (iSeq (dBin gIx (dVar 1) (dC (.int 0)))) (.nm 7) (tOr1 (tB1 (dBin gGt (dBin gMul (dVar 0) (dVar 5)) (dBin gMul (dVar 4) (dVar 7)))) (tAnd1 (tB1 (dBin gEq (dBin gMul (dVar 0) (dVar 5)) (dBin gMul (dVar 4) (dVar 7)))) (tB1 (dBin gLt (dVar 3) (dVar 6))))) (dVar 7) [7])) aNil)))
theorem b__law_ahead (g : Glb mg) (cdv : Value) (A : Around) (outer : List PySem.Env) (s : Shared) (H : Hp) (E : XK) (hr : Room 0 (A.deeper (envOfC "_law_ahead" (defScope s__law_ahead) s.heap.objs.size f cdv))) :
    PSsd (cxOf CX0 P w K mg base N__law_ahead "_law_ahead" (defScope s__law_ahead) f cdv A outer s H E).nox (defBody s__law_ahead) (w__law_ahead) := by
  unfold w__law_ahead
  exact dss_cons (ds_asg (de_var (pv 2)) (pgd_tp rfl (pgsd_cons (pgd_nm (pg_name (i := 4) sc__law_ahead.nd rfl (by first | exact .inl rfl | exact .inr rfl))) (pgsd_cons (pgd_nm (pg_name (i := 5) sc__law_ahead.nd rfl (by first | exact .inl rfl | exact .inr rfl))) (pgsd_cons (pgd_nm (pg_name (i := 6) sc__law_ahead.nd rfl (by first | exact .inl rfl | exact .inr rfl))) pgsd_nil))))) (dss_one (ds_ret (de_callB1 cd_len (by rfl) g.b_len rfl ((de_fz (df_lc (own := [("one", 7)]) rfl sc__law_ahead.nd (di_seq (de_ix ixd_ix (de_var (pv 1)) ((de_int).toS) (fun _ _ => rfl))) (blkOk_by (by show blkC N__law_ahead (defScope s__law_ahead) _ [("one", 7)] = true; decide +kernel)) (fun _ _ _ _ _ => pgd_nm (pg_name (i := 7) sc__law_ahead.nd rfl (by first | exact .inl rfl | exact .inr rfl))) (fun _ _ _ _ _ => dts_one (dt_pw (dw_or (dt_cmp (opd_gt hr.units) (de_bin opd_mulA (de_var (pv 0)) ((de_var (pv 5)).toS)) ((de_bin opd_mulA (de_var (pv 4)) ((de_var (pv 7)).toS)).toS) (nomark _)) (dw_or1 (dt_pw (dw_and (dt_cmp (opd_eq hr.units) (de_bin opd_mulA (de_var (pv 0)) ((de_var (pv 5)).toS)) ((de_bin opd_mulA (de_var (pv 4)) ((de_var (pv 7)).toS)).toS) (nomark _)) (dw_and1 (dt_cmp (opd_lt hr.units) (de_var (pv 3)) ((de_var (pv 6)).toS) (nomark _))))))))) (fun _ _ _ _ _ => de_var (pv 7)) rfl (by decide))).toS))))
theorem e__law_ahead (a0 a1 a2 a3 : D) : env0 N__law_ahead [a0, a1, a2, a3] = [.fz a0, .fz a1, .fz a2, .fz a3, .no, .no, .no, .no] := rfl
theorem cal__law_ahead {F : FSpec} (D : DefOk K mg "_law_ahead" s__law_ahead p__law_ahead) (g : Glb mg) (hF : ∀ as R, as.length = 4 → F as R → w__law_ahead { nx := fun _ => R .non, rt := fun d _ => R d } (env0 N__law_ahead as)) : Cal P w K mg base 1 "_law_ahead" (spF 4 F K) := by
  obtain ⟨fa, fd, Fn, hm, hb⟩ := D.ex
  exact ⟨fa, fd, p__law_ahead, fn_pure Fn sc__law_ahead (fun cdv A outer s H E hr => b__law_ahead g cdv A outer s H E hr) hF, hm, Fn.kp, hb⟩
/-! ### is_mark -/
abbrev s_is_mark : Stmt := topS 46
abbrev N_is_mark : List Str := ["votes", "value"]
abbrev p_is_mark : List Str := ["votes", "value"]
theorem sc_is_mark : FnScope N_is_mark p_is_mark (defScope s_is_mark) := ⟨rfl, rfl, rfl, by decide +kernel, rfl, by decide +kernel, by decide +kernel⟩
def w_is_mark (F_check_votes : FSpec) (F_is_mark_of : FSpec) : DS := sSeq (sDrop (dCall 1 F_check_votes (aCons (dVar 0) aNil))) (sRet (dCall 2 F_is_mark_of (aCons (dVar 0) (aCons (dVar 1) aNil))))
theorem b_is_mark {F_check_votes : FSpec} {F_is_mark_of : FSpec} (g : Glb mg) (c_check_votes : Cal P w K mg base 5 "check_votes" (spF 1 F_check_votes K)) (c_is_mark_of : Cal P w K mg base 2 "is_mark_of" (spF 2 F_is_mark_of K)) (cdv : Value) (A : Around) (outer : List PySem.Env) (s : Shared) (H : Hp) (E : XK) (hr : Room 5 (A.deeper (envOfC "is_mark" (defScope s_is_mark) s.heap.objs.size f cdv))) :
    PSsd (cxOf CX0 P w K mg base N_is_mark "is_mark" (defScope s_is_mark) f cdv A outer s H E).nox (defBody s_is_mark) (w_is_mark F_check_votes F_is_mark_of) := by
  unfold w_is_mark
  exact dss_cons (ds_expr (de_call c_check_votes hr (by decide) (by rfl) (da_cons (de_var (pv 0)) da_nil))) (dss_one (ds_ret (de_call c_is_mark_of hr (by decide) (by rfl) (da_cons (de_var (pv 0)) (da_cons (de_var (pv 1)) da_nil)))))
theorem e_is_mark (a0 a1 : D) : env0 N_is_mark [a0, a1] = [.fz a0, .fz a1] := rfl
theorem cal_is_mark {F : FSpec} {F_check_votes : FSpec} {F_is_mark_of : FSpec} (D : DefOk K mg "is_mark" s_is_mark p_is_mark) (g : Glb mg) (c_check_votes : Cal P w K mg base 5 "check_votes" (spF 1 F_check_votes K)) (c_is_mark_of : Cal P w K mg base 2 "is_mark_of" (spF 2 F_is_mark_of K)) (hF : ∀ as R, as.length = 2 → F as R → w_is_mark F_check_votes F_is_mark_of { nx := fun _ => R .non, rt := fun d _ => R d } (env0 N_is_mark as)) : Cal P w K mg base 6 "is_mark" (spF 2 F K) := by
  obtain ⟨fa, fd, Fn, hm, hb⟩ := D.ex
  exact ⟨fa, fd, p_is_mark, fn_pure Fn sc_is_mark (fun cdv A outer s H E hr => b_is_mark g c_check_votes c_is_mark_of cdv A outer s H E hr) hF, hm, Fn.kp, hb⟩
/-! ### _law_is_mark_right -/
abbrev s__law_is_mark_right : Stmt := topS 63
abbrev N__law_is_mark_right : List Str := ["pot", "votes", "rule", "out", "mark", "party", "bar", "number", "many", "lows", "highs", "rows", "share", "told", "most", "has", "ahead"]
abbrev p__law_is_mark_right : List Str := ["pot", "votes", "rule", "out", "mark", "party"]
theorem sc__law_is_mark_right : FnScope N__law_is_mark_right p__law_is_mark_right (defScope s__law_is_mark_right) := ⟨rfl, rfl, rfl, by decide +kernel, rfl, by decide +kernel, by decide +kernel⟩
def w__law_is_mark_right (F__law_take : PSpec) (F_need : FSpec) (F_cap : FSpec) (F__law_ahead : FSpec) (F_is_mark : FSpec) : DS := sSeq (sAsg (dVar 3) (.tp [.nm 8, .nm 9, .nm 10])) (sSeq (sAsg (dBin gMul (dBin gIx (dVar 2) (dC (.int 2))) (dBin gAdd (dCB gSum (aCons (dVar 1) aNil)) (dVar 8))) (.nm 6)) (sSeq (sFor (iSeq (dTup (aCons (dC (.int 0)) (aCons (dC (.int 1)) (aCons (dBin gIx (dVar 2) (dC (.int 1))) (aCons (dCallP 1 F__law_take 0 (aCons (dBin gAdd (dBin gIx (dVar 2) (dC (.int 1))) (dC (.int 1))) aNil)) aNil)))))) (.nm 7) (sSeq (sPar 13 14 (dCall 6 F_need (aCons (dVar 1) (aCons (dVar 2) (aCons (dVar 3) (aCons (dVar 4) (aCons (dVar 5) (aCons (dVar 7) aNil))))))) (dCall 6 F_cap (aCons (dVar 1) (aCons (dVar 2) (aCons (dVar 3) (aCons (dVar 4) (aCons (dVar 5) (aCons (dVar 7) aNil)))))))) (sSeq (sOwn 11 (fLst aNil)) (sSeq (sFor (iSeq (dTup (aCons (dVar 13) (aCons (dIf (tB1 (dBin gIsN (dVar 13) (dC .non))) (dC .non) (dBin gSub (dVar 13) (dC (.int 1)))) (aCons (dVar 14) (aCons (dIf (tB1 (dBin gIsN (dVar 14) (dC .non))) (dC .non) (dBin gAdd (dVar 14) (dC (.int 1)))) (aCons (dBin gIx (dVar 9) (dVar 5)) (aCons (dBin gIx (dVar 10) (dVar 5)) aNil)))))))) (.nm 12) (sSeq (sAsg (dBin gAdd (dBin gIx (dVar 1) (dVar 5)) (dIf (tB1 (dBin gNotN (dVar 12) (dC .non))) (dVar 12) (dC (.int 0)))) (.nm 15)) (sSeq (sAsg (dIf (tB1 (dBin gGe (dBin gMul (dC (.int 100)) (dVar 15)) (dVar 6))) (dCall 4 F__law_ahead (aCons (dVar 15) (aCons (dVar 2) (aCons (dVar 4) (aCons (dVar 5) aNil))))) (dC (.int 0))) (.nm 16)) (sApp 11 (dVar 16))))) (sFrz 11 (sSeq (sIf (tOr1 (tAnd1 (tB1 (dBin gIsN (dVar 13) (dC .non))) (tB1 (dBin gGe (dBin gIx (dVar 11) (dC (.int 5))) (dVar 7)))) (tAnd1 (tB1 (dBin gIsN (dVar 14) (dC .non))) (tB1 (dBin gLe (dBin gIx (dVar 11) (dC (.int 4))) (dVar 7))))) (sRet (dC (.bl false))) sNext) (sSeq (sIf (tB1 (dBin gNotN (dVar 13) (dC .non))) (sIf (tOr1 (tB1 (dBin gLt (dBin gIx (dVar 11) (dC (.int 0))) (dVar 7))) (tOr1 (tNot1 (tB1 (dChain gLe gLe (dBin gIx (dVar 9) (dVar 5)) (dVar 13) (dBin gIx (dVar 10) (dVar 5))))) (tAnd1 (tB1 (dBin gGt (dVar 13) (dBin gIx (dVar 9) (dVar 5)))) (tB1 (dBin gGe (dBin gIx (dVar 11) (dC (.int 1))) (dVar 7)))))) (sRet (dC (.bl false))) sNext) sNext) (sIf (tB1 (dBin gNotN (dVar 14) (dC .non))) (sIf (tOr1 (tB1 (dBin gGt (dBin gIx (dVar 11) (dC (.int 2))) (dVar 7))) (tOr1 (tNot1 (tB1 (dChain gLe gLe (dBin gIx (dVar 9) (dVar 5)) (dVar 14) (dBin gIx (dVar 10) (dVar 5))))) (tAnd1 (tB1 (dBin gLt (dVar 14) (dBin gIx (dVar 10) (dVar 5)))) (tB1 (dBin gLe (dBin gIx (dVar 11) (dC (.int 3))) (dVar 7)))))) (sRet (dC (.bl false))) sNext) sNext)))))))) (sRet (dCall 2 F_is_mark (aCons (dVar 1) (aCons (dVar 4) aNil))))))
theorem b__law_is_mark_right {F__law_take : PSpec} {F_need : FSpec} {F_cap : FSpec} {F__law_ahead : FSpec} {F_is_mark : FSpec} (g : Glb mg) (c__law_take : Cal P w K mg base 1 "_law_take" (spP 1 F__law_take K)) (c_need : Cal P w K mg base 8 "need" (spF 6 F_need K)) (c_cap : Cal P w K mg base 8 "cap" (spF 6 F_cap K)) (c__law_ahead : Cal P w K mg base 1 "_law_ahead" (spF 4 F__law_ahead K)) (c_is_mark : Cal P w K mg base 6 "is_mark" (spF 2 F_is_mark K)) (cdv : Value) (A : Around) (outer : List PySem.Env) (s : Shared) (H : Hp) (E : XK) (hr : Room 8 (A.deeper (envOfC "_law_is_mark_right" (defScope s__law_is_mark_right) s.heap.objs.size f cdv))) :
    PSsd (cxOf CX0 P w K mg base N__law_is_mark_right "_law_is_mark_right" (defScope s__law_is_mark_right) f cdv A outer s H E).nox (defBody s__law_is_mark_right) (w__law_is_mark_right F__law_take F_need F_cap F__law_ahead F_is_mark) := by
  unfold w__law_is_mark_right
  exact dss_cons (ds_asg (de_var (pv 3)) (pgd_tp rfl (pgsd_cons (pgd_nm (pg_name (i := 8) sc__law_is_mark_right.nd rfl (by first | exact .inl rfl | exact .inr rfl))) (pgsd_cons (pgd_nm (pg_name (i := 9) sc__law_is_mark_right.nd rfl (by first | exact .inl rfl | exact .inr rfl))) (pgsd_cons (pgd_nm (pg_name (i := 10) sc__law_is_mark_right.nd rfl (by first | exact .inl rfl | exact .inr rfl))) pgsd_nil))))) (dss_cons (ds_set (ps_set (i := 6) sc__law_is_mark_right.nd rfl (by first | exact .inl rfl | exact .inr rfl) (de_bin opd_mulA (de_ix ixd_ix (de_var (pv 2)) ((de_int).toS) (fun _ _ => rfl)) ((de_bin opd_add (de_callB1 (cd_sum rfl) (by rfl) g.b_sum rfl ((de_var (pv 1)).toS)) ((de_var (pv 8)).toS)).toS)))) (dss_cons (ds_for PassesOwn.never rfl (di_seq (de_tup (da_cons de_int (da_cons de_int (da_cons (de_ix ixd_ix (de_var (pv 2)) ((de_int).toS) (fun _ _ => rfl)) (da_cons (de_callP c__law_take hr (by decide) (by rfl) (pv 0) (da_cons (de_bin opd_add (de_ix ixd_ix (de_var (pv 2)) ((de_int).toS) (fun _ _ => rfl)) ((de_int).toS)) da_nil)) da_nil)))))) (pgd_nm (pg_name (i := 7) sc__law_is_mark_right.nd rfl (by first | exact .inl rfl | exact .inr rfl))) (dss_cons (ds_par (as := []) (ps_par (i := 13) (j := 14) rfl sc__law_is_mark_right.nd rfl rfl (by decide) rfl rfl (da_cons (de_call c_need hr (by decide) (by rfl) (da_cons (de_var (pv 1)) (da_cons (de_var (pv 2)) (da_cons (de_var (pv 3)) (da_cons (de_var (pv 4)) (da_cons (de_var (pv 5)) (da_cons (de_var (pv 7)) da_nil))))))) (da_cons (de_call c_cap hr (by decide) (by rfl) (da_cons (de_var (pv 1)) (da_cons (de_var (pv 2)) (da_cons (de_var (pv 3)) (da_cons (de_var (pv 4)) (da_cons (de_var (pv 5)) (da_cons (de_var (pv 7)) da_nil))))))) da_nil)) rfl) (by decide)) (dss_cons (ds_own (ps_set (i := 11) sc__law_is_mark_right.nd rfl (by first | exact .inl rfl | exact .inr rfl) (df_lst da_nil))) (dss_cons (ds_for PassesOwn.never rfl (di_seq (de_tup (da_cons (de_var (pv 13)) (da_cons (de_if (dt_cmp opd_isN (de_var (pv 13)) ((de_non).toS) (nomark _)) de_non (de_bin opd_subA (de_var (pv 13)) ((de_int).toS))) (da_cons (de_var (pv 14)) (da_cons (de_if (dt_cmp opd_isN (de_var (pv 14)) ((de_non).toS) (nomark _)) de_non (de_bin opd_add (de_var (pv 14)) ((de_int).toS))) (da_cons (de_ix ixd_ix (de_var (pv 9)) ((de_var (pv 5)).toS) (fun _ _ => rfl)) (da_cons (de_ix ixd_ix (de_var (pv 10)) ((de_var (pv 5)).toS) (fun _ _ => rfl)) da_nil)))))))) (pgd_nm (pg_name (i := 12) sc__law_is_mark_right.nd rfl (by first | exact .inl rfl | exact .inr rfl))) (dss_cons (ds_set (ps_set (i := 15) sc__law_is_mark_right.nd rfl (by first | exact .inl rfl | exact .inr rfl) (de_bin opd_add (de_ix ixd_ix (de_var (pv 1)) ((de_var (pv 5)).toS) (fun _ _ => rfl)) ((de_if (dt_cmp opd_notN (de_var (pv 12)) ((de_non).toS) (nomark _)) (de_var (pv 12)) de_int).toS)))) (dss_cons (ds_set (ps_set (i := 16) sc__law_is_mark_right.nd rfl (by first | exact .inl rfl | exact .inr rfl) (de_if (dt_cmp (opd_ge hr.units) (de_bin opd_mulA de_int ((de_var (pv 15)).toS)) ((de_var (pv 6)).toS) (nomark _)) (de_call c__law_ahead hr (by decide) (by rfl) (da_cons (de_var (pv 15)) (da_cons (de_var (pv 2)) (da_cons (de_var (pv 4)) (da_cons (de_var (pv 5)) da_nil))))) de_int))) (dss_one (ds_app (pv 11) (de_var (pv 16))))))) (dss_frz (i := 11) (dss_cons (ds_if (dt_pw (dw_or (dt_pw (dw_and (dt_cmp opd_isN (de_var (pv 13)) ((de_non).toS) (nomark _)) (dw_and1 (dt_cmp (opd_ge hr.units) (de_ix ixd_ix (de_var (pv 11)) ((de_int).toS) (fun _ _ => rfl)) ((de_var (pv 7)).toS) (nomark _))))) (dw_or1 (dt_pw (dw_and (dt_cmp opd_isN (de_var (pv 14)) ((de_non).toS) (nomark _)) (dw_and1 (dt_cmp (opd_le hr.units) (de_ix ixd_ix (de_var (pv 11)) ((de_int).toS) (fun _ _ => rfl)) ((de_var (pv 7)).toS) (nomark _)))))))) (dss_one (ds_ret de_bl)) dss_nil) (dss_cons (ds_if (dt_cmp opd_notN (de_var (pv 13)) ((de_non).toS) (nomark _)) (dss_one (ds_if (dt_pw (dw_or (dt_cmp (opd_lt hr.units) (de_ix ixd_ix (de_var (pv 11)) ((de_int).toS) (fun _ _ => rfl)) ((de_var (pv 7)).toS) (nomark _)) (dw_or (dt_not (dt_chain (opd_le hr.units) (opd_le hr.units) (de_ix ixd_ix (de_var (pv 9)) ((de_var (pv 5)).toS) (fun _ _ => rfl)) (de_var (pv 13)) (de_ix ixd_ix (de_var (pv 10)) ((de_var (pv 5)).toS) (fun _ _ => rfl)))) (dw_or1 (dt_pw (dw_and (dt_cmp (opd_gt hr.units) (de_var (pv 13)) ((de_ix ixd_ix (de_var (pv 9)) ((de_var (pv 5)).toS) (fun _ _ => rfl)).toS) (nomark _)) (dw_and1 (dt_cmp (opd_ge hr.units) (de_ix ixd_ix (de_var (pv 11)) ((de_int).toS) (fun _ _ => rfl)) ((de_var (pv 7)).toS) (nomark _))))))))) (dss_one (ds_ret de_bl)) dss_nil)) dss_nil) (dss_one (ds_if (dt_cmp opd_notN (de_var (pv 14)) ((de_non).toS) (nomark _)) (dss_one (ds_if (dt_pw (dw_or (dt_cmp (opd_gt hr.units) (de_ix ixd_ix (de_var (pv 11)) ((de_int).toS) (fun _ _ => rfl)) ((de_var (pv 7)).toS) (nomark _)) (dw_or (dt_not (dt_chain (opd_le hr.units) (opd_le hr.units) (de_ix ixd_ix (de_var (pv 9)) ((de_var (pv 5)).toS) (fun _ _ => rfl)) (de_var (pv 14)) (de_ix ixd_ix (de_var (pv 10)) ((de_var (pv 5)).toS) (fun _ _ => rfl)))) (dw_or1 (dt_pw (dw_and (dt_cmp (opd_lt hr.units) (de_var (pv 14)) ((de_ix ixd_ix (de_var (pv 10)) ((de_var (pv 5)).toS) (fun _ _ => rfl)).toS) (nomark _)) (dw_and1 (dt_cmp (opd_le hr.units) (de_ix ixd_ix (de_var (pv 11)) ((de_int).toS) (fun _ _ => rfl)) ((de_var (pv 7)).toS) (nomark _))))))))) (dss_one (ds_ret de_bl)) dss_nil)) dss_nil))))))))) (dss_one (ds_ret (de_call c_is_mark hr (by decide) (by rfl) (da_cons (de_var (pv 1)) (da_cons (de_var (pv 4)) da_nil)))))))
theorem e__law_is_mark_right (ys : List D) (a0 a1 a2 a3 a4 : D) : envP N__law_is_mark_right ys [a0, a1, a2, a3, a4] = [.ol ys, .fz a0, .fz a1, .fz a2, .fz a3, .fz a4, .no, .no, .no, .no, .no, .no, .no, .no, .no, .no, .no] := rfl
theorem cal__law_is_mark_right {F : PSpec} {F__law_take : PSpec} {F_need : FSpec} {F_cap : FSpec} {F__law_ahead : FSpec} {F_is_mark : FSpec} (D : DefOk K mg "_law_is_mark_right" s__law_is_mark_right p__law_is_mark_right) (g : Glb mg) (c__law_take : Cal P w K mg base 1 "_law_take" (spP 1 F__law_take K)) (c_need : Cal P w K mg base 8 "need" (spF 6 F_need K)) (c_cap : Cal P w K mg base 8 "cap" (spF 6 F_cap K)) (c__law_ahead : Cal P w K mg base 1 "_law_ahead" (spF 4 F__law_ahead K)) (c_is_mark : Cal P w K mg base 6 "is_mark" (spF 2 F_is_mark K)) (hF : ∀ ys as R, as.length = 5 → F ys as R → w__law_is_mark_right F__law_take F_need F_cap F__law_ahead F_is_mark { nx := fun env => ∃ zs, env[0]? = some (.ol zs) ∧ R .non zs, rt := fun d env => ∃ zs, env[0]? = some (.ol zs) ∧ R d zs } (envP N__law_is_mark_right ys as)) : Cal P w K mg base 9 "_law_is_mark_right" (spP 5 F K) := by
  obtain ⟨fa, fd, Fn, hm, hb⟩ := D.ex
  exact ⟨fa, fd, p__law_is_mark_right, fn_pot Fn sc__law_is_mark_right rfl (fun cdv A outer s H E hr => b__law_is_mark_right g c__law_take c_need c_cap c__law_ahead c_is_mark cdv A outer s H E hr) hF, hm, Fn.kp, hb⟩
/-! ### _law_right -/
abbrev s__law_right : Stmt := topS 65
abbrev N__law_right : List Str := ["pot", "parties", "votes", "rule", "every", "first", "told", "full", "lap", "less", "out", "spot", "mark", "party", "number", "top", "low", "one", "other"]
abbrev p__law_right : List Str := ["pot"]
theorem sc__law_right : FnScope N__law_right p__law_right (defScope s__law_right) := ⟨rfl, rfl, rfl, by decide +kernel, rfl, by decide +kernel, by decide +kernel⟩
def w__law_right (F__law_take : PSpec) (F__law_votes : PSpec) (F__law_rule : PSpec) (F__law_sorted : FSpec) (F_seating : FSpec) (F_sequence : FSpec) (F_next_one : FSpec) (F_price : FSpec) (F_below : FSpec) (F_with_seats : FSpec) (F__law_is_more_right : PSpec) (F__law_out : PSpec) (F__law_of : PSpec) (F__law_is_mark_right : PSpec) : DS := sSeq (sAsg (dBin gAdd (dC (.int 1)) (dCallP 1 F__law_take 0 (aCons (dC (.int 12)) aNil))) (.nm 1)) (sSeq (sAsg (dCallP 1 F__law_votes 0 (aCons (dVar 1) aNil)) (.nm 2)) (sSeq (sAsg (dCallP 2 F__law_rule 0 (aCons (dVar 1) (aCons (dBin gAdd (dC (.int 1)) (dCallP 1 F__law_take 0 (aCons (dC (.int 58)) aNil))) aNil))) (.nm 3)) (sSeq (sAsg (dCall 2 F__law_sorted (aCons (dVar 2) (aCons (dVar 3) aNil))) (.nm 4)) (sSeq (sAsg (dSlice (dVar 4) oNone (oSome (dBin gIx (dVar 3) (dC (.int 1))))) (.nm 5)) (sSeq (sAsg (dCB gTuple (aCons (dFz (fLc (iRan1 (dVar 1)) (.nm 13) tYes1 (dCB gLen (aCons (dFz (fLc (iSeq (dVar 5)) (.tp [.nm 17, .nm 14]) (tB1 (dBin gEq (dVar 17) (dVar 13))) (dC (.int 1)) [17, 14])) aNil)) [13])) aNil)) (.nm 6)) (sSeq (sIf (tOr1 (tB1 (dBin gNe (dCall 2 F_seating (aCons (dVar 2) (aCons (dVar 3) aNil))) (dVar 6))) (tB1 (dBin gNe (dCall 2 F_sequence (aCons (dVar 2) (aCons (dVar 3) aNil))) (dCB gTuple (aCons (dFz (fLc (iSeq (dVar 5)) (.tp [.nm 13, .nm 14]) tYes1 (dVar 13) [13, 14])) aNil))))) (sRet (dC (.bl false))) sNext) (sSeq (sAsg (dFz (fLc (iRan1 (dVar 1)) (.nm 13) (tB1 (dBin gEq (dBin gIx (dVar 6) (dVar 13)) (dCB gLen (aCons (dBin gIx (dVar 3) (dC (.int 0))) aNil)))) (dVar 13) [13])) (.nm 7)) (sSeq (sIf (tB1 (dBin gNe (dCall 2 F_next_one (aCons (dVar 2) (aCons (dVar 3) aNil))) (dIf (tB1 (dBin gNe (dVar 7) (dLst aNil))) (dC .non) (dBin gIx (dBin gIx (dVar 4) (dBin gIx (dVar 3) (dC (.int 1)))) (dC (.int 0)))))) (sRet (dC (.bl false))) sNext) (sSeq (sAsg (dBin gIx (dVar 5) (dNeg (dC (.int 1)))) (.tp [.nm 13, .nm 14])) (sSeq (sAsg (dCall 2 F_price (aCons (dVar 2) (aCons (dVar 3) aNil))) (.tp [.nm 15, .nm 16])) (sSeq (sPar 17 18 (dVar 15) (dVar 16)) (sSeq (sFor (iRan1 (dC (.int 60))) (.nm 8) (sIf (tB1 (dBin gGt (dVar 18) (dC (.int 0)))) (sPar 17 18 (dVar 18) (dBin gMod (dCB gInt1 (aCons (dVar 17) aNil)) (dVar 18))) sNext)) (sSeq (sIf (tOr1 (tB1 (dBin gNe (dBin gMul (dVar 15) (dBin gIx (dBin gIx (dVar 3) (dC (.int 0))) (dVar 14))) (dBin gMul (dBin gIx (dVar 2) (dVar 13)) (dVar 16)))) (tOr1 (tB1 (dBin gNe (dVar 17) (dC (.int 1)))) (tB1 (dBin gLt (dVar 16) (dC (.int 1)))))) (sRet (dC (.bl false))) sNext) (sSeq (sIf (tB1 (dBin gNe (dCall 2 F_below (aCons (dVar 2) (aCons (dVar 3) aNil))) (dCB gTuple (aCons (dFz (fLc (iRan1 (dVar 1)) (.nm 17) (tB1 (dBin gLt (dBin gMul (dBin gIx (dVar 2) (dVar 17)) (dC (.int 100))) (dBin gMul (dBin gIx (dVar 3) (dC (.int 2))) (dCB gSum (aCons (dVar 2) aNil))))) (dVar 17) [17])) aNil)))) (sRet (dC (.bl false))) sNext) (sSeq (sAsg (dBin gAdd (dC (.int 1)) (dCallP 1 F__law_take 0 (aCons (dBin gIx (dVar 3) (dC (.int 1))) aNil))) (.nm 9)) (sSeq (sIf (tB1 (dBin gNe (dCall 2 F_sequence (aCons (dVar 2) (aCons (dCall 2 F_with_seats (aCons (dTup (aCons (dBin gIx (dVar 3) (dC (.int 0))) (aCons (dBin gIx (dVar 3) (dC (.int 1))) (aCons (dBin gIx (dVar 3) (dC (.int 2))) aNil)))) (aCons (dVar 9) aNil))) aNil))) (dSlice (dCall 2 F_sequence (aCons (dVar 2) (aCons (dVar 3) aNil))) oNone (oSome (dVar 9))))) (sRet (dC (.bl false))) sNext) (sSeq (sIf (tNot1 (tB1 (dCallP 3 F__law_is_more_right 0 (aCons (dVar 2) (aCons (dVar 3) (aCons (dVar 6) aNil)))))) (sRet (dC (.bl false))) sNext) (sSeq (sIf (tB1 (dBin gLt (dVar 1) (dC (.int 2)))) (sRet (dC (.bl true))) sNext) (sSeq (sAsg (dCallP 2 F__law_out 0 (aCons (dVar 1) (aCons (dCallP 1 F__law_of 0 (aCons (dLst (aCons (dC (.int 3)) (aCons (dC (.int 50)) (aCons (dBin gAdd (dBin gDiv (dCB gMax1 (aCons (dVar 2) aNil)) (dC (.int 4))) (dC (.int 1))) aNil)))) aNil)) aNil))) (.nm 10)) (sSeq (sAsg (dCallP 1 F__law_of 0 (aCons (dVar 4) aNil)) (.nm 11)) (sSeq (sAsg (dTup (aCons (dBin gAdd (dBin gIx (dVar 2) (dBin gIx (dVar 11) (dC (.int 0)))) (dCallP 1 F__law_of 0 (aCons (dLst (aCons (dC (.int 0)) (aCons (dC (.int 0)) (aCons (dC (.int 1)) aNil)))) aNil))) (aCons (dBin gIx (dBin gIx (dVar 3) (dC (.int 0))) (dBin gIx (dVar 11) (dC (.int 1)))) (aCons (dCallP 1 F__law_take 0 (aCons (dBin gAdd (dVar 1) (dC (.int 1))) aNil)) aNil)))) (.nm 12)) (sRet (dCallP 5 F__law_is_mark_right 0 (aCons (dVar 2) (aCons (dVar 3) (aCons (dVar 10) (aCons (dVar 12) (aCons (dCallP 1 F__law_take 0 (aCons (dVar 1) aNil)) aNil))))))))))))))))))))))))))))
theorem b__law_right {F__law_take : PSpec} {F__law_votes : PSpec} {F__law_rule : PSpec} {F__law_sorted : FSpec} {F_seating : FSpec} {F_sequence : FSpec} {F_next_one : FSpec} {F_price : FSpec} {F_below : FSpec} {F_with_seats : FSpec} {F__law_is_more_right : PSpec} {F__law_out : PSpec} {F__law_of : PSpec} {F__law_is_mark_right : PSpec} (g : Glb mg) (c__law_take : Cal P w K mg base 1 "_law_take" (spP 1 F__law_take K)) (c__law_votes : Cal P w K mg base 3 "_law_votes" (spP 1 F__law_votes K)) (c__law_rule : Cal P w K mg base 3 "_law_rule" (spP 2 F__law_rule K)) (c__law_sorted : Cal P w K mg base 1 "_law_sorted" (spF 2 F__law_sorted K)) (c_seating : Cal P w K mg base 8 "seating" (spF 2 F_seating K)) (c_sequence : Cal P w K mg base 8 "sequence" (spF 2 F_sequence K)) (c_next_one : Cal P w K mg base 8 "next_one" (spF 2 F_next_one K)) (c_price : Cal P w K mg base 8 "price" (spF 2 F_price K)) (c_below : Cal P w K mg base 8 "below" (spF 2 F_below K)) (c_with_seats : Cal P w K mg base 7 "with_seats" (spF 2 F_with_seats K)) (c__law_is_more_right : Cal P w K mg base 9 "_law_is_more_right" (spP 3 F__law_is_more_right K)) (c__law_out : Cal P w K mg base 3 "_law_out" (spP 2 F__law_out K)) (c__law_of : Cal P w K mg base 2 "_law_of" (spP 1 F__law_of K)) (c__law_is_mark_right : Cal P w K mg base 9 "_law_is_mark_right" (spP 5 F__law_is_mark_right K)) (cdv : Value) (A : Around) (outer : List PySem.Env) (s : Shared) (H : Hp) (E : XK) (hr : Room 9 (A.deeper (envOfC "_law_right" (defScope s__law_right) s.heap.objs.size f cdv))) :
    PSsd (cxOf CX0 P w K mg base N__law_right "_law_right" (defScope s__law_right) f cdv A outer s H E).nox (defBody s__law_right) (w__law_right F__law_take F__law_votes F__law_rule F__law_sorted F_seating F_sequence F_next_one F_price F_below F_with_seats F__law_is_more_right F__law_out F__law_of F__law_is_mark_right) := by
  unfold w__law_right
  exact dss_cons (ds_set (ps_set (i := 1) sc__law_right.nd rfl (by first | exact .inl rfl | exact .inr rfl) (de_bin opd_add de_int ((de_callP c__law_take hr (by decide) (by rfl) (pv 0) (da_cons de_int da_nil)).toS)))) (dss_cons (ds_set (ps_set (i := 2) sc__law_right.nd rfl (by first | exact .inl rfl | exact .inr rfl) (de_callP c__law_votes hr (by decide) (by rfl) (pv 0) (da_cons (de_var (pv 1)) da_nil)))) (dss_cons (ds_set (ps_set (i := 3) sc__law_right.nd rfl (by first | exact .inl rfl | exact .inr rfl) (de_callP c__law_rule hr (by decide) (by rfl) (pv 0) (da_cons (de_var (pv 1)) (da_cons (de_bin opd_add de_int ((de_callP c__law_take hr (by decide) (by rfl) (pv 0) (da_cons de_int da_nil)).toS)) da_nil))))) (dss_cons (ds_set (ps_set (i := 4) sc__law_right.nd rfl (by first | exact .inl rfl | exact .inr rfl) (de_call c__law_sorted hr (by decide) (by rfl) (da_cons (de_var (pv 2)) (da_cons (de_var (pv 3)) da_nil))))) (dss_cons (ds_set (ps_set (i := 5) sc__law_right.nd rfl (by first | exact .inl rfl | exact .inr rfl) (de_slice (de_var (pv 4)) do_none (do_some (de_ix ixd_ix (de_var (pv 3)) ((de_int).toS) (fun _ _ => rfl)))))) (dss_cons (ds_set (ps_set (i := 6) sc__law_right.nd rfl (by first | exact .inl rfl | exact .inr rfl) (de_callTy1 cd_tuple (by rfl) g.b_tuple rfl ((de_fz (df_lc (own := [("party", 13)]) rfl sc__law_right.nd (di_ran1 (by rfl) g.b_range (de_var (pv 1))) (blkOk_by (by show blkC N__law_right (defScope s__law_right) _ [("party", 13)] = true; decide +kernel)) (fun _ _ _ _ _ => pgd_nm (pg_name (i := 13) sc__law_right.nd rfl (by first | exact .inl rfl | exact .inr rfl))) (fun _ _ _ _ _ => dts_nil) (fun _ _ _ _ _ => de_callB1 cd_len (by rfl) g.b_len rfl ((de_fz (df_lc (own := [("one", 17), ("number", 14)]) rfl sc__law_right.nd (di_seq (de_var (pv 5))) (blkOk_by (by show blkC N__law_right (relS _ (defScope s__law_right)) _ [("one", 17), ("number", 14)] = true; decide +kernel)) (fun _ _ _ _ _ => pgd_tp rfl (pgsd_cons (pgd_nm (pg_name (i := 17) sc__law_right.nd rfl (by first | exact .inl rfl | exact .inr rfl))) (pgsd_cons (pgd_nm (pg_name (i := 14) sc__law_right.nd rfl (by first | exact .inl rfl | exact .inr rfl))) pgsd_nil))) (fun _ _ _ _ _ => dts_one (dt_cmp (opd_eq hr.units) (de_var (pv 17)) ((de_var (pv 13)).toS) (nomark _))) (fun _ _ _ _ _ => de_int) rfl (by decide))).toS)) rfl (by decide))).toS)))) (dss_cons (ds_if (dt_pw (dw_or (dt_cmp (opd_ne hr.units) (de_call c_seating hr (by decide) (by rfl) (da_cons (de_var (pv 2)) (da_cons (de_var (pv 3)) da_nil))) ((de_var (pv 6)).toS) (nomark _)) (dw_or1 (dt_cmp (opd_ne hr.units) (de_call c_sequence hr (by decide) (by rfl) (da_cons (de_var (pv 2)) (da_cons (de_var (pv 3)) da_nil))) ((de_callTy1 cd_tuple (by rfl) g.b_tuple rfl ((de_fz (df_lc (own := [("party", 13), ("number", 14)]) rfl sc__law_right.nd (di_seq (de_var (pv 5))) (blkOk_by (by show blkC N__law_right (defScope s__law_right) _ [("party", 13), ("number", 14)] = true; decide +kernel)) (fun _ _ _ _ _ => pgd_tp rfl (pgsd_cons (pgd_nm (pg_name (i := 13) sc__law_right.nd rfl (by first | exact .inl rfl | exact .inr rfl))) (pgsd_cons (pgd_nm (pg_name (i := 14) sc__law_right.nd rfl (by first | exact .inl rfl | exact .inr rfl))) pgsd_nil))) (fun _ _ _ _ _ => dts_nil) (fun _ _ _ _ _ => de_var (pv 13)) rfl (by decide))).toS)).toS) (nomark _))))) (dss_one (ds_ret de_bl)) dss_nil) (dss_cons (ds_setLc (ps_setLc (i := 7) (own := [("party", 13)]) rfl sc__law_right.nd rfl rfl (sw_true rfl rfl rfl (by decide +kernel)) (di_ran1 (by rfl) g.b_range (de_var (pv 1))) (blkOk_by (by show blkC N__law_right (defScope s__law_right) _ [("party", 13)] = true; decide +kernel)) (fun _ _ _ _ _ => pgd_nm (pg_name (i := 13) sc__law_right.nd rfl (by first | exact .inl rfl | exact .inr rfl))) (fun _ _ _ _ _ => dts_one (dt_cmp (opd_eq hr.units) (de_ix ixd_ix (de_var (pv 6)) ((de_var (pv 13)).toS) (fun _ _ => rfl)) ((de_callB1 cd_len (by rfl) g.b_len rfl ((de_ix ixd_ix (de_var (pv 3)) ((de_int).toS) (fun _ _ => rfl)).toS)).toS) (nomark _))) (fun _ _ _ _ _ => de_var (pv 13))) rfl (by decide)) (dss_cons (ds_if (dt_cmp (opd_ne hr.units) (de_call c_next_one hr (by decide) (by rfl) (da_cons (de_var (pv 2)) (da_cons (de_var (pv 3)) da_nil))) ((de_if (dt_cmp (opd_ne hr.units) (de_var (pv 7)) ((de_lst da_nil).toS) (nomark _)) de_non (de_ix ixd_ix (de_ix ixd_ix (de_var (pv 4)) ((de_ix ixd_ix (de_var (pv 3)) ((de_int).toS) (fun _ _ => rfl)).toS) (fun _ _ => rfl)) ((de_int).toS) (fun _ _ => rfl))).toS) (nomark _)) (dss_one (ds_ret de_bl)) dss_nil) (dss_cons (ds_asg (de_ix ixd_ix (de_var (pv 5)) ((de_neg de_int).toS) (fun _ _ => rfl)) (pgd_tp rfl (pgsd_cons (pgd_nm (pg_name (i := 13) sc__law_right.nd rfl (by first | exact .inl rfl | exact .inr rfl))) (pgsd_cons (pgd_nm (pg_name (i := 14) sc__law_right.nd rfl (by first | exact .inl rfl | exact .inr rfl))) pgsd_nil)))) (dss_cons (ds_asg (de_call c_price hr (by decide) (by rfl) (da_cons (de_var (pv 2)) (da_cons (de_var (pv 3)) da_nil))) (pgd_tp rfl (pgsd_cons (pgd_nm (pg_name (i := 15) sc__law_right.nd rfl (by first | exact .inl rfl | exact .inr rfl))) (pgsd_cons (pgd_nm (pg_name (i := 16) sc__law_right.nd rfl (by first | exact .inl rfl | exact .inr rfl))) pgsd_nil)))) (dss_cons (ds_par (as := []) (ps_par (i := 17) (j := 18) rfl sc__law_right.nd rfl rfl (by decide) rfl rfl (da_cons (de_var (pv 15)) (da_cons (de_var (pv 16)) da_nil)) rfl) (by decide)) (dss_cons (ds_for PassesOwn.never rfl (di_ran1 (by rfl) g.b_range de_int) (pgd_nm (pg_name (i := 8) sc__law_right.nd rfl (by first | exact .inl rfl | exact .inr rfl))) (dss_one (ds_if (dt_cmp (opd_gt hr.units) (de_var (pv 18)) ((de_int).toS) (nomark _)) (dss_one (ds_par (as := []) (ps_par (i := 17) (j := 18) rfl sc__law_right.nd rfl rfl (by decide) rfl rfl (da_cons (de_var (pv 18)) (da_cons (de_bin opd_modA (de_callTy1 cd_int1 (by rfl) g.b_int rfl ((de_var (pv 17)).toS)) ((de_var (pv 18)).toS)) da_nil)) rfl) (by decide))) dss_nil))) (dss_cons (ds_if (dt_pw (dw_or (dt_cmp (opd_ne hr.units) (de_bin opd_mulA (de_var (pv 15)) ((de_ix ixd_ix (de_ix ixd_ix (de_var (pv 3)) ((de_int).toS) (fun _ _ => rfl)) ((de_var (pv 14)).toS) (fun _ _ => rfl)).toS)) ((de_bin opd_mulA (de_ix ixd_ix (de_var (pv 2)) ((de_var (pv 13)).toS) (fun _ _ => rfl)) ((de_var (pv 16)).toS)).toS) (nomark _)) (dw_or (dt_cmp (opd_ne hr.units) (de_var (pv 17)) ((de_int).toS) (nomark _)) (dw_or1 (dt_cmp (opd_lt hr.units) (de_var (pv 16)) ((de_int).toS) (nomark _)))))) (dss_one (ds_ret de_bl)) dss_nil) (dss_cons (ds_if (dt_cmp (opd_ne hr.units) (de_call c_below hr (by decide) (by rfl) (da_cons (de_var (pv 2)) (da_cons (de_var (pv 3)) da_nil))) ((de_callTy1 cd_tuple (by rfl) g.b_tuple rfl ((de_fz (df_lc (own := [("one", 17)]) rfl sc__law_right.nd (di_ran1 (by rfl) g.b_range (de_var (pv 1))) (blkOk_by (by show blkC N__law_right (defScope s__law_right) _ [("one", 17)] = true; decide +kernel)) (fun _ _ _ _ _ => pgd_nm (pg_name (i := 17) sc__law_right.nd rfl (by first | exact .inl rfl | exact .inr rfl))) (fun _ _ _ _ _ => dts_one (dt_cmp (opd_lt hr.units) (de_bin opd_mulA (de_ix ixd_ix (de_var (pv 2)) ((de_var (pv 17)).toS) (fun _ _ => rfl)) ((de_int).toS)) ((de_bin opd_mulA (de_ix ixd_ix (de_var (pv 3)) ((de_int).toS) (fun _ _ => rfl)) ((de_callB1 (cd_sum rfl) (by rfl) g.b_sum rfl ((de_var (pv 2)).toS)).toS)).toS) (nomark _))) (fun _ _ _ _ _ => de_var (pv 17)) rfl (by decide))).toS)).toS) (nomark _)) (dss_one (ds_ret de_bl)) dss_nil) (dss_cons (ds_set (ps_set (i := 9) sc__law_right.nd rfl (by first | exact .inl rfl | exact .inr rfl) (de_bin opd_add de_int ((de_callP c__law_take hr (by decide) (by rfl) (pv 0) (da_cons (de_ix ixd_ix (de_var (pv 3)) ((de_int).toS) (fun _ _ => rfl)) da_nil)).toS)))) (dss_cons (ds_if (dt_cmp (opd_ne hr.units) (de_call c_sequence hr (by decide) (by rfl) (da_cons (de_var (pv 2)) (da_cons (de_call c_with_seats hr (by decide) (by rfl) (da_cons (de_tup (da_cons (de_ix ixd_ix (de_var (pv 3)) ((de_int).toS) (fun _ _ => rfl)) (da_cons (de_ix ixd_ix (de_var (pv 3)) ((de_int).toS) (fun _ _ => rfl)) (da_cons (de_ix ixd_ix (de_var (pv 3)) ((de_int).toS) (fun _ _ => rfl)) da_nil)))) (da_cons (de_var (pv 9)) da_nil))) da_nil))) ((de_slice (de_call c_sequence hr (by decide) (by rfl) (da_cons (de_var (pv 2)) (da_cons (de_var (pv 3)) da_nil))) do_none (do_some (de_var (pv 9)))).toS) (nomark _)) (dss_one (ds_ret de_bl)) dss_nil) (dss_cons (ds_if (dt_not (dt_val (de_callP c__law_is_more_right hr (by decide) (by rfl) (pv 0) (da_cons (de_var (pv 2)) (da_cons (de_var (pv 3)) (da_cons (de_var (pv 6)) da_nil)))))) (dss_one (ds_ret de_bl)) dss_nil) (dss_cons (ds_if (dt_cmp (opd_lt hr.units) (de_var (pv 1)) ((de_int).toS) (nomark _)) (dss_one (ds_ret de_bl)) dss_nil) (dss_cons (ds_set (ps_set (i := 10) sc__law_right.nd rfl (by first | exact .inl rfl | exact .inr rfl) (de_callP c__law_out hr (by decide) (by rfl) (pv 0) (da_cons (de_var (pv 1)) (da_cons (de_callP c__law_of hr (by decide) (by rfl) (pv 0) (da_cons (de_lst (da_cons de_int (da_cons de_int (da_cons (de_bin opd_add (de_bin opd_divA (de_callB1 (cd_max1 rfl hr.units) (by rfl) g.b_max rfl ((de_var (pv 2)).toS)) ((de_int).toS)) ((de_int).toS)) da_nil)))) da_nil)) da_nil))))) (dss_cons (ds_set (ps_set (i := 11) sc__law_right.nd rfl (by first | exact .inl rfl | exact .inr rfl) (de_callP c__law_of hr (by decide) (by rfl) (pv 0) (da_cons (de_var (pv 4)) da_nil)))) (dss_cons (ds_set (ps_set (i := 12) sc__law_right.nd rfl (by first | exact .inl rfl | exact .inr rfl) (de_tup (da_cons (de_bin opd_add (de_ix ixd_ix (de_var (pv 2)) ((de_ix ixd_ix (de_var (pv 11)) ((de_int).toS) (fun _ _ => rfl)).toS) (fun _ _ => rfl)) ((de_callP c__law_of hr (by decide) (by rfl) (pv 0) (da_cons (de_lst (da_cons de_int (da_cons de_int (da_cons de_int da_nil)))) da_nil)).toS)) (da_cons (de_ix ixd_ix (de_ix ixd_ix (de_var (pv 3)) ((de_int).toS) (fun _ _ => rfl)) ((de_ix ixd_ix (de_var (pv 11)) ((de_int).toS) (fun _ _ => rfl)).toS) (fun _ _ => rfl)) (da_cons (de_callP c__law_take hr (by decide) (by rfl) (pv 0) (da_cons (de_bin opd_add (de_var (pv 1)) ((de_int).toS)) da_nil)) da_nil)))))) (dss_one (ds_ret (de_callP c__law_is_mark_right hr (by decide) (by rfl) (pv 0) (da_cons (de_var (pv 2)) (da_cons (de_var (pv 3)) (da_cons (de_var (pv 10)) (da_cons (de_var (pv 12)) (da_cons (de_callP c__law_take hr (by decide) (by rfl) (pv 0) (da_cons (de_var (pv 1)) da_nil)) da_nil)))))))))))))))))))))))))))))
theorem e__law_right (ys : List D)  : envP N__law_right ys [] = [.ol ys, .no, .no, .no, .no, .no, .no, .no, .no, .no, .no, .no, .no, .no, .no, .no, .no, .no, .no] := rfl
theorem cal__law_right {F : PSpec} {F__law_take : PSpec} {F__law_votes : PSpec} {F__law_rule : PSpec} {F__law_sorted : FSpec} {F_seating : FSpec} {F_sequence : FSpec} {F_next_one : FSpec} {F_price : FSpec} {F_below : FSpec} {F_with_seats : FSpec} {F__law_is_more_right : PSpec} {F__law_out : PSpec} {F__law_of : PSpec} {F__law_is_mark_right : PSpec} (D : DefOk K mg "_law_right" s__law_right p__law_right) (g : Glb mg) (c__law_take : Cal P w K mg base 1 "_law_take" (spP 1 F__law_take K)) (c__law_votes : Cal P w K mg base 3 "_law_votes" (spP 1 F__law_votes K)) (c__law_rule : Cal P w K mg base 3 "_law_rule" (spP 2 F__law_rule K)) (c__law_sorted : Cal P w K mg base 1 "_law_sorted" (spF 2 F__law_sorted K)) (c_seating : Cal P w K mg base 8 "seating" (spF 2 F_seating K)) (c_sequence : Cal P w K mg base 8 "sequence" (spF 2 F_sequence K)) (c_next_one : Cal P w K mg base 8 "next_one" (spF 2 F_next_one K)) (c_price : Cal P w K mg base 8 "price" (spF 2 F_price K)) (c_below : Cal P w K mg base 8 "below" (spF 2 F_below K)) (c_with_seats : Cal P w K mg base 7 "with_seats" (spF 2 F_with_seats K)) (c__law_is_more_right : Cal P w K mg base 9 "_law_is_more_right" (spP 3 F__law_is_more_right K)) (c__law_out : Cal P w K mg base 3 "_law_out" (spP 2 F__law_out K)) (c__law_of : Cal P w K mg base 2 "_law_of" (spP 1 F__law_of K)) (c__law_is_mark_right : Cal P w K mg base 9 "_law_is_mark_right" (spP 5 F__law_is_mark_right K)) (hF : ∀ ys as R, as.length = 0 → F ys as R → w__law_right F__law_take F__law_votes F__law_rule F__law_sorted F_seating F_sequence F_next_one F_price F_below F_with_seats F__law_is_more_right F__law_out F__law_of F__law_is_mark_right { nx := fun env => ∃ zs, env[0]? = some (.ol zs) ∧ R .non zs, rt := fun d env => ∃ zs, env[0]? = some (.ol zs) ∧ R d zs } (envP N__law_right ys as)) : Cal P w K mg base 10 "_law_right" (spP 0 F K) := by
  obtain ⟨fa, fd, Fn, hm, hb⟩ := D.ex
  exact ⟨fa, fd, p__law_right, fn_pot Fn sc__law_right rfl (fun cdv A outer s H E hr => b__law_right g c__law_take c__law_votes c__law_rule c__law_sorted c_seating c_sequence c_next_one c_price c_below c_with_seats c__law_is_more_right c__law_out c__law_of c__law_is_mark_right cdv A outer s H E hr) hF, hm, Fn.kp, hb⟩
/-! ### _law_pot -/
abbrev s__law_pot : Stmt := topS 55
abbrev N__law_pot : List Str := ["script", "place", "cell", "own", "small"]
abbrev p__law_pot : List Str := ["script", "place"]
theorem sc__law_pot : FnScope N__law_pot p__law_pot (defScope s__law_pot) := ⟨rfl, rfl, rfl, by decide +kernel, rfl, by decide +kernel, by decide +kernel⟩
def w__law_pot : DS := sSeqF (sAsg (dIf (tB1 (dBin gLt (dVar 1) (dCB gLen (aCons (dVar 0) aNil)))) (dBin gIx (dVar 0) (dVar 1)) (dBin gAdd (dBin gAdd (dBin gMod (dCB gInt1 (aCons (dCB gSum (aCons (dSlice (dVar 0) oNone (oSome (dC (.int 1)))) aNil)) aNil)) (dC (.int 1000003))) (dBin gMul (dC (.int 25733)) (dVar 1))) (dC (.int 21715)))) (.nm 2)) (sSeqF (sAsg (dBin gMul (dBin gMod (dCB gInt1 (aCons (dCB gAbs (aCons (dVar 2) aNil)) aNil)) (dBin gPow (dBin gPow (dC (.int 10)) (dC (.int 60))) (dC (.int 5)))) (dCB gInt1 (aCons (dBin gGe (dCB gAbs (aCons (dVar 2) aNil)) (dBin gPow (dC (.int 10)) (dC (.int 18)))) aNil))) (.nm 3)) (sSeqF (sAsg (dBin gMod (dCB gInt1 (aCons (dVar 2) aNil)) (dC (.int 2305843009213693951))) (.nm 4)) (sRetF (fLst (aCons (dVar 3) (aCons (dBin gMod (dCB gInt1 (aCons (dBin gAdd (dBin gAdd (dBin gMul (dVar 4) (dC (.int 137199))) (dBin gMul (dBin gMul (dC (.int 30043)) (dVar 1)) (dVar 1))) (dC (.int 2419))) aNil)) (dC (.int 2305843009213693921))) (aCons (dC (.int 0)) aNil)))))))
theorem b__law_pot (g : Glb mg) (cdv : Value) (A : Around) (outer : List PySem.Env) (s : Shared) (H : Hp) (E : XK) (hr : Room 0 (A.deeper (envOfC "_law_pot" (defScope s__law_pot) s.heap.objs.size f cdv))) :
    PSsf (cxOf CX0 P w K mg base N__law_pot "_law_pot" (defScope s__law_pot) f cdv A outer s H E).nox (defBody s__law_pot) (w__law_pot) := by
  unfold w__law_pot
  exact dsf_cons (ds_set (ps_set (i := 2) sc__law_pot.nd rfl (by first | exact .inl rfl | exact .inr rfl) (de_if (dt_cmp (opd_lt hr.units) (de_var (pv 1)) ((de_callB1 cd_len (by rfl) g.b_len rfl ((de_var (pv 0)).toS)).toS) (nomark _)) (de_ix ixd_ix (de_var (pv 0)) ((de_var (pv 1)).toS) (fun _ _ => rfl)) (de_bin opd_add (de_bin opd_add (de_bin opd_modA (de_callTy1 cd_int1 (by rfl) g.b_int rfl ((de_callB1 (cd_sum rfl) (by rfl) g.b_sum rfl ((de_slice (de_var (pv 0)) do_none (do_some de_int)).toS)).toS)) ((de_int).toS)) ((de_bin opd_mulA de_int ((de_var (pv 1)).toS)).toS)) ((de_int).toS))))) (dsf_cons (ds_set (ps_set (i := 3) sc__law_pot.nd rfl (by first | exact .inl rfl | exact .inr rfl) (de_bin opd_mulA (de_bin opd_modA (de_callTy1 cd_int1 (by rfl) g.b_int rfl ((de_callB1 cd_abs (by rfl) g.b_abs rfl ((de_var (pv 2)).toS)).toS)) ((de_bin opd_powA (de_bin opd_powA de_int ((de_int).toS)) ((de_int).toS)).toS)) ((de_callTy1 cd_int1 (by rfl) g.b_int rfl ((de_cmp (opd_ge hr.units) (de_callB1 cd_abs (by rfl) g.b_abs rfl ((de_var (pv 2)).toS)) ((de_bin opd_powA de_int ((de_int).toS)).toS) (nomark _)).toS)).toS)))) (dsf_cons (ds_set (ps_set (i := 4) sc__law_pot.nd rfl (by first | exact .inl rfl | exact .inr rfl) (de_bin opd_modA (de_callTy1 cd_int1 (by rfl) g.b_int rfl ((de_var (pv 2)).toS)) ((de_int).toS)))) (dsf_ret (df_lst (da_cons (de_var (pv 3)) (da_cons (de_bin opd_modA (de_callTy1 cd_int1 (by rfl) g.b_int rfl ((de_bin opd_add (de_bin opd_add (de_bin opd_mulA (de_var (pv 4)) ((de_int).toS)) ((de_bin opd_mulA (de_bin opd_mulA de_int ((de_var (pv 1)).toS)) ((de_var (pv 1)).toS)).toS)) ((de_int).toS)).toS)) ((de_int).toS)) (da_cons de_int da_nil)))))))
theorem e__law_pot (a0 a1 : D) : env0 N__law_pot [a0, a1] = [.fz a0, .fz a1, .no, .no, .no] := rfl
theorem cal__law_pot {F : RSpec} (D : DefOk K mg "_law_pot" s__law_pot p__law_pot) (g : Glb mg) (hF : ∀ as R, as.length = 2 → F as R → w__law_pot { nx := fun _ => False, rt := fun d _ => ∃ xs, d = .lst xs ∧ R xs } (env0 N__law_pot as)) : Cal P w K mg base 1 "_law_pot" (spR 2 F K) := by
  obtain ⟨fa, fd, Fn, hm, hb⟩ := D.ex
  exact ⟨fa, fd, p__law_pot, fn_fresh Fn sc__law_pot (fun cdv A outer s H E hr => b__law_pot g cdv A outer s H E hr) hF, hm, Fn.kp, hb⟩
/-! ### law -/
abbrev s_law : Stmt := topS 66
abbrev N_law : List Str := ["script", "place"]
abbrev p_law : List Str := ["script"]
theorem sc_law : FnScope N_law p_law (defScope s_law) := ⟨rfl, rfl, rfl, by decide +kernel, rfl, by decide +kernel, by decide +kernel⟩
def w_law (F__law_right : PSpec) (F__law_pot : RSpec) : DS := sRet (dCB gAll (aCons (dFz (fLc (iRan1 (dCB gMax2 (aCons (dC (.int 1)) (aCons (dCB gMin2 (aCons (dC (.int 3)) (aCons (dCB gLen (aCons (dVar 0) aNil)) aNil))) aNil)))) (.nm 1) tYes1 (dCallPf F__law_right (fCall 2 F__law_pot (aCons (dVar 0) (aCons (dVar 1) aNil)))) [1])) aNil))
theorem b_law {F__law_right : PSpec} {F__law_pot : RSpec} (g : Glb mg) (c__law_right : Cal P w K mg base 10 "_law_right" (spP 0 F__law_right K)) (c__law_pot : Cal P w K mg base 1 "_law_pot" (spR 2 F__law_pot K)) (cdv : Value) (A : Around) (outer : List PySem.Env) (s : Shared) (H : Hp) (E : XK) (hr : Room 10 (A.deeper (envOfC "law" (defScope s_law) s.heap.objs.size f cdv))) :
    PSsd (cxOf CX0 P w K mg base N_law "law" (defScope s_law) f cdv A outer s H E).nox (defBody s_law) (w_law F__law_right F__law_pot) := by
  unfold w_law
  exact dss_one (ds_ret (de_callB1 (cd_all rfl) (by rfl) g.b_all rfl ((de_fz (df_lc (own := [("place", 1)]) rfl sc_law.nd (di_ran1 (by rfl) g.b_range (de_callB (cd_max2 rfl) (by rfl) g.b_max rfl (da_cons de_int (da_cons (de_callB (cd_min2 rfl) (by rfl) g.b_min rfl (da_cons de_int (da_cons (de_callB1 cd_len (by rfl) g.b_len rfl ((de_var (pv 0)).toS)) da_nil))) da_nil)))) (blkOk_by (by show blkC N_law (defScope s_law) _ [("place", 1)] = true; decide +kernel)) (fun _ _ _ _ _ => pgd_nm (pg_name (i := 1) sc_law.nd rfl (by first | exact .inl rfl | exact .inr rfl))) (fun _ _ _ _ _ => dts_nil) (fun _ _ _ _ _ => de_callPf c__law_right hr (by decide) (by rfl) (df_call c__law_pot hr (by decide) (by rfl) (da_cons (de_var (pv 0)) (da_cons (de_var (pv 1)) da_nil)))) rfl (by decide))).toS)))
theorem e_law (a0 : D) : env0 N_law [a0] = [.fz a0, .no] := rfl
theorem cal_law {F : FSpec} {F__law_right : PSpec} {F__law_pot : RSpec} (D : DefOk K mg "law" s_law p_law) (g : Glb mg) (c__law_right : Cal P w K mg base 10 "_law_right" (spP 0 F__law_right K)) (c__law_pot : Cal P w K mg base 1 "_law_pot" (spR 2 F__law_pot K)) (hF : ∀ as R, as.length = 1 → F as R → w_law F__law_right F__law_pot { nx := fun _ => R .non, rt := fun d _ => R d } (env0 N_law as)) : Cal P w K mg base 11 "law" (spF 1 F K) := by
  obtain ⟨fa, fd, Fn, hm, hb⟩ := D.ex
  exact ⟨fa, fd, p_law, fn_pure Fn sc_law (fun cdv A outer s H E hr => b_law g c__law_right c__law_pot cdv A outer s H E hr) hF, hm, Fn.kp, hb⟩
end
end S14

namespace S14
open PySem PySem.Spec PyProof.Rows L2 FL
abbrev PE0 (R : D → Prop) : DEnds := { nx := fun _ => R .non, rt := fun d _ => R d }
/-! ### what is right -/
def sz {n : Nat} (h : n ≤ 10000) : n ≤ sizeLine := by rw [sizeLine_eq]; omega
structure VOk (vs : List Int) : Prop where
  len : 1 ≤ vs.length ∧ vs.length ≤ 12
  all : ∀ v ∈ vs, 0 ≤ v ∧ v ≤ 1000000000
structure ROk (ds : List Int) (s b n : Int) : Prop where
  len : 1 ≤ ds.length ∧ ds.length ≤ 60
  all : ∀ d ∈ ds, 1 ≤ d ∧ d ≤ 1000000
  asc : ds.Pairwise (· < ·)
  st : 1 ≤ s ∧ s ≤ ds.length
  bar : 0 ≤ b ∧ b ≤ 100 / n
  n1 : 1 ≤ n ∧ n ≤ 12
abbrev rD (ds : List Int) (s b : Int) : D := .tup [tI ds, .int s, .int b]
theorem bl_of {R : D → Prop} {a b : Bool} (h : R (.bl a)) (e : a = b) : R (.bl b) := e ▸ h
theorem cmul_l {i j : Int} (h : -(2 ^ 64) < i ∧ i < 2 ^ 64) : CMulA i j := .inl (.inl h)
theorem cmul_r {i j : Int} (h : -(2 ^ 64) < j ∧ j < 2 ^ 64) : CMulA i j := .inl (.inr h)
theorem log2_lt {j : Int} (h : j.natAbs < 2 ^ 9000) : j.natAbs.log2 < 9000 := by
  by_cases h0 : j.natAbs = 0
  · rw [h0]; decide
  · exact (Nat.log2_lt h0).mpr h
theorem cdiv_of {i j : Int} (h0 : 0 < j) (h : j < 2 ^ 64) : CDivW i j := ⟨h0, log2_lt (by
  have : j.natAbs < 2 ^ 64 := by omega
  exact Nat.lt_of_lt_of_le this (Nat.pow_le_pow_right (by decide) (by decide)))⟩

def F_is_integer : FSpec := fun as R => ∃ i : Int, as = [.int i] ∧ R (.bl true)
theorem m_is_integer (as : List D) (R : D → Prop) (h : F_is_integer as R) : w_is_integer (PE0 R) (env0 N_is_integer as) := by
  obtain ⟨i, rfl, h⟩ := h
  rw [e_is_integer]
  unfold w_is_integer
  simpa using h
def F_is_between : FSpec := fun as R => ∃ i a b : Int, as = [.int i, .int a, .int b] ∧ R (.bl (decide (a ≤ i ∧ i ≤ b)))
theorem m_is_between (as : List D) (R : D → Prop) (h : F_is_between as R) : w_is_between F_is_integer (PE0 R) (env0 N_is_between as) := by
  obtain ⟨i, a, b, rfl, h⟩ := h
  rw [e_is_between]
  unfold w_is_between
  simp only [q_ret, q_and, q_call, q_acons, q_anil, q_var, List.getElem?_cons_zero]
  refine ⟨rfl, i, rfl, ?_⟩
  simp
  split
  · rename_i h1; simpa [h1] using h
  · rename_i h1; simpa [h1] using h
def F_are_between : FSpec := fun as R => ∃ (ns : List Int) (a b : Int), as = [tI ns, .int a, .int b] ∧ ns.length ≤ 1000 ∧ R (.bl (ns.all fun i => decide (a ≤ i ∧ i ≤ b)))
theorem m_are_between (as : List D) (R : D → Prop) (h : F_are_between as R) : w_are_between F_is_between (PE0 R) (env0 N_are_between as) := by
  obtain ⟨ns, a, b, rfl, hl, h⟩ := h
  rw [e_are_between]
  unfold w_are_between
  simp
  refine ⟨sz (by omega), ?_⟩
  refine compD_fn D.int (fun i => some (.bl (decide (a ≤ i ∧ i ≤ b)))) ?_ fun x _ acc Nx hN => ?_
  · rw [List.filterMap_eq_map', blsOf_mapf]
    simpa using h
  · simp
    exact ⟨x, a, b, rfl, hN⟩
def F_are_votes : FSpec := fun as R => ∃ vs, as = [tI vs] ∧ VOk vs ∧ R (.bl true)
theorem m_are_votes (as : List D) (R : D → Prop) (h : F_are_votes as R) : w_are_votes F_are_between (PE0 R) (env0 N_are_votes as) := by
  obtain ⟨vs, rfl, hv, h⟩ := h
  rw [e_are_votes]
  unfold w_are_votes
  simp
  refine ⟨vs, 0, 1000000000, rfl, by have := hv.len; omega, ?_⟩
  have e : (vs.all fun i => decide (0 ≤ i ∧ i ≤ 1000000000)) = true := by
    rw [List.all_eq_true]; intro x hx; simpa using hv.all x hx
  have := hv.len
  rw [e]
  simp
  rw [if_pos (by omega), decide_eq_true (by omega)]
  exact h
def F_check_votes : FSpec := fun as R => ∃ vs, as = [tI vs] ∧ VOk vs ∧ R .non
theorem m_check_votes (as : List D) (R : D → Prop) (h : F_check_votes as R) : w_check_votes F_are_votes (PE0 R) (env0 N_check_votes as) := by
  obtain ⟨vs, rfl, hv, h⟩ := h
  rw [e_check_votes]
  unfold w_check_votes
  simp
  exact ⟨vs, rfl, hv, by simpa using h⟩
def F_is_ascending : FSpec := fun as R => ∃ ds : List Int, as = [tI ds] ∧ ds.length ≤ 1000 ∧ ds.Pairwise (· < ·) ∧ R (.bl true)
theorem pw_zip : ∀ {ds : List Int}, ds.Pairwise (· < ·) → ∀ q ∈ ds.zip (ds.drop 1), q.1 < q.2
  | [], _, q, h => by simp at h
  | [x], _, q, h => by simp at h
  | x :: y :: r, hp, q, h => by
    rw [List.drop_one, List.tail_cons, List.zip_cons_cons] at h
    rcases List.mem_cons.mp h with h | h
    · subst h
      exact (List.pairwise_cons.mp hp).1 y (by simp)
    · exact pw_zip (ds := y :: r) (List.pairwise_cons.mp hp).2 q (by simpa using h)
theorem m_is_ascending (as : List D) (R : D → Prop) (h : F_is_ascending as R) : w_is_ascending (PE0 R) (env0 N_is_ascending as) := by
  obtain ⟨ds, rfl, hl, hp, h⟩ := h
  rw [e_is_ascending]
  unfold w_is_ascending
  simp
  rw [show (1 : Int) = ((1 : Nat) : Int) from rfl, cut_from, List.drop_one, ← List.map_tail, zipD_map]
  refine ⟨sz (by simp; omega), ?_⟩
  refine compD_fn (fun q : Int × Int => D.tup [.int q.1, .int q.2]) (fun q => some (.bl true)) ?_ fun q hq acc Nx hN => ?_
  · rw [List.filterMap_eq_map', blsOf_mapf]
    exact bl_of h (by simp)
  · have := pw_zip hp q (by simpa using hq)
    simpa [this] using hN
def F_are_divisors : FSpec := fun as R => ∃ (ds : List Int) (s b n : Int), as = [tI ds] ∧ ROk ds s b n ∧ R (.bl true)
theorem m_are_divisors (as : List D) (R : D → Prop) (h : F_are_divisors as R) : w_are_divisors F_are_between F_is_ascending (PE0 R) (env0 N_are_divisors as) := by
  obtain ⟨ds, s, b, n, rfl, hr, h⟩ := h
  rw [e_are_divisors]
  unfold w_are_divisors
  simp
  have := hr.len
  refine ⟨ds, 1, 1000000, rfl, by omega, ?_⟩
  have e : (ds.all fun i => decide (1 ≤ i ∧ i ≤ 1000000)) = true := by
    rw [List.all_eq_true]; intro x hx; simpa using hr.all x hx
  rw [e]
  simp
  rw [if_pos (by omega), if_pos (by omega)]
  exact ⟨ds, rfl, by omega, hr.asc, h⟩
def F_is_rule : FSpec := fun as R => ∃ (ds : List Int) (s b n : Int), as = [rD ds s b, .int n] ∧ ROk ds s b n ∧ R (.bl true)
theorem m_is_rule (as : List D) (R : D → Prop) (h : F_is_rule as R) : w_is_rule F_are_divisors F_is_between (PE0 R) (env0 N_is_rule as) := by
  obtain ⟨ds, s, b, n, rfl, hr, h⟩ := h
  rw [e_is_rule]
  unfold w_is_rule
  simp
  refine ⟨ds, s, b, n, rfl, hr, ?_⟩
  simp
  refine ⟨s, 1, ds.length, rfl, ?_⟩
  rw [decide_eq_true hr.st]
  simp
  have := hr.n1
  refine ⟨cdiv_of (by omega) (by omega), b, 0, 100 / n, rfl, ?_⟩
  rw [decide_eq_true hr.bar]
  exact h
def F_check_rule : FSpec := fun as R => ∃ (ds : List Int) (s b n : Int), as = [rD ds s b, .int n] ∧ ROk ds s b n ∧ R .non
theorem m_check_rule (as : List D) (R : D → Prop) (h : F_check_rule as R) : w_check_rule F_is_rule (PE0 R) (env0 N_check_rule as) := by
  obtain ⟨ds, s, b, n, rfl, hr, h⟩ := h
  rw [e_check_rule]
  unfold w_check_rule
  simp
  exact ⟨ds, s, b, n, rfl, hr, by simpa using h⟩
def F_check_two : FSpec := fun as R => ∃ (vs ds : List Int) (s b : Int), as = [tI vs, rD ds s b] ∧ VOk vs ∧ ROk ds s b vs.length ∧ R .non
theorem m_check_two (as : List D) (R : D → Prop) (h : F_check_two as R) : w_check_two F_check_votes F_check_rule (PE0 R) (env0 N_check_two as) := by
  obtain ⟨vs, ds, s, b, rfl, hv, hr, h⟩ := h
  rw [e_check_two]
  unfold w_check_two
  simp
  exact ⟨vs, rfl, hv, by simp; exact ⟨ds, s, b, vs.length, rfl, hr, h⟩⟩
/-! ### quotients -/
def total (vs : List Int) : Int := vs.sum
/-- under the bar -/
def low (vs : List Int) (b : Int) (p : Nat) : Prop := at0 vs p * 100 < b * vs.sum
instance (vs : List Int) (b : Int) (p : Nat) : Decidable (low vs b p) := inferInstanceAs (Decidable (_ < _))
/-- place i of party p comes ahead of place j of party q -/
def Ahead (vs ds : List Int) (p i q j : Nat) : Prop := at0 vs q * at0 ds i < at0 vs p * at0 ds j ∨ (at0 vs p * at0 ds j = at0 vs q * at0 ds i ∧ (p < q ∨ (p = q ∧ i < j)))
instance (vs ds : List Int) (p i q j : Nat) : Decidable (Ahead vs ds p i q j) := inferInstanceAs (Decidable (_ ∨ _))
theorem VOk.at0 {vs : List Int} (h : VOk vs) {p : Nat} (hp : p < vs.length) : 0 ≤ at0 vs p ∧ at0 vs p ≤ 1000000000 := h.all _ (at0_mem hp)
theorem ROk.at0 {ds : List Int} {s b n : Int} (h : ROk ds s b n) {p : Nat} (hp : p < ds.length) : 1 ≤ at0 ds p ∧ at0 ds p ≤ 1000000 := h.all _ (at0_mem hp)
theorem sum_ge {M : Int} : ∀ {vs : List Int}, (∀ v ∈ vs, 0 ≤ v ∧ v ≤ M) → 0 ≤ vs.sum ∧ vs.sum ≤ M * vs.length
  | [], _ => by simp
  | v :: vs, h => by
    have h1 := h v (by simp)
    have h2 := sum_ge (M := M) (vs := vs) fun x hx => h x (by simp [hx])
    rw [List.sum_cons, List.length_cons]
    have e : M * ((vs.length + 1 : Nat) : Int) = M * vs.length + M := by push_cast; rw [Int.mul_add]; omega
    rw [e]
    omega
theorem VOk.sum {vs : List Int} (h : VOk vs) : 0 ≤ vs.sum ∧ vs.sum ≤ 12000000000 := by
  have := sum_ge h.all
  have := h.len
  omega
theorem ROk.bar100 {ds : List Int} {s b n : Int} (h : ROk ds s b n) : 0 ≤ b ∧ b ≤ 100 := by
  have h1 := h.bar
  have h2 := h.n1
  have : 100 / n ≤ 100 := Int.ediv_le_self _ (by omega)
  omega
def F_is_below : FSpec := fun as R => ∃ (vs : List Int) (b : Int) (p : Nat), as = [tI vs, .int b, .int p] ∧ VOk vs ∧ (0 ≤ b ∧ b ≤ 100) ∧ p < vs.length ∧ R (.bl (decide (low vs b p)))
theorem m_is_below (as : List D) (R : D → Prop) (h : F_is_below as R) : w_is_below (PE0 R) (env0 N_is_below as) := by
  obtain ⟨vs, b, p, rfl, hv, hb, hp, h⟩ := h
  rw [e_is_below]
  unfold w_is_below
  simp [atI_int hp]
  exact ⟨cmul_r (by decide), cmul_l (by omega), h⟩
def F_is_ahead : FSpec := fun as R => ∃ (vs ds : List Int) (s b n : Int) (p i q j : Nat), as = [tI vs, tI ds, .tup [.int p, .int i], .tup [.int q, .int j]] ∧ VOk vs ∧ ROk ds s b n ∧ p < vs.length ∧ q < vs.length ∧ i < ds.length ∧ j < ds.length ∧ R (.bl (decide (Ahead vs ds p i q j)))
theorem m_is_ahead (as : List D) (R : D → Prop) (h : F_is_ahead as R) : w_is_ahead (PE0 R) (env0 N_is_ahead as) := by
  obtain ⟨vs, ds, s, b, n, p, i, q, j, rfl, hv, hr, hp, hq, hi, hj, h⟩ := h
  rw [e_is_ahead]
  unfold w_is_ahead
  have v1 := hv.at0 hp
  have v2 := hv.at0 hq
  simp [atI_int hp, atI_int hq, atI_int hi, atI_int hj]
  refine ⟨cmul_l (by omega), cmul_l (by omega), ?_⟩
  split
  · rename_i h1
    exact bl_of h (decide_eq_true (.inl h1))
  · rename_i h1
    split
    · rename_i h2
      refine ⟨⟨rfl, rfl⟩, ?_⟩
      rw [lt_pair]
      refine bl_of h ?_
      rw [Bool.eq_iff_iff]
      simp [Ahead, h1, h2]
      omega
    · rename_i h2
      refine bl_of h (decide_eq_false ?_)
      rintro (h3 | ⟨h3, _⟩)
      · exact h1 h3
      · exact h2 h3
end S14

namespace S14
open PySem PySem.Spec PyProof.Rows L2 FL
/-! ### the order of the quotients -/
theorem cross_le {a b c x y z : Int} (hx : 0 < x) (hy : 0 < y) (hz : 0 < z) (h1 : b * x ≤ a * y) (h2 : c * y ≤ b * z) : c * x ≤ a * z := by
  have e1 : c * y * x ≤ b * z * x := Int.mul_le_mul_of_nonneg_right h2 (by omega)
  have e2 : b * x * z ≤ a * y * z := Int.mul_le_mul_of_nonneg_right h1 (by omega)
  refine Int.le_of_mul_le_mul_right (a := y) ?_ hy
  rw [show c * x * y = c * y * x by rw [Int.mul_right_comm], show a * z * y = a * y * z by rw [Int.mul_right_comm]]
  rw [show b * z * x = b * x * z by rw [Int.mul_right_comm]] at e1
  omega
theorem cross_eq {a b c x y z : Int} (hx : 0 < x) (hy : 0 < y) (hz : 0 < z) (h1 : b * x ≤ a * y) (h2 : c * y ≤ b * z) (e : c * x = a * z) : b * x = a * y ∧ c * y = b * z := by
  have e1 : c * y * x ≤ b * z * x := Int.mul_le_mul_of_nonneg_right h2 (by omega)
  have e2 : b * x * z ≤ a * y * z := Int.mul_le_mul_of_nonneg_right h1 (by omega)
  have e3 : c * y * x = a * y * z := by
    rw [show c * y * x = c * x * y by rw [Int.mul_right_comm], e, Int.mul_right_comm]
  rw [show b * z * x = b * x * z by rw [Int.mul_right_comm]] at e1
  have e4 : b * x * z = a * y * z := by omega
  have e5 : c * y * x = b * z * x := by rw [show b * z * x = b * x * z by rw [Int.mul_right_comm]]; omega
  exact ⟨Int.eq_of_mul_eq_mul_right (by omega) e4, Int.eq_of_mul_eq_mul_right (by omega) e5⟩
structure DOk (ds : List Int) : Prop where
  pos : ∀ i, i < ds.length → 0 < at0 ds i
  asc : ∀ i j, i < j → j < ds.length → at0 ds i < at0 ds j
theorem DOk.of {ds : List Int} (h1 : ∀ d ∈ ds, 1 ≤ d) (h2 : ds.Pairwise (· < ·)) : DOk ds := ⟨fun i hi => by
  have := h1 _ (at0_mem hi); omega, fun i j hij hj => by
  have := List.pairwise_iff_getElem.mp h2 i j (by omega) hj hij
  rw [at0_of (List.getElem?_eq_getElem (by omega : i < ds.length)), at0_of (List.getElem?_eq_getElem hj)]
  exact this⟩
theorem ROk.dok {ds : List Int} {s b n : Int} (h : ROk ds s b n) : DOk ds := .of (fun d hd => (h.all d hd).1) h.asc
abbrev VPos (vs : List Int) : Prop := ∀ p, 0 ≤ at0 vs p
theorem vpos_of {vs : List Int} (h : ∀ v ∈ vs, 0 ≤ v) : VPos vs := fun p => by
  by_cases hp : p < vs.length
  · exact h _ (at0_mem hp)
  · unfold at0 List.getD
    rw [List.getElem?_eq_none (by omega)]
    exact Int.le_refl 0
theorem VOk.pos {vs : List Int} (h : VOk vs) : VPos vs := vpos_of fun v hv => (h.all v hv).1
section
variable {vs ds : List Int}
theorem ah_le {p i q j : Nat} (h : Ahead vs ds p i q j) : at0 vs q * at0 ds i ≤ at0 vs p * at0 ds j := by
  rcases h with h | ⟨h, _⟩ <;> omega
theorem ah_irr {p i : Nat} (h : Ahead vs ds p i p i) : False := by
  rcases h with h | ⟨_, h⟩ <;> omega
theorem ah_trans (hd : DOk ds) {p i q j r k : Nat} (hi : i < ds.length) (hj : j < ds.length) (hk : k < ds.length) (h1 : Ahead vs ds p i q j) (h2 : Ahead vs ds q j r k) : Ahead vs ds p i r k := by
  have d1 := hd.pos i hi
  have d2 := hd.pos j hj
  have d3 := hd.pos k hk
  have l := cross_le d1 d2 d3 (ah_le h1) (ah_le h2)
  by_cases e : at0 vs r * at0 ds i = at0 vs p * at0 ds k
  · obtain ⟨e1, e2⟩ := cross_eq d1 d2 d3 (ah_le h1) (ah_le h2) e
    refine .inr ⟨e.symm, ?_⟩
    rcases h1 with h1 | ⟨_, h1⟩
    · omega
    · rcases h2 with h2 | ⟨_, h2⟩
      · omega
      · omega
  · exact .inl (by omega)
theorem ah_asym {p i q j : Nat} (h1 : Ahead vs ds p i q j) (h2 : Ahead vs ds q j p i) : False := by
  rcases h1 with h1 | ⟨e1, h1⟩ <;> rcases h2 with h2 | ⟨e2, h2⟩ <;> omega
theorem ah_total {p i q j : Nat} (h : p ≠ q ∨ i ≠ j) : Ahead vs ds p i q j ∨ Ahead vs ds q j p i := by
  unfold Ahead
  by_cases e1 : at0 vs q * at0 ds i < at0 vs p * at0 ds j
  · exact .inl (.inl e1)
  · by_cases e2 : at0 vs p * at0 ds j < at0 vs q * at0 ds i
    · exact .inr (.inl e2)
    · have e3 : at0 vs p * at0 ds j = at0 vs q * at0 ds i := by omega
      by_cases e4 : p < q ∨ (p = q ∧ i < j)
      · exact .inl (.inr ⟨e3, e4⟩)
      · exact .inr (.inr ⟨e3.symm, by omega⟩)
theorem ah_same (hd : DOk ds) (hv : VPos vs) {p i j : Nat} (hij : i < j) (hj : j < ds.length) : Ahead vs ds p i p j := by
  have := Int.mul_le_mul_of_nonneg_left (Int.le_of_lt (hd.asc i j hij hj)) (hv p)
  by_cases e : at0 vs p * at0 ds i < at0 vs p * at0 ds j
  · exact .inl e
  · exact .inr ⟨by omega, .inr ⟨rfl, hij⟩⟩
end
/-! ### dealing one by one -/
def better (vs ds : List Int) (m : Nat → Nat) (acc : Option Nat) (p : Nat) : Option Nat :=
  if m p < ds.length then (match acc with
    | none => some p
    | some q => if Ahead vs ds p (m p) q (m q) then some p else some q) else acc
def best (vs ds : List Int) (m : Nat → Nat) (ft : List Nat) : Option Nat := ft.foldl (better vs ds m) none
def bump (m : Nat → Nat) (p : Nat) : Nat → Nat := fun q => if q = p then m q + 1 else m q
def run (vs ds : List Int) (ft : List Nat) : Nat → List (Nat × Nat) × (Nat → Nat)
  | 0 => ([], fun _ => 0)
  | k + 1 => match best vs ds (run vs ds ft k).2 ft with
    | some p => ((run vs ds ft k).1 ++ [(p, (run vs ds ft k).2 p)], bump (run vs ds ft k).2 p)
    | none => run vs ds ft k
section
variable {vs ds : List Int} {m : Nat → Nat}
/-- p is the best of those of ft that are not full -/
structure IsBest (vs ds : List Int) (m : Nat → Nat) (ft : List Nat) (p : Nat) : Prop where
  mem : p ∈ ft
  free : m p < ds.length
  ah : ∀ q ∈ ft, m q < ds.length → q = p ∨ Ahead vs ds p (m p) q (m q)
theorem best_go (hd : DOk ds) : ∀ (ft done : List Nat) (acc : Option Nat), (∀ p, acc = some p → IsBest vs ds m done p) → (acc = none → ∀ q ∈ done, ¬ m q < ds.length) →
    (∀ p, ft.foldl (better vs ds m) acc = some p → IsBest vs ds m (done ++ ft) p) ∧ (ft.foldl (better vs ds m) acc = none → ∀ q ∈ done ++ ft, ¬ m q < ds.length)
  | [], done, acc, h1, h2 => by rw [List.append_nil]; exact ⟨h1, h2⟩
  | x :: ft, done, acc, h1, h2 => by
    have e : done ++ x :: ft = (done ++ [x]) ++ ft := by simp
    rw [e, List.foldl_cons]
    refine best_go hd ft (done ++ [x]) (better vs ds m acc x) (fun p hp => ?_) fun hp q hq => ?_
    · unfold better at hp
      by_cases hx : m x < ds.length
      · rw [if_pos hx] at hp
        cases acc with
        | none =>
          cases hp
          refine ⟨by simp, hx, fun q hq hq2 => ?_⟩
          rcases List.mem_append.mp hq with hq | hq
          · exact absurd hq2 (h2 rfl q hq)
          · exact .inl (by simpa using hq)
        | some q0 =>
          have b := h1 q0 rfl
          simp only at hp
          by_cases ha : Ahead vs ds x (m x) q0 (m q0)
          · rw [if_pos ha] at hp
            cases hp
            refine ⟨by simp, hx, fun q hq hq2 => ?_⟩
            rcases List.mem_append.mp hq with hq | hq
            · rcases b.ah q hq hq2 with z | z
              · rw [z]; exact .inr ha
              · exact .inr (ah_trans hd hx b.free hq2 ha z)
            · exact .inl (by simpa using hq)
          · rw [if_neg ha] at hp
            cases hp
            refine ⟨by simp [b.mem], b.free, fun q hq hq2 => ?_⟩
            rcases List.mem_append.mp hq with hq | hq
            · exact b.ah q hq hq2
            · have z : q = x := by simpa using hq
              subst z
              by_cases z : q = p
              · exact .inl z
              · exact .inr ((ah_total (.inl z)).resolve_left ha)
      · rw [if_neg hx] at hp
        have b := h1 p hp
        refine ⟨by simp [b.mem], b.free, fun q hq hq2 => ?_⟩
        rcases List.mem_append.mp hq with hq | hq
        · exact b.ah q hq hq2
        · have z : q = x := by simpa using hq
          subst z
          exact absurd hq2 hx
    · unfold better at hp
      by_cases hx : m x < ds.length
      · rw [if_pos hx] at hp
        cases acc with
        | none => cases hp
        | some q0 => simp only at hp; split at hp <;> cases hp
      · rw [if_neg hx] at hp
        rcases List.mem_append.mp hq with hq | hq
        · exact h2 hp q hq
        · have z : q = x := by simpa using hq
          subst z
          exact hx
theorem best_some (hd : DOk ds) {ft : List Nat} {p : Nat} (h : best vs ds m ft = some p) : IsBest vs ds m ft p := by
  have := (best_go hd ft [] none (fun _ h => by cases h) (fun _ _ h => by cases h)).1 p h
  simpa using this
theorem best_none (hd : DOk ds) {ft : List Nat} (h : best vs ds m ft = none) : ∀ q ∈ ft, ¬ m q < ds.length := by
  have := (best_go (vs := vs) hd ft [] none (fun _ h => by cases h) (fun _ _ h => by cases h)).2 h
  simpa using this
/-- what is dealt comes ahead of what is not -/
structure Good (vs ds : List Int) (ft : List Nat) (k : Nat) (l : List (Nat × Nat)) (m : Nat → Nat) : Prop where
  len : l.length = k
  cnt : ∀ p, (l.map (·.1)).count p = m p
  le : ∀ p, m p ≤ ds.length
  out : ∀ p, p ∉ ft → m p = 0
  mem : ∀ q ∈ l, q.1 ∈ ft ∧ q.2 < ds.length
  sum : (ft.map m).sum = k
  st : ∀ p ∈ ft, ∀ q ∈ ft, ∀ i j, i < m p → m q ≤ j → j < ds.length → Ahead vs ds p i q j
  last : ∀ q, l.getLast? = some q → m q.1 = q.2 + 1
theorem sum_bump {p : Nat} : ∀ {ft : List Nat}, ft.Nodup → p ∈ ft → (ft.map (bump m p)).sum = (ft.map m).sum + 1
  | [], _, h => by cases h
  | x :: ft, hn, h => by
    obtain ⟨hn1, hn2⟩ := List.nodup_cons.mp hn
    rw [List.map_cons, List.map_cons, List.sum_cons, List.sum_cons]
    by_cases e : p = x
    · subst e
      have : ft.map (bump m p) = ft.map m := List.map_congr_left fun q hq => by
        unfold bump
        rw [if_neg (fun z : q = p => hn1 (z ▸ hq))]
      rw [this]
      unfold bump
      rw [if_pos rfl]
      omega
    · have h' : p ∈ ft := by rcases List.mem_cons.mp h with h | h; exact absurd h e; exact h
      rw [sum_bump hn2 h']
      unfold bump
      rw [if_neg (fun z => e z.symm)]
      omega
theorem sum_full {L : Nat} : ∀ {ft : List Nat}, (∀ q ∈ ft, ¬ m q < L) → L * ft.length ≤ (ft.map m).sum
  | [], _ => by simp
  | x :: ft, h => by
    have h1 := h x (by simp)
    have h2 := sum_full (L := L) (ft := ft) fun q hq => h q (by simp [hq])
    rw [List.map_cons, List.sum_cons, List.length_cons, Nat.mul_add]
    omega
theorem good_run (hd : DOk ds) (hv : VPos vs) {ft : List Nat} (hn : ft.Nodup) : ∀ k, k ≤ ds.length * ft.length → Good vs ds ft k (run vs ds ft k).1 (run vs ds ft k).2 ∧
    (∀ j, j < k → ∃ p, best vs ds (run vs ds ft j).2 ft = some p)
  | 0, _ => ⟨⟨rfl, fun p => rfl, fun p => Nat.zero_le _, fun p _ => rfl, fun q h => (by cases h), by
    show (ft.map fun _ => 0).sum = 0
    induction ft with
    | nil => rfl
    | cons x ft ih => rw [List.map_cons, List.sum_cons, ih (List.nodup_cons.mp hn).2 (Nat.zero_le _)], fun p _ q _ i j h => absurd h (Nat.not_lt_zero _), fun q h => (by cases h)⟩, fun j h => absurd h (Nat.not_lt_zero _)⟩
  | k + 1, hk => by
    obtain ⟨g, ex⟩ := good_run hd hv hn k (by omega)
    cases e : best vs ds (run vs ds ft k).2 ft with
    | none =>
      have := sum_full (best_none hd e)
      rw [g.sum] at this
      omega
    | some p =>
      have b := best_some hd e
      have hrun : run vs ds ft (k + 1) = ((run vs ds ft k).1 ++ [(p, (run vs ds ft k).2 p)], bump (run vs ds ft k).2 p) := by
        show (match best vs ds (run vs ds ft k).2 ft with
          | some p => ((run vs ds ft k).1 ++ [(p, (run vs ds ft k).2 p)], bump (run vs ds ft k).2 p)
          | none => run vs ds ft k) = _
        rw [e]
      rw [hrun]
      generalize hm : (run vs ds ft k).2 = m at *
      generalize hl : (run vs ds ft k).1 = l at *
      have hb : ∀ q, m q ≤ bump m p q := fun q => by unfold bump; split <;> omega
      show Good vs ds ft (k + 1) (l ++ [(p, m p)]) (bump m p) ∧ _
      refine ⟨⟨?_, fun q => ?_, fun q => ?_, fun q hq => ?_, fun q hq => ?_, ?_, fun p1 hp1 q hq i j hi hj hj2 => ?_, fun q hq => ?_⟩, fun j hj => ?_⟩
      · rw [List.length_append, g.len]; rfl
      · rw [List.map_append, List.count_append, g.cnt]
        unfold bump
        by_cases z : q = p
        · subst z; simp
        · rw [if_neg z]; simp [List.count_cons, Ne.symm z]
      · unfold bump
        split
        · rename_i z; subst z; have := b.free; omega
        · exact g.le q
      · unfold bump
        rw [if_neg (fun z : q = p => hq (z ▸ b.mem))]
        exact g.out q hq
      · rcases List.mem_append.mp hq with hq | hq
        · exact g.mem q hq
        · have z : q = (p, m p) := by simpa using hq
          subst z
          exact ⟨b.mem, b.free⟩
      · rw [sum_bump hn b.mem, g.sum]
      · have hjq := hb q
        by_cases z : i < m p1
        · exact g.st p1 hp1 q hq i j z (by omega) hj2
        · have z1 : p1 = p ∧ i = m p := by
            unfold bump at hi
            split at hi
            · rename_i z1; subst z1; exact ⟨rfl, by omega⟩
            · omega
          obtain ⟨rfl, rfl⟩ := z1
          by_cases z2 : q = p1
          · subst z2
            unfold bump at hj
            rw [if_pos rfl] at hj
            exact ah_same hd hv (by omega) hj2
          · have hq2 : m q < ds.length := by omega
            have a1 := (b.ah q hq hq2).resolve_left z2
            by_cases z3 : m q = j
            · rw [← z3]; exact a1
            · exact ah_trans hd b.free hq2 hj2 a1 (ah_same hd hv (by omega) hj2)
      · rw [List.getLast?_concat] at hq
        cases hq
        show bump m p p = m p + 1
        unfold bump
        rw [if_pos rfl]
      · by_cases z : j < k
        · exact ex j z
        · have : j = k := by omega
          subst this
          rw [hm]
          exact ⟨p, e⟩
theorem run_succ {ft : List Nat} {k p : Nat} (e : best vs ds (run vs ds ft k).2 ft = some p) : run vs ds ft (k + 1) = ((run vs ds ft k).1 ++ [(p, (run vs ds ft k).2 p)], bump (run vs ds ft k).2 p) := by
  show (match best vs ds (run vs ds ft k).2 ft with
    | some p => ((run vs ds ft k).1 ++ [(p, (run vs ds ft k).2 p)], bump (run vs ds ft k).2 p)
    | none => run vs ds ft k) = _
  rw [e]
/-- fewer seats: the first part -/
theorem run_take (hd : DOk ds) (hv : VPos vs) {ft : List Nat} (hn : ft.Nodup) {k : Nat} : ∀ j, k + j ≤ ds.length * ft.length → (run vs ds ft (k + j)).1.take k = (run vs ds ft k).1
  | 0, h => by
    have := (good_run hd hv hn k h).1.len
    exact List.take_of_length_le (by rw [Nat.add_zero]; omega)
  | j + 1, h => by
    have ih := run_take (k := k) hd hv hn j (by omega)
    obtain ⟨p, e⟩ := (good_run hd hv hn (k + (j + 1)) h).2 (k + j) (by omega)
    have hl := (good_run hd hv hn (k + j) (by omega)).1.len
    rw [show k + (j + 1) = (k + j) + 1 from rfl, run_succ e]
    show List.take k ((run vs ds ft (k + j)).1 ++ [_]) = _
    rw [List.take_append_of_le_length (by omega), ih]
end
section
variable {vs ds : List Int} {ft : List Nat} {k : Nat} {l : List (Nat × Nat)} {m : Nat → Nat}
theorem sum_le {m m' : Nat → Nat} : ∀ {ft : List Nat}, (∀ r ∈ ft, m r ≤ m' r) → (ft.map m).sum ≤ (ft.map m').sum
  | [], _ => Nat.le_refl _
  | x :: ft, h => by
    have h1 := h x (by simp)
    have h2 := sum_le (ft := ft) fun r hr => h r (by simp [hr])
    rw [List.map_cons, List.map_cons, List.sum_cons, List.sum_cons]
    omega
theorem sum_lt {m m' : Nat → Nat} : ∀ {ft : List Nat}, (∀ r ∈ ft, m r ≤ m' r) → (∃ r ∈ ft, m r < m' r) → (ft.map m).sum < (ft.map m').sum
  | [], _, h => by obtain ⟨r, h, _⟩ := h; cases h
  | x :: ft, h, e => by
    have h1 := h x (by simp)
    have h2 := sum_le (ft := ft) fun r hr => h r (by simp [hr])
    rw [List.map_cons, List.map_cons, List.sum_cons, List.sum_cons]
    obtain ⟨r, hr, e⟩ := e
    rcases List.mem_cons.mp hr with hr | hr
    · subst hr; omega
    · have := sum_lt (ft := ft) (fun r hr => h r (by simp [hr])) ⟨r, hr, e⟩
      omega
theorem sum_ex {m m' : Nat → Nat} {q : Nat} (hs : (ft.map m).sum = (ft.map m').sum) (hq : q ∈ ft) (h : m q < m' q) : ∃ r ∈ ft, m' r < m r := by
  refine Classical.byContradiction fun hn => ?_
  have := sum_lt (ft := ft) (m := m) (m' := m') (fun r hr => Nat.not_lt.mp fun z => hn ⟨r, hr, z⟩) ⟨q, hq, h⟩
  omega
/-- one ballot more -/
theorem more_right {vs' : List Int} {l' : List (Nat × Nat)} {m' : Nat → Nat} {x : Nat} (hd : DOk ds) (g : Good vs ds ft k l m) (g' : Good vs' ds ft k l' m') (h1 : ∀ q, q ≠ x → at0 vs' q = at0 vs q) (h2 : at0 vs x ≤ at0 vs' x) :
    (∀ q, q ≠ x → m' q ≤ m q) ∧ m x ≤ m' x := by
  have key : ∀ q, q ≠ x → m' q ≤ m q := fun q hq => by
    refine Nat.not_lt.mp fun hlt => ?_
    by_cases hf : q ∈ ft
    · obtain ⟨r, hr, hr2⟩ := sum_ex (g.sum.trans g'.sum.symm) hf hlt
      have b1 := g.le r
      have b2 := g'.le q
      have a1 := g.st r hr q hf (m' r) (m q) hr2 (Nat.le_refl _) (by omega)
      have a2 := g'.st q hf r hr (m q) (m' r) hlt (Nat.le_refl _) (by omega)
      refine ah_asym a2 ?_
      have hv : at0 vs r ≤ at0 vs' r := by
        by_cases z : r = x
        · subst z; exact h2
        · rw [h1 r z]; omega
      have hp := hd.pos (m q) (by omega)
      have hv2 := Int.mul_le_mul_of_nonneg_right hv (Int.le_of_lt hp)
      unfold Ahead at a1 ⊢
      rw [h1 q hq]
      rcases a1 with a1 | ⟨a1, a3⟩
      · exact .inl (by omega)
      · by_cases z : at0 vs r * at0 ds (m q) = at0 vs' r * at0 ds (m q)
        · exact .inr ⟨by omega, a3⟩
        · exact .inl (by omega)
    · rw [g'.out q hf] at hlt
      omega
  refine ⟨key, Nat.not_lt.mp fun hlt => ?_⟩
  by_cases hf : x ∈ ft
  · obtain ⟨r, hr, hr2⟩ := sum_ex (m := m') (m' := m) (g'.sum.trans g.sum.symm) hf hlt
    have := key r (fun z => by subst z; omega)
    omega
  · rw [g.out x hf] at hlt
    omega
/-- more votes, no fewer seats -/
theorem votes_right (hd : DOk ds) (hv : VPos vs) (g : Good vs ds ft k l m) {p q : Nat} (hf : q ∈ ft → p ∈ ft) (h : at0 vs q < at0 vs p) : m q ≤ m p := by
  refine Nat.not_lt.mp fun hlt => ?_
  by_cases hq : q ∈ ft
  · have b1 := g.le q
    have a := g.st q hq p (hf hq) (m p) (m p) hlt (Nat.le_refl _) (by omega)
    have := ah_le a
    have hp := hd.pos (m p) (by omega)
    have := Int.mul_lt_mul_of_pos_right h hp
    omega
  · rw [g.out q hq] at hlt
    omega
theorem best_congr {vs' ds' : List Int} (hl : ds.length = ds'.length) (h : ∀ p i q j, Ahead vs ds p i q j ↔ Ahead vs' ds' p i q j) : best vs ds m ft = best vs' ds' m ft := by
  unfold best
  congr 1
  funext acc p
  unfold better
  rw [hl]
  cases acc with
  | none => rfl
  | some q => simp only [h]
theorem run_congr {vs' ds' : List Int} (hl : ds.length = ds'.length) (h : ∀ p i q j, Ahead vs ds p i q j ↔ Ahead vs' ds' p i q j) : ∀ k, run vs ds ft k = run vs' ds' ft k
  | 0 => rfl
  | k + 1 => by
    unfold run
    rw [run_congr hl h k, best_congr hl h]
theorem at0_scale (n : Int) (vs : List Int) (p : Nat) : at0 (vs.map (n * ·)) p = n * at0 vs p := by
  by_cases hp : p < vs.length
  · rw [at0_of (x := n * at0 vs p)]
    rw [List.getElem?_map, at0_get hp]
    rfl
  · unfold at0 List.getD
    rw [List.getElem?_eq_none (by rw [List.length_map]; omega), List.getElem?_eq_none (by omega)]
    simp
theorem ahead_scale_v {n : Int} (hn : 0 < n) (p i q j : Nat) : Ahead vs ds p i q j ↔ Ahead (vs.map (n * ·)) ds p i q j := by
  unfold Ahead
  rw [at0_scale, at0_scale, Int.mul_assoc, Int.mul_assoc, Int.mul_lt_mul_left hn, Int.mul_eq_mul_left_iff (by omega)]
theorem ahead_scale_d {n : Int} (hn : 0 < n) (p i q j : Nat) : Ahead vs ds p i q j ↔ Ahead vs (ds.map (n * ·)) p i q j := by
  unfold Ahead
  rw [at0_scale, at0_scale, Int.mul_left_comm (at0 vs q), Int.mul_left_comm (at0 vs p), Int.mul_lt_mul_left hn, Int.mul_eq_mul_left_iff (by omega)]
end
/-! ### two parties as one -/
def sm (f : Nat → Nat) : Nat → Nat
  | 0 => 0
  | n + 1 => sm f n + f n
theorem sm_sum (f : Nat → Nat) : ∀ n, ((List.range n).map f).sum = sm f n
  | 0 => rfl
  | n + 1 => by
    rw [List.range_succ, List.map_append, List.sum_append, sm_sum f n]
    simp [sm]
def glue (m : Nat → Nat) (f l : Nat) : Nat → Nat := fun r => if r < f then m r else if r = f then m f + m l else if r < l then m r else m (r + 1)
theorem glue_sum (m : Nat → Nat) {f l : Nat} (h : f < l) : ∀ n, (n ≤ f → sm (glue m f l) n = sm m n) ∧ (f < n ∧ n ≤ l → sm (glue m f l) n = sm m n + m l) ∧ (l ≤ n → sm (glue m f l) n = sm m (n + 1))
  | 0 => ⟨fun _ => rfl, fun z => by omega, fun z => by omega⟩
  | n + 1 => by
    obtain ⟨h1, h2, h3⟩ := glue_sum m h n
    have e : sm (glue m f l) (n + 1) = sm (glue m f l) n + glue m f l n := rfl
    have e2 : sm m (n + 1) = sm m n + m n := rfl
    have e3 : sm m (n + 1 + 1) = sm m (n + 1) + m (n + 1) := rfl
    have c2 : f < n + 1 ∧ n + 1 ≤ l → sm (glue m f l) (n + 1) = sm m (n + 1) + m l := fun ⟨z1, z2⟩ => by
      rw [e, e2]
      by_cases z : n = f
      · subst z
        rw [h1 (Nat.le_refl _)]
        unfold glue
        rw [if_neg (by omega), if_pos rfl]
        omega
      · rw [h2 ⟨by omega, by omega⟩]
        unfold glue
        rw [if_neg (by omega), if_neg z, if_pos (by omega)]
        omega
    refine ⟨fun z => ?_, c2, fun z => ?_⟩
    · rw [e, e2, h1 (by omega)]
      unfold glue
      rw [if_pos (by omega)]
    · by_cases z1 : n + 1 = l
      · rw [c2 ⟨by omega, by omega⟩, e3, z1]
      · rw [e, h3 (by omega), e3]
        unfold glue
        rw [if_neg (by omega), if_neg (by omega), if_neg (by omega)]
theorem le_sum {m : Nat → Nat} {r : Nat} : ∀ {ft : List Nat}, r ∈ ft → m r ≤ (ft.map m).sum
  | [], h => by cases h
  | x :: ft, h => by
    rw [List.map_cons, List.sum_cons]
    rcases List.mem_cons.mp h with h | h
    · subst h; omega
    · have := le_sum (m := m) h; omega
theorem join_right {vs ws ds : List Int} {n s f l : Nat} {lv lw : List (Nat × Nat)} {m M : Nat → Nat} (hfl : f < l) (hl : l < n + 1) (hsl : s ≤ ds.length) (hdv : ∀ i, i < ds.length → at0 ds i = (i : Int) + 1) (hv : VPos vs)
    (g : Good vs ds (List.range (n + 1)) s lv m) (G : Good ws ds (List.range n) s lw M) (h1 : at0 ws f = at0 vs f + at0 vs l) (h2 : ∀ r, r < l → r ≠ f → at0 ws r = at0 vs r) (h3 : ∀ r, l ≤ r → at0 ws r = at0 vs (r + 1)) : m f + m l ≤ M f := by
  refine Nat.not_lt.mp fun hlt => ?_
  have es : ((List.range n).map M).sum = ((List.range n).map (glue m f l)).sum := by
    rw [G.sum, sm_sum, (glue_sum m hfl n).2.2 (by omega), ← sm_sum, g.sum]
  have hf : f ∈ List.range n := List.mem_range.mpr (by omega)
  have hg : M f < glue m f l f := by
    unfold glue
    rw [if_neg (by omega), if_pos rfl]
    exact hlt
  obtain ⟨r, hr, hr2⟩ := sum_ex es hf hg
  have hrn := List.mem_range.mp hr
  have hrf : r ≠ f := fun z => by subst z; omega
  -- the party as it was
  obtain ⟨q, e1, e2, hqn, hq1, hq2, hq3⟩ : ∃ q, at0 ws r = at0 vs q ∧ glue m f l r = m q ∧ q < n + 1 ∧ q ≠ f ∧ q ≠ l ∧ (r < f → q < f) := by
    by_cases z : r < l
    · refine ⟨r, h2 r z hrf, ?_, by omega, hrf, by omega, fun z => z⟩
      unfold glue
      rw [if_neg hrf, if_pos z, ite_self]
    · refine ⟨r + 1, h3 r (by omega), ?_, by omega, by omega, by omega, fun z => by omega⟩
      unfold glue
      rw [if_neg (by omega), if_neg hrf, if_neg z]
  rw [e2] at hr2
  have b1 := G.le r
  have b2 := g.le f
  have b3 := g.le l
  have b4 := G.le f
  by_cases hMf : M f < ds.length
  · have A := G.st r hr f hf (m q) (M f) hr2 (Nat.le_refl _) hMf
    have dq := hdv (m q) (by omega)
    have dM := hdv (M f) hMf
    unfold Ahead at A
    rw [e1, h1, dq, dM] at A
    have mm : ∀ x, x ∈ List.range (n + 1) ↔ x < n + 1 := fun x => List.mem_range
    -- each of the two against q
    have side : ∀ x, x < n + 1 → x ≠ q → at0 vs q * (m x : Int) ≤ at0 vs x * ((m q : Int) + 1) ∧ (at0 vs q * (m x : Int) = at0 vs x * ((m q : Int) + 1) → 0 < m x → x < q) := fun x hx hxq => by
      by_cases z : 0 < m x
      · have bx := g.le x
        have a := g.st x ((mm x).mpr hx) q ((mm q).mpr hqn) (m x - 1) (m q) (by omega) (Nat.le_refl _) (by omega)
        unfold Ahead at a
        rw [dq, hdv (m x - 1) (by omega), show ((m x - 1 : Nat) : Int) + 1 = (m x : Int) by omega] at a
        rcases a with a | ⟨a, a2⟩
        · exact ⟨by omega, fun z => by omega⟩
        · exact ⟨by omega, fun _ _ => by omega⟩
      · have : m x = 0 := by omega
        rw [this]
        have := Int.mul_nonneg (hv x) (by omega : (0 : Int) ≤ (m q : Int) + 1)
        exact ⟨by simpa using this, fun _ z => absurd z (Nat.lt_irrefl 0)⟩
    have s1 := side f (by omega) (Ne.symm hq1)
    have s2 := side l hl (Ne.symm hq2)
    have e5 : (at0 vs f + at0 vs l) * ((m q : Int) + 1) = at0 vs f * ((m q : Int) + 1) + at0 vs l * ((m q : Int) + 1) := Int.add_mul _ _ _
    have e6 : at0 vs q * ((m f : Int) + (m l : Int)) = at0 vs q * (m f : Int) + at0 vs q * (m l : Int) := Int.mul_add _ _ _
    have e7 : at0 vs q * ((M f : Int) + 1) ≤ at0 vs q * ((m f : Int) + (m l : Int)) := Int.mul_le_mul_of_nonneg_left (by omega) (hv q)
    rcases A with A | ⟨A, A2⟩
    · omega
    · have t1 : at0 vs q * (m f : Int) = at0 vs f * ((m q : Int) + 1) := by omega
      have t2 : at0 vs q * (m l : Int) = at0 vs l * ((m q : Int) + 1) := by omega
      have hq4 : q < f := hq3 (by omega)
      by_cases z : 0 < m f
      · have := s1.2 t1 z; omega
      · have := s2.2 t2 (by omega); omega
  · have z1 := le_sum (m := glue m f l) hf
    rw [← es, G.sum] at z1
    omega
end S14

namespace S14
open PySem PySem.Spec PyProof.Rows L2 FL
def szl {n : Nat} (h : n < 10000) : n < sizeLine := by rw [sizeLine_eq]; omega
/-! ### dicts from numbers -/
def hd (ft : List Nat) (m : Nat → Nat) : List (Key × D) := ft.map fun p : Nat => ((Sum.inl (p : Int) : Key), D.int ((m p : Nat) : Int))
theorem hd_val {ft : List Nat} {m : Nat → Nat} {p : Nat} (h : p ∈ ft) : valD (hd ft m) (.inl (p : Int)) = some (.int (m p)) := by
  unfold valD hd
  induction ft with
  | nil => cases h
  | cons x ft ih =>
    rw [List.map_cons, List.find?_cons]
    by_cases e : x = p
    · subst e; simp
    · have h' : p ∈ ft := by rcases List.mem_cons.mp h with h | h; exact absurd h.symm e; exact h
      have : decide ((Sum.inl (x : Int) : Key) = Sum.inl (p : Int)) = false := decide_eq_false fun z => by
        have := Sum.inl.inj z; omega
      simp only [this]
      exact ih h'
theorem hd_put {ft : List Nat} {m : Nat → Nat} {p : Nat} (h : p ∈ ft) : putD (hd ft m) (.inl (p : Int)) (.int ((m p : Int) + 1)) = hd ft (bump m p) := by
  unfold putD hd
  rw [if_pos]
  · rw [List.map_map]
    refine List.map_congr_left fun q _ => ?_
    unfold bump
    by_cases e : q = p
    · subst e; simp
    · have : ¬ (Sum.inl (q : Int) : Key) = Sum.inl (p : Int) := fun z => by
        have := Sum.inl.inj z; omega
      simp [e, this]
  · rw [List.any_eq_true]
    exact ⟨_, List.mem_map.mpr ⟨p, h, rfl⟩, by simp⟩
theorem hd_keys (ft : List Nat) (m : Nat → Nat) : ((hd ft m).map fun q => kD q.1) = ft.map fun p : Nat => D.int (p : Int) := by
  unfold hd
  rw [List.map_map]
  rfl
theorem hd_len (ft : List Nat) (m : Nat → Nat) : (hd ft m).length = ft.length := by unfold hd; rw [List.length_map]
theorem hd_fold (m : Nat → Nat) : ∀ (ft done : List Nat), (done ++ ft).Nodup → (hd ft m).foldl (fun acc kv => putD acc kv.1 kv.2) (hd done m) = hd (done ++ ft) m
  | [], done, _ => by rw [List.append_nil]; rfl
  | x :: ft, done, h => by
    have e : done ++ x :: ft = (done ++ [x]) ++ ft := by simp
    rw [e] at h ⊢
    have hx : x ∉ done := fun z => by
      have := (List.nodup_append.mp h).1
      rw [List.nodup_append] at this
      exact this.2.2 x z x (by simp) rfl
    show (hd ft m).foldl _ (putD (hd done m) (.inl (x : Int)) (.int (m x))) = _
    have : putD (hd done m) (.inl (x : Int)) (.int (m x)) = hd (done ++ [x]) m := by
      unfold putD
      rw [if_neg]
      · unfold hd; rw [List.map_append]; rfl
      · rw [List.any_eq_true]
        rintro ⟨kv, hk, hk2⟩
        unfold hd at hk
        obtain ⟨q, hq, rfl⟩ := List.mem_map.mp hk
        have := Sum.inl.inj (of_decide_eq_true hk2)
        have : q = x := by omega
        subst this
        exact hx hq
    rw [this]
    exact hd_fold m ft (done ++ [x]) h
def encO : Option Nat → D
  | none => .non
  | some p => .int (p : Int)
def fit (vs : List Int) (b : Int) : List Nat := (List.range vs.length).filter fun p => !decide (low vs b p)
theorem fit_mem {vs : List Int} {b : Int} {p : Nat} : p ∈ fit vs b ↔ p < vs.length ∧ ¬ low vs b p := by
  unfold fit
  rw [List.mem_filter, List.mem_range]
  simp
theorem fit_nodup (vs : List Int) (b : Int) : (fit vs b).Nodup := List.Pairwise.filter _ List.nodup_range
theorem fit_len (vs : List Int) (b : Int) : (fit vs b).length ≤ vs.length := by
  have := List.length_filter_le (fun p => !decide (low vs b p)) (List.range vs.length)
  rw [List.length_range] at this
  exact this
theorem filterMap_fit (vs : List Int) (b : Int) (f : Nat → Key × D) : ((List.range vs.length).filterMap fun p => if low vs b p then none else some (f p)) = (fit vs b).map f := by
  unfold fit
  induction List.range vs.length with
  | nil => rfl
  | cons x r ih =>
    rw [List.filterMap_cons, List.filter_cons]
    by_cases h : low vs b x
    · simp [h, ih]
    · simp [h, ih]
/-! ### some party is fit -/
theorem max_ge : ∀ {vs : List Int}, vs ≠ [] → ∃ p, p < vs.length ∧ vs.sum ≤ at0 vs p * vs.length
  | [], h => absurd rfl h
  | [x], _ => ⟨0, by simp, by simp [at0]⟩
  | x :: y :: r, _ => by
    obtain ⟨p, hp, h⟩ := max_ge (vs := y :: r) (by simp)
    have e : (x :: y :: r).sum = x + (y :: r).sum := List.sum_cons
    have el : (((x :: y :: r).length : Nat) : Int) = ((y :: r).length : Int) + 1 := by simp
    generalize (y :: r) = t at *
    have ep : at0 (x :: t) (p + 1) = at0 t p := rfl
    have e0 : at0 (x :: t) 0 = x := rfl
    by_cases c : at0 t p ≤ x
    · refine ⟨0, by simp, ?_⟩
      rw [e, e0, el, Int.mul_add, Int.mul_one]
      have := Int.mul_le_mul_of_nonneg_right c (by omega : (0 : Int) ≤ (t.length : Int))
      omega
    · refine ⟨p + 1, by simp; omega, ?_⟩
      rw [e, ep, el, Int.mul_add, Int.mul_one]
      omega
theorem fit_ne {vs : List Int} {b : Int} (hv : VOk vs) (hb : 0 ≤ b ∧ b ≤ 100 / (vs.length : Int)) : 1 ≤ (fit vs b).length := by
  have hl := hv.len
  obtain ⟨p, hp, h⟩ := max_ge (vs := vs) (fun z => by rw [z] at hl; simp at hl)
  have hm : p ∈ fit vs b := fit_mem.mpr ⟨hp, fun z => by
    unfold low at z
    have hs := hv.sum
    have h2 : b * (vs.length : Int) ≤ 100 := by
      have := Int.mul_le_mul_of_nonneg_right hb.2 (by omega : (0 : Int) ≤ (vs.length : Int))
      have := Int.ediv_mul_le 100 (by omega : (vs.length : Int) ≠ 0)
      omega
    have h3 : b * vs.sum ≤ b * (at0 vs p * (vs.length : Int)) := Int.mul_le_mul_of_nonneg_left h hb.1
    have h4 : b * (at0 vs p * (vs.length : Int)) = at0 vs p * (b * (vs.length : Int)) := by rw [Int.mul_left_comm]
    have h5 : at0 vs p * (b * (vs.length : Int)) ≤ at0 vs p * 100 := Int.mul_le_mul_of_nonneg_left h2 (hv.pos p)
    omega⟩
  exact List.length_pos_of_mem hm
section
variable {vs ds : List Int} {s b : Int}
theorem enough (hv : VOk vs) (hr : ROk ds s b vs.length) : s.toNat ≤ ds.length * (fit vs b).length := by
  have h1 := hr.st
  have h2 := fit_ne hv hr.bar
  have := Nat.mul_le_mul_left ds.length h2
  omega
theorem good_fit (hv : VOk vs) (hr : ROk ds s b vs.length) {k : Nat} (h : k ≤ ds.length * (fit vs b).length) : Good vs ds (fit vs b) k (run vs ds (fit vs b) k).1 (run vs ds (fit vs b) k).2 := (good_run hr.dok hv.pos (fit_nodup vs b) k h).1
def dealtL (vs ds : List Int) (s b : Int) : List Int := (run vs ds (fit vs b) s.toNat).1.map fun q => (q.1 : Int)
def heldM (vs ds : List Int) (s b : Int) : Nat → Nat := (run vs ds (fit vs b) s.toNat).2
end
def F_dealt : FSpec := fun as R => ∃ (vs ds : List Int) (s b : Int), as = [tI vs, rD ds s b] ∧ VOk vs ∧ ROk ds s b vs.length ∧ R (lI (dealtL vs ds s b))
theorem m_dealt (as : List D) (R : D → Prop) (h : F_dealt as R) : w_dealt F_is_below F_is_ahead (PE0 R) (env0 N_dealt as) := by
  obtain ⟨vs, ds, s, b, rfl, hv, hr, h⟩ := h
  rw [e_dealt]
  unfold w_dealt
  have hl := hv.len
  have hst := hr.st
  have hdl := hr.len
  simp
  refine ⟨by omega, sz (by omega), ?_⟩
  refine compDD_fn (fun i : Nat => D.int (i : Int)) (fun p => if low vs b p then none else some ((Sum.inl (p : Int) : Key), D.int ((0 : Nat) : Int))) ?_ fun p hp acc Nx hN => ?_
  · rw [filterMap_fit]
    have hfold := hd_fold (fun _ => 0) (fit vs b) [] (by simpa using fit_nodup vs b)
    rw [show (fit vs b).map (fun p : Nat => ((Sum.inl (p : Int) : Key), D.int ((0 : Nat) : Int))) = hd (fit vs b) (fun _ => 0) from rfl]
    rw [show (List.foldl (fun acc kv => putD acc kv.1 kv.2) [] (hd (fit vs b) fun _ => 0)) = hd (fit vs b) (fun _ => 0) from hfold]
    simp
    refine ⟨by omega, by omega, ?_⟩
    refine forD_inv (fun k env => ∃ s4 s8 s9, s4.isOwn = false ∧ s8.isOwn = false ∧ s9.isOwn = false ∧ env = [.fz (tI vs), .fz (rD ds s b), .od (hd (fit vs b) (run vs ds (fit vs b) k).2), .ol ((run vs ds (fit vs b) k).1.map fun q => D.int (q.1 : Int)), s4, .fz (tI ds), .fz (.int s), .fz (.int b), s8, s9])
      ⟨_, _, _, rfl, rfl, rfl, rfl⟩ (fun env hI => ?_) fun k x env Nx hx hI hN => ?_
    · obtain ⟨s4, s8, s9, _, _, _, rfl⟩ := hI
      simp
      have e : (run vs ds (fit vs b) s.toNat).1.map (fun q => D.int (q.1 : Int)) = (dealtL vs ds s b).map D.int := by unfold dealtL; rw [List.map_map]; rfl
      rw [e]
      exact h
    · obtain ⟨s4, s8, s9, o4, o8, o9, rfl⟩ := hI
      have hk : k < s.toNat := by
        have := (List.getElem?_eq_some_iff.mp hx).1
        simpa using this
      have hen := enough hv hr
      obtain ⟨p, ep⟩ := (good_run hr.dok hv.pos (fit_nodup vs b) s.toNat hen).2 k hk
      have g := good_fit hv hr (k := k) (by omega)
      have rs := run_succ ep
      have bb := best_some hr.dok ep
      generalize hm : (run vs ds (fit vs b) k).2 = m at *
      generalize hll : (run vs ds (fit vs b) k).1 = l at *
      simp [o4, o8, hd_keys]
      intro o
      refine forD_map (fun p : Nat => D.int (p : Int)) (fun ys env => ∃ s9, s9.isOwn = false ∧ env = [.fz (tI vs), .fz (rD ds s b), .ld o (hd (fit vs b) m), .ol (l.map fun q => D.int (q.1 : Int)), .fz x, .fz (tI ds), .fz (.int s), .fz (.int b), .fz (encO (ys.foldl (better vs ds m) none)), s9])
        ⟨s9, o9, rfl⟩ (fun env hI => ?_) fun ys q zs env Nx' ex hI hN' => ?_
      · obtain ⟨s9, o9, rfl⟩ := hI
        rw [show (fit vs b).foldl (better vs ds m) none = some p from ep]
        simp [unE, encO, hd_val bb.mem, hd_put bb.mem]
        have hlen := g.len
        have hfl := fit_len vs b
        rw [hd_len]
        exact ⟨szl (by omega), szl (by omega), hN _ ⟨_, _, _, rfl, rfl, o9, by rw [rs, List.map_append]; rfl⟩⟩
      · obtain ⟨s9, o9, rfl⟩ := hI
        have hq : q ∈ fit vs b := by rw [ex]; simp
        have hqv := (fit_mem.mp hq).1
        have hfold : (ys ++ [q]).foldl (better vs ds m) none = better vs ds m (ys.foldl (better vs ds m) none) q := by rw [List.foldl_append]; rfl
        have hb0 : ∀ r, ys.foldl (better vs ds m) none = some r → IsBest vs ds m ys r := fun r hr0 => best_some hr.dok hr0
        simp [o9, hd_val hq]
        generalize ys.foldl (better vs ds m) none = acc at *
        split
        · rename_i h1
          have h1' : m q < ds.length := by omega
          cases acc with
          | none =>
            simp [encO]
            exact hN' _ ⟨.fz (.int (q : Int)), rfl, by rw [hfold]; simp [better, h1', encO]⟩
          | some r =>
            have br := hb0 r rfl
            have hr2 : r ∈ fit vs b := by rw [ex]; simp [br.mem]
            simp [encO, hd_val hr2]
            refine ⟨sz (by omega), vs, ds, s, b, vs.length, q, m q, r, m r, rfl, hv, hr, hqv, (fit_mem.mp hr2).1, h1', br.free, ?_⟩
            by_cases ha : Ahead vs ds q (m q) r (m r)
            · simp [ha]
              exact hN' _ ⟨.fz (.int (q : Int)), rfl, by rw [hfold]; simp [better, h1', encO, ha]⟩
            · simp [ha]
              exact hN' _ ⟨.fz (.int (q : Int)), rfl, by rw [hfold]; simp [better, h1', encO, ha]⟩
        · rename_i h1
          have h1' : ¬ m q < ds.length := by omega
          exact hN' _ ⟨.fz (.int (q : Int)), rfl, by rw [hfold]; simp [better, h1']⟩
  · have hp' := List.mem_range.mp hp
    simp
    refine ⟨vs, b, p, rfl, hv, hr.bar100, hp', ?_⟩
    by_cases c : low vs b p
    · simpa [c] using hN
    · simpa [c] using hN
theorem count_cast (p : Nat) : ∀ l : List (Nat × Nat), (l.map fun q => (q.1 : Int)).count (p : Int) = (l.map (·.1)).count p
  | [] => rfl
  | x :: l => by
    rw [List.map_cons, List.map_cons, List.count_cons, List.count_cons, count_cast p l]
    by_cases e : x.1 = p
    · simp [e]
    · have : ¬ (x.1 : Int) = (p : Int) := by omega
      simp [e, this]
section
variable {vs ds : List Int} {s b : Int}
theorem good_s (hv : VOk vs) (hr : ROk ds s b vs.length) : Good vs ds (fit vs b) s.toNat (run vs ds (fit vs b) s.toNat).1 (heldM vs ds s b) := good_fit hv hr (enough hv hr)
theorem dealt_len (hv : VOk vs) (hr : ROk ds s b vs.length) : (dealtL vs ds s b).length = s.toNat := by
  unfold dealtL
  rw [List.length_map, (good_s hv hr).len]
theorem dealt_count (hv : VOk vs) (hr : ROk ds s b vs.length) (p : Nat) : (dealtL vs ds s b).count (p : Int) = heldM vs ds s b p := by
  unfold dealtL
  rw [count_cast]
  exact (good_s hv hr).cnt p
def toldL (vs ds : List Int) (s b : Int) : List Int := (List.range vs.length).map fun p => (heldM vs ds s b p : Int)
end
def F_seats_of : FSpec := fun as R => ∃ (vs ds : List Int) (s b : Int), as = [tI vs, rD ds s b] ∧ VOk vs ∧ ROk ds s b vs.length ∧ R (tI (toldL vs ds s b))
theorem m_seats_of (as : List D) (R : D → Prop) (h : F_seats_of as R) : w_seats_of F_dealt (PE0 R) (env0 N_seats_of as) := by
  obtain ⟨vs, ds, s, b, rfl, hv, hr, h⟩ := h
  rw [e_seats_of]
  unfold w_seats_of
  have hl := hv.len
  simp
  refine ⟨vs, ds, s, b, rfl, hv, hr, ?_⟩
  simp
  refine ⟨by omega, sz (by omega), ?_⟩
  refine compD_fn (fun i : Nat => D.int (i : Int)) (fun p => some (.int (heldM vs ds s b p : Int))) ?_ fun p hp acc Nx hN => ?_
  · rw [List.filterMap_eq_map']
    have : (List.range vs.length).map (fun p => D.int (heldM vs ds s b p : Int)) = (toldL vs ds s b).map D.int := by unfold toldL; rw [List.map_map]; rfl
    rw [this]
    exact h
  · simp [dealt_count hv hr]
    exact hN
def F_seating : FSpec := F_seats_of
theorem m_seating (as : List D) (R : D → Prop) (h : F_seating as R) : w_seating F_check_two F_seats_of (PE0 R) (env0 N_seating as) := by
  obtain ⟨vs, ds, s, b, rfl, hv, hr, h⟩ := h
  rw [e_seating]
  unfold w_seating
  simp
  exact ⟨vs, ds, s, b, rfl, hv, hr, by simp; exact ⟨vs, ds, s, b, rfl, hv, hr, h⟩⟩
def F_sequence : FSpec := fun as R => ∃ (vs ds : List Int) (s b : Int), as = [tI vs, rD ds s b] ∧ VOk vs ∧ ROk ds s b vs.length ∧ R (tI (dealtL vs ds s b))
theorem m_sequence (as : List D) (R : D → Prop) (h : F_sequence as R) : w_sequence F_check_two F_dealt (PE0 R) (env0 N_sequence as) := by
  obtain ⟨vs, ds, s, b, rfl, hv, hr, h⟩ := h
  rw [e_sequence]
  unfold w_sequence
  simp
  exact ⟨vs, ds, s, b, rfl, hv, hr, by simp; exact ⟨vs, ds, s, b, rfl, hv, hr, h⟩⟩
def F_below : FSpec := fun as R => ∃ (vs ds : List Int) (s b : Int), as = [tI vs, rD ds s b] ∧ VOk vs ∧ ROk ds s b vs.length ∧ R (.tup (((List.range vs.length).filter fun p => decide (low vs b p)).map fun p : Nat => D.int (p : Int)))
theorem filterMap_low (vs : List Int) (b : Int) (f : Nat → D) : ∀ l : List Nat, (l.filterMap fun p => if low vs b p then some (f p) else none) = (l.filter fun p => decide (low vs b p)).map f
  | [] => rfl
  | x :: l => by
    rw [List.filterMap_cons, List.filter_cons, filterMap_low vs b f l]
    by_cases h : low vs b x <;> simp [h]
theorem m_below (as : List D) (R : D → Prop) (h : F_below as R) : w_below F_check_two F_is_below (PE0 R) (env0 N_below as) := by
  obtain ⟨vs, ds, s, b, rfl, hv, hr, h⟩ := h
  rw [e_below]
  unfold w_below
  have hl := hv.len
  simp
  refine ⟨vs, ds, s, b, rfl, hv, hr, ?_⟩
  simp
  refine ⟨by omega, sz (by omega), ?_⟩
  refine compD_fn (fun i : Nat => D.int (i : Int)) (fun p => if low vs b p then some (.int (p : Int)) else none) ?_ fun p hp acc Nx hN => ?_
  · rw [filterMap_low]
    exact h
  · simp
    refine ⟨vs, b, p, rfl, hv, hr.bar100, List.mem_range.mp hp, ?_⟩
    by_cases c : low vs b p
    · simpa [c] using hN
    · simpa [c] using hN
def F_with_seats : FSpec := fun as R => ∃ (ds : List Int) (s b t : Int), as = [rD ds s b, .int t] ∧ ROk ds s b 1 ∧ 1 ≤ t ∧ t ≤ ds.length ∧ R (rD ds t b)
theorem m_with_seats (as : List D) (R : D → Prop) (h : F_with_seats as R) : w_with_seats F_check_rule F_is_between (PE0 R) (env0 N_with_seats as) := by
  obtain ⟨ds, s, b, t, rfl, hr, ht1, ht2, h⟩ := h
  rw [e_with_seats]
  unfold w_with_seats
  simp
  refine ⟨ds, s, b, 1, rfl, hr, ?_⟩
  simp
  refine ⟨t, 1, ds.length, rfl, ?_⟩
  rw [decide_eq_true ⟨ht1, ht2⟩]
  simp
  exact ⟨sz (by omega), h⟩
/-- lowest terms -/
def F_least_terms : FSpec := fun as R => ∃ (v d : Int), as = [.int v, .int d] ∧ (0 ≤ v ∧ v ≤ 1000000000) ∧ (1 ≤ d ∧ d ≤ 1000000) ∧ R (tI [v / (Nat.gcd v.natAbs d.natAbs : Nat), d / (Nat.gcd v.natAbs d.natAbs : Nat)])
theorem gcd_pos {v d : Int} (hd : 1 ≤ d) : 0 < Nat.gcd v.natAbs d.natAbs := Nat.gcd_pos_of_pos_right _ (by omega)
theorem m_least_terms (as : List D) (R : D → Prop) (h : F_least_terms as R) : w_least_terms (PE0 R) (env0 N_least_terms as) := by
  obtain ⟨v, d, rfl, hv, hd, h⟩ := h
  rw [e_least_terms]
  unfold w_least_terms
  have g1 := gcd_pos (v := v) hd.1
  have g2 : Nat.gcd v.natAbs d.natAbs ≤ d.natAbs := Nat.gcd_le_right _ (by omega)
  simp
  generalize Nat.gcd v.natAbs d.natAbs = g at *
  exact ⟨cdiv_of (by omega) (by omega), cdiv_of (by omega) (by omega), sz (by omega), h⟩
/-- the last one dealt -/
def lastP (vs ds : List Int) (s b : Int) : Nat × Nat := (run vs ds (fit vs b) s.toNat).1.getLast?.getD (0, 0)
section
variable {vs ds : List Int} {s b : Int}
theorem last_ok (hv : VOk vs) (hr : ROk ds s b vs.length) : (run vs ds (fit vs b) s.toNat).1.getLast? = some (lastP vs ds s b) ∧ (lastP vs ds s b).1 ∈ fit vs b ∧ (lastP vs ds s b).2 < ds.length ∧ heldM vs ds s b (lastP vs ds s b).1 = (lastP vs ds s b).2 + 1 := by
  have g := good_s hv hr
  have hs := hr.st
  have e : (run vs ds (fit vs b) s.toNat).1.getLast? = some (lastP vs ds s b) := by
    unfold lastP
    cases h : (run vs ds (fit vs b) s.toNat).1.getLast? with
    | none =>
      have := List.getLast?_eq_none_iff.mp h
      have hl := g.len
      rw [this] at hl
      simp at hl
      omega
    | some q => rfl
  refine ⟨e, ?_, ?_, g.last _ e⟩
  · exact (g.mem _ (List.mem_of_getLast? e)).1
  · exact (g.mem _ (List.mem_of_getLast? e)).2
theorem atI_lastD {xs : List D} {d : D} (h : xs.getLast? = some d) : atI xs (-1) = some d := by
  obtain ⟨ys, rfl⟩ : ∃ ys, xs = ys ++ [d] := by
    have hne : xs ≠ [] := fun z => by rw [z] at h; simp at h
    refine ⟨xs.dropLast, ?_⟩
    rw [List.getLast?_eq_some_getLast hne] at h
    have := List.dropLast_concat_getLast hne
    rw [Option.some.inj h] at this
    exact this.symm
  exact atI_last ys d
end
def F_price : FSpec := fun as R => ∃ (vs ds : List Int) (s b : Int), as = [tI vs, rD ds s b] ∧ VOk vs ∧ ROk ds s b vs.length ∧
  R (tI [at0 vs (lastP vs ds s b).1 / (Nat.gcd (at0 vs (lastP vs ds s b).1).natAbs (at0 ds (lastP vs ds s b).2).natAbs : Nat), at0 ds (lastP vs ds s b).2 / (Nat.gcd (at0 vs (lastP vs ds s b).1).natAbs (at0 ds (lastP vs ds s b).2).natAbs : Nat)])
theorem m_price (as : List D) (R : D → Prop) (h : F_price as R) : w_price F_check_two F_dealt F_least_terms (PE0 R) (env0 N_price as) := by
  obtain ⟨vs, ds, s, b, rfl, hv, hr, h⟩ := h
  rw [e_price]
  unfold w_price
  simp
  refine ⟨vs, ds, s, b, rfl, hv, hr, ?_⟩
  simp
  refine ⟨vs, ds, s, b, rfl, hv, hr, ?_⟩
  simp
  obtain ⟨e1, e2, e3, e4⟩ := last_ok hv hr
  generalize hq : lastP vs ds s b = q at *
  have hp := (fit_mem.mp e2).1
  have a1 : atI ((dealtL vs ds s b).map D.int) (-1) = some (.int (q.1 : Int)) := by
    refine atI_lastD ?_
    unfold dealtL
    rw [List.map_map, List.getLast?_map, e1]
    rfl
  have v1 := hv.at0 hp
  have d1 := hr.at0 e3
  simp [a1, atI_int hp, dealt_count hv hr, e4, atI_int e3]
  exact ⟨_, _, rfl, v1, d1, h⟩
def F_next_one : FSpec := fun as R => ∃ (vs ds : List Int) (s b : Int), as = [tI vs, rD ds s b] ∧ VOk vs ∧ ROk ds s b vs.length ∧
  R (if ∃ p ∈ fit vs b, heldM vs ds s b p = ds.length then .non else encO (best vs ds (heldM vs ds s b) (fit vs b)))
theorem m_next_one (as : List D) (R : D → Prop) (h : F_next_one as R) : w_next_one F_check_two F_dealt F_is_below F_is_ahead (PE0 R) (env0 N_next_one as) := by
  obtain ⟨vs, ds, s, b, rfl, hv, hr, h⟩ := h
  rw [e_next_one]
  unfold w_next_one
  have hl := hv.len
  have hdl := hr.len
  simp
  refine ⟨vs, ds, s, b, rfl, hv, hr, ?_⟩
  simp
  refine ⟨vs, ds, s, b, rfl, hv, hr, ?_⟩
  simp
  refine ⟨by omega, sz (by omega), ?_⟩
  have g := good_s hv hr
  refine compDD_fn (fun i : Nat => D.int (i : Int)) (fun p => if low vs b p then none else some ((Sum.inl (p : Int) : Key), D.int ((heldM vs ds s b p : Nat) : Int))) ?_ fun p hp acc Nx hN => ?_
  · rw [filterMap_fit]
    have hfold := hd_fold (heldM vs ds s b) (fit vs b) [] (by simpa using fit_nodup vs b)
    rw [show (fit vs b).map (fun p : Nat => ((Sum.inl (p : Int) : Key), D.int ((heldM vs ds s b p : Nat) : Int))) = hd (fit vs b) (heldM vs ds s b) from rfl]
    rw [show (List.foldl (fun acc kv => putD acc kv.1 kv.2) [] (hd (fit vs b) (heldM vs ds s b))) = hd (fit vs b) (heldM vs ds s b) from hfold]
    have hvals : (hd (fit vs b) (heldM vs ds s b)).map (·.2) = ((fit vs b).map fun p => (heldM vs ds s b p : Int)).map D.int := by unfold hd; rw [List.map_map, List.map_map]; rfl
    generalize heldM vs ds s b = m at *
    simp [hvals]
    rw [← List.map_map, inD_ints]
    refine ⟨fun x k hk => ?_, ?_⟩
    · unfold hd at hk
      obtain ⟨p, _, e⟩ := List.mem_map.mp hk
      cases e
      rfl
    · split
      · rename_i hc
        rw [if_pos] at h
        · exact h
        · obtain ⟨p, hp, e⟩ := List.mem_map.mp (List.contains_iff_mem.mp hc)
          exact ⟨p, hp, by omega⟩
      · rename_i hc
        have hfree : ∀ q ∈ fit vs b, m q < ds.length := fun q hq => by
          have := g.le q
          refine Nat.lt_of_le_of_ne this fun z => hc (List.contains_iff_mem.mpr (List.mem_map.mpr ⟨q, hq, by rw [z]⟩))
        rw [if_neg (fun ⟨p, hp, e⟩ => by have := hfree p hp; omega)] at h
        intro o
        rw [hd_keys]
        refine forD_map (fun p : Nat => D.int (p : Int)) (fun ys env => ∃ s5, s5.isOwn = false ∧ env = [.fz (tI vs), .fz (rD ds s b), .fz (lI (dealtL vs ds s b)), .ld o (hd (fit vs b) m), .fz (encO (ys.foldl (better vs ds m) none)), s5, .fz (tI ds), .fz (.int s), .fz (.int b)])
          ⟨_, rfl, rfl⟩ (fun env hI => ?_) fun ys q zs env Nx' ex hI hN' => ?_
        · obtain ⟨s5, o5, rfl⟩ := hI
          rw [show (fit vs b).foldl (better vs ds m) none = best vs ds m (fit vs b) from rfl]
          simp [unE]
          exact h
        · obtain ⟨s5, o5, rfl⟩ := hI
          have hq : q ∈ fit vs b := by rw [ex]; simp
          have hqv := (fit_mem.mp hq).1
          have h1' := hfree q hq
          have hfold : (ys ++ [q]).foldl (better vs ds m) none = better vs ds m (ys.foldl (better vs ds m) none) q := by rw [List.foldl_append]; rfl
          have hb0 : ∀ r, ys.foldl (better vs ds m) none = some r → IsBest vs ds m ys r := fun r hr0 => best_some hr.dok hr0
          simp [o5, hd_val hq]
          generalize ys.foldl (better vs ds m) none = acc at *
          cases acc with
          | none =>
            simp [encO]
            exact hN' _ ⟨.fz (.int (q : Int)), rfl, by rw [hfold]; simp [better, h1', encO]⟩
          | some r =>
            have br := hb0 r rfl
            have hr2 : r ∈ fit vs b := by rw [ex]; simp [br.mem]
            simp [encO, hd_val hr2]
            refine ⟨sz (by omega), vs, ds, s, b, vs.length, q, m q, r, m r, rfl, hv, hr, hqv, (fit_mem.mp hr2).1, h1', br.free, ?_⟩
            by_cases ha : Ahead vs ds q (m q) r (m r)
            · simp [ha]
              exact hN' _ ⟨.fz (.int (q : Int)), rfl, by rw [hfold]; simp [better, h1', encO, ha]⟩
            · simp [ha]
              exact hN' _ ⟨.fz (.int (q : Int)), rfl, by rw [hfold]; simp [better, h1', encO, ha]⟩
  · have hp' := List.mem_range.mp hp
    simp
    refine ⟨vs, b, p, rfl, hv, hr.bar100, hp', ?_⟩
    by_cases c : low vs b p
    · simpa [c] using hN
    · simpa [c, dealt_count hv hr] using hN
end S14

namespace S14
open PySem PySem.Spec PyProof.Rows L2 FL
/-! ### marks, what is out -/
structure OOk (many : Int) (los his : List Int) (n : Nat) : Prop where
  l1 : los.length = n
  l2 : his.length = n
  n1 : 1 ≤ n ∧ n ≤ 12
  a1 : ∀ x ∈ los, 0 ≤ x ∧ x ≤ 1000000000
  a2 : ∀ x ∈ his, 0 ≤ x ∧ x ≤ 1000000000
  le : ∀ q ∈ los.zip his, q.1 ≤ q.2
  mb : 0 ≤ many ∧ many ≤ 1000000000
  s1 : los.sum ≤ many
  s2 : many ≤ his.sum
abbrev oD (many : Int) (los his : List Int) : D := .tup [.int many, tI los, tI his]
structure MOk (top lw place : Int) (n : Nat) : Prop where
  top : 0 ≤ top ∧ top ≤ 2000000000
  lw : 1 ≤ lw ∧ lw ≤ 1000000
  place : 0 ≤ place ∧ place ≤ n
abbrev mD (top lw place : Int) : D := .tup [.int top, .int lw, .int place]
theorem all_bt {xs : List Int} {a b : Int} (h : ∀ x ∈ xs, a ≤ x ∧ x ≤ b) : (xs.all fun i => decide (a ≤ i ∧ i ≤ b)) = true := by
  rw [List.all_eq_true]; intro x hx; exact decide_eq_true (h x hx)
def F_is_out : FSpec := fun as R => ∃ many los his n, as = [oD many los his] ∧ OOk many los his n ∧ R (.bl true)
theorem m_is_out (as : List D) (R : D → Prop) (h : F_is_out as R) : w_is_out F_is_between F_are_between (PE0 R) (env0 N_is_out as) := by
  obtain ⟨many, los, his, n, rfl, ho, h⟩ := h
  rw [e_is_out]
  unfold w_is_out
  have h1 := ho.l1
  have h2 := ho.l2
  have h3 := ho.n1
  have h4 := ho.s1
  have h5 := ho.s2
  simp
  refine ⟨many, 0, 1000000000, rfl, ?_⟩
  rw [decide_eq_true ho.mb]
  simp
  refine ⟨los, 0, 1000000000, rfl, by omega, ?_⟩
  rw [all_bt ho.a1]
  simp
  refine ⟨his, 0, 1000000000, rfl, by omega, ?_⟩
  rw [all_bt ho.a2]
  simp [h1, h2]
  rw [if_pos (by omega)]
  rw [if_pos (by omega)]
  rw [if_neg (by omega), if_neg (by omega), zipD_map]
  refine ⟨sz (by simp; omega), ?_⟩
  refine compD_fn (fun q : Int × Int => D.tup [.int q.1, .int q.2]) (fun q => some (.bl true)) ?_ fun q hq acc Nx hN => ?_
  · rw [List.filterMap_eq_map', blsOf_mapf]
    exact bl_of h (by simp)
  · have := ho.le q hq
    simpa [this] using hN
def F_check_out : FSpec := fun as R => ∃ many los his n, as = [oD many los his, .int (n : Nat)] ∧ OOk many los his n ∧ R .non
theorem m_check_out (as : List D) (R : D → Prop) (h : F_check_out as R) : w_check_out F_is_out (PE0 R) (env0 N_check_out as) := by
  obtain ⟨many, los, his, n, rfl, ho, h⟩ := h
  rw [e_check_out]
  unfold w_check_out
  simp
  refine ⟨many, los, his, n, rfl, ho, ?_⟩
  simp [ho.l1, inD, flatD]
  exact ⟨sz (by decide), h⟩
def F_is_mark_of : FSpec := fun as R => ∃ vs top lw place, as = [tI vs, mD top lw place] ∧ MOk top lw place vs.length ∧ R (.bl true)
theorem m_is_mark_of (as : List D) (R : D → Prop) (h : F_is_mark_of as R) : w_is_mark_of F_is_integer (PE0 R) (env0 N_is_mark_of as) := by
  obtain ⟨vs, top, lw, place, rfl, hm, h⟩ := h
  rw [e_is_mark_of]
  unfold w_is_mark_of
  simp
  refine ⟨sz (by decide), ?_⟩
  refine compD_fn (xs := [top, lw, place]) D.int (fun q => some (.bl true)) ?_ fun q hq acc Nx hN => ?_
  · have h1 := hm.top
    have h2 := hm.lw
    have h3 := hm.place
    simp [blsOf]
    rw [if_pos (by omega), if_pos (by omega), if_pos (by omega), decide_eq_true (by omega)]
    exact h
  · simp
    exact ⟨q, rfl, by simpa using hN⟩
def F_is_mark : FSpec := fun as R => ∃ vs top lw place, as = [tI vs, mD top lw place] ∧ VOk vs ∧ MOk top lw place vs.length ∧ R (.bl true)
theorem m_is_mark (as : List D) (R : D → Prop) (h : F_is_mark as R) : w_is_mark F_check_votes F_is_mark_of (PE0 R) (env0 N_is_mark as) := by
  obtain ⟨vs, top, lw, place, rfl, hv, hm, h⟩ := h
  rw [e_is_mark]
  unfold w_is_mark
  simp
  exact ⟨vs, rfl, hv, by simp; exact ⟨vs, top, lw, place, rfl, hm, h⟩⟩
def F_check_party : FSpec := fun as R => ∃ (vs : List Int) (p : Nat), as = [tI vs, .int p] ∧ p < vs.length ∧ R .non
theorem m_check_party (as : List D) (R : D → Prop) (h : F_check_party as R) : w_check_party F_is_between (PE0 R) (env0 N_check_party as) := by
  obtain ⟨vs, p, rfl, hp, h⟩ := h
  rw [e_check_party]
  unfold w_check_party
  simp
  refine ⟨p, 0, vs.length - 1, rfl, ?_⟩
  rw [decide_eq_true (by omega)]
  simpa using h
structure Ask (vs ds : List Int) (s b many : Int) (los his : List Int) (top lw place : Int) (p : Nat) (k : Int) : Prop where
  v : VOk vs
  r : ROk ds s b vs.length
  o : OOk many los his vs.length
  m : MOk top lw place vs.length
  p : p < vs.length
  k : 0 ≤ k ∧ k ≤ s
abbrev aD (vs ds : List Int) (s b many : Int) (los his : List Int) (top lw place : Int) (p : Nat) (k : Int) : List D := [tI vs, rD ds s b, oD many los his, mD top lw place, .int p, .int k]
def F_check_asked : FSpec := fun as R => ∃ vs ds s b many los his top lw place p k, as = aD vs ds s b many los his top lw place p k ∧ Ask vs ds s b many los his top lw place p k ∧ R .non
theorem m_check_asked (as : List D) (R : D → Prop) (h : F_check_asked as R) : w_check_asked F_check_votes F_check_rule F_check_out F_is_mark_of F_check_party F_is_between (PE0 R) (env0 N_check_asked as) := by
  obtain ⟨vs, ds, s, b, many, los, his, top, lw, place, p, k, rfl, a, h⟩ := h
  rw [e_check_asked]
  unfold w_check_asked
  simp
  refine ⟨vs, rfl, a.v, ?_⟩
  simp
  refine ⟨ds, s, b, vs.length, rfl, a.r, ?_⟩
  simp
  refine ⟨many, los, his, vs.length, rfl, a.o, ?_⟩
  simp
  refine ⟨vs, top, lw, place, rfl, a.m, ?_⟩
  simp
  refine ⟨vs, p, rfl, a.p, ?_⟩
  simp
  refine ⟨k, 0, s, rfl, ?_⟩
  rw [decide_eq_true a.k]
  simpa using h
/-- the fewest votes ahead of the mark -/
def va (top lw place d : Int) (p : Nat) : Int := if (p : Int) < place then (top * d + lw - 1) / lw else top * d / lw + 1
def F_votes_ahead : FSpec := fun as R => ∃ d top lw place p n, as = [.int d, mD top lw place, .int (p : Nat)] ∧ (1 ≤ d ∧ d ≤ 1000000) ∧ MOk top lw place n ∧ R (.int (va top lw place d p))
theorem m_votes_ahead (as : List D) (R : D → Prop) (h : F_votes_ahead as R) : w_votes_ahead (PE0 R) (env0 N_votes_ahead as) := by
  obtain ⟨d, top, lw, place, p, n, rfl, hd, hm, h⟩ := h
  rw [e_votes_ahead]
  unfold w_votes_ahead
  have h1 := hm.top
  have h2 := hm.lw
  unfold va at h
  simp
  split
  · rename_i c
    rw [if_pos c] at h
    exact ⟨cmul_l (by omega), cdiv_of (by omega) (by omega), h⟩
  · rename_i c
    rw [if_neg c] at h
    exact ⟨cmul_l (by omega), cdiv_of (by omega) (by omega), h⟩
def lv (vs : List Int) (b many : Int) : Int := (b * (vs.sum + many) + 100 - 1) / 100
def F_least_votes : FSpec := fun as R => ∃ vs ds s b many los his n, as = [tI vs, rD ds s b, oD many los his] ∧ VOk vs ∧ ROk ds s b vs.length ∧ OOk many los his n ∧ R (.int (lv vs b many))
theorem m_least_votes (as : List D) (R : D → Prop) (h : F_least_votes as R) : w_least_votes (PE0 R) (env0 N_least_votes as) := by
  obtain ⟨vs, ds, s, b, many, los, his, n, rfl, hv, hr, ho, h⟩ := h
  rw [e_least_votes]
  unfold w_least_votes
  have := hr.bar100
  simp
  exact ⟨cmul_l (by omega), cdiv_of (by omega) (by omega), h⟩
def encI : Option Int → D
  | none => .non
  | some x => .int x
def mx (x y : Int) : Int := if y > x then y else x
def mn (x y : Int) : Int := if y < x then y else x
theorem q_mx {x y : Int} {Q : D → Prop} : gMax2 [.int x, .int y] Q = Q (.int (mx x y)) := rfl
theorem q_mn {x y : Int} {Q : D → Prop} : gMin2 [.int x, .int y] Q = Q (.int (mn x y)) := rfl
theorem encI_ite {c : Prop} [Decidable c] {w : Int} : encI (if c then some w else none) = if c then .int w else .non := by split <;> rfl
/-- what it must have to be ahead -/
def wantd (vs ds : List Int) (b many top lw place : Int) (p k : Nat) : Int := mx (va top lw place (at0 ds k) p) (lv vs b many)
def nd (vs ds : List Int) (b many : Int) (los his : List Int) (top lw place : Int) (p k : Nat) : Option Int :=
  if k = 0 then some (at0 los p) else if ds.length < k then none else
    (let w := mx (at0 los p) (wantd vs ds b many top lw place p (k - 1) - at0 vs p); if w ≤ at0 his p then some w else none)
def cp (vs ds : List Int) (b many : Int) (los his : List Int) (top lw place : Int) (p k : Nat) : Option Int :=
  if ds.length ≤ k then some (at0 his p) else
    (let w := mn (at0 his p) (wantd vs ds b many top lw place p k - 1 - at0 vs p); if at0 los p ≤ w then some w else none)
def F_needed : FSpec := fun as R => ∃ vs ds s b many los his top lw place p, ∃ k : Nat, as = aD vs ds s b many los his top lw place p k ∧ Ask vs ds s b many los his top lw place p k ∧ R (encI (nd vs ds b many los his top lw place p k))
theorem m_needed (as : List D) (R : D → Prop) (h : F_needed as R) : w_needed F_votes_ahead F_least_votes (PE0 R) (env0 N_needed as) := by
  obtain ⟨vs, ds, s, b, many, los, his, top, lw, place, p, k, rfl, a, h⟩ := h
  rw [e_needed]
  unfold w_needed
  have hp := a.p
  have q1 : atI (los.map D.int) (p : Int) = some (.int (at0 los p)) := atI_int (by rw [a.o.l1]; exact hp)
  have q2 : atI (his.map D.int) (p : Int) = some (.int (at0 his p)) := atI_int (by rw [a.o.l2]; exact hp)
  have q3 : atI (vs.map D.int) (p : Int) = some (.int (at0 vs p)) := atI_int hp
  have hk := a.k
  have hst := a.r.st
  unfold nd at h
  simp [q1, q2, q3, -q_max2]
  by_cases c : k = 0
  · rw [if_pos c] at h
    simp [c]
    exact h
  · rw [if_neg c, if_neg (by omega)] at h
    have q4 : atI (ds.map D.int) ((k : Int) - 1) = some (.int (at0 ds (k - 1))) := atI_of (j := k - 1) (by omega) (by rw [List.getElem?_map, at0_get (by omega)]; rfl)
    simp [c, q4, -q_max2]
    rw [if_neg (by omega)]
    refine ⟨_, top, lw, place, p, vs.length, rfl, a.r.at0 (by omega), a.m, ?_⟩
    simp [-q_max2, -q_min2]
    refine ⟨vs, ds, s, b, many, los, his, vs.length, rfl, a.v, a.r, a.o, ?_⟩
    have h' : R (encI (if mx (at0 los p) (mx (va top lw place (at0 ds (k - 1)) p) (lv vs b many) - at0 vs p) ≤ at0 his p then some (mx (at0 los p) (mx (va top lw place (at0 ds (k - 1)) p) (lv vs b many) - at0 vs p)) else none)) := h
    rw [encI_ite] at h'
    simp [-q_max2, q_mx]
    split
    · rename_i z
      rw [if_pos z] at h'
      exact h'
    · rename_i z
      rw [if_neg z] at h'
      exact h'
def F_capped : FSpec := fun as R => ∃ vs ds s b many los his top lw place p, ∃ k : Nat, as = aD vs ds s b many los his top lw place p k ∧ Ask vs ds s b many los his top lw place p k ∧ R (encI (cp vs ds b many los his top lw place p k))
theorem m_capped (as : List D) (R : D → Prop) (h : F_capped as R) : w_capped F_votes_ahead F_least_votes (PE0 R) (env0 N_capped as) := by
  obtain ⟨vs, ds, s, b, many, los, his, top, lw, place, p, k, rfl, a, h⟩ := h
  rw [e_capped]
  unfold w_capped
  have hp := a.p
  have q1 : atI (los.map D.int) (p : Int) = some (.int (at0 los p)) := atI_int (by rw [a.o.l1]; exact hp)
  have q2 : atI (his.map D.int) (p : Int) = some (.int (at0 his p)) := atI_int (by rw [a.o.l2]; exact hp)
  have q3 : atI (vs.map D.int) (p : Int) = some (.int (at0 vs p)) := atI_int hp
  unfold cp at h
  simp [q1, q2, q3, -q_max2, -q_min2]
  by_cases c : ds.length ≤ k
  · rw [if_pos c] at h
    rw [if_pos c]
    exact h
  · rw [if_neg c] at h
    have q4 : atI (ds.map D.int) (k : Int) = some (.int (at0 ds k)) := atI_int (by omega)
    rw [if_neg c]
    simp [q4, -q_max2, -q_min2]
    refine ⟨_, top, lw, place, p, vs.length, rfl, a.r.at0 (by omega), a.m, ?_⟩
    simp [-q_max2, -q_min2]
    refine ⟨vs, ds, s, b, many, los, his, vs.length, rfl, a.v, a.r, a.o, ?_⟩
    have h' : R (encI (if at0 los p ≤ mn (at0 his p) (mx (va top lw place (at0 ds k) p) (lv vs b many) - 1 - at0 vs p) then some (mn (at0 his p) (mx (va top lw place (at0 ds k) p) (lv vs b many) - 1 - at0 vs p)) else none)) := h
    rw [encI_ite] at h'
    simp [-q_max2, -q_min2, q_mx, q_mn]
    split
    · rename_i z
      rw [if_pos z] at h'
      exact h'
    · rename_i z
      rw [if_neg z] at h'
      exact h'
theorem m_need (as : List D) (R : D → Prop) (h : F_needed as R) : w_need F_check_asked F_needed (PE0 R) (env0 N_need as) := by
  obtain ⟨vs, ds, s, b, many, los, his, top, lw, place, p, k, rfl, a, h⟩ := h
  rw [e_need]
  unfold w_need
  simp
  refine ⟨vs, ds, s, b, many, los, his, top, lw, place, p, k, rfl, a, ?_⟩
  simp
  exact ⟨vs, ds, s, b, many, los, his, top, lw, place, p, k, rfl, a, h⟩
theorem m_cap (as : List D) (R : D → Prop) (h : F_capped as R) : w_cap F_check_asked F_capped (PE0 R) (env0 N_cap as) := by
  obtain ⟨vs, ds, s, b, many, los, his, top, lw, place, p, k, rfl, a, h⟩ := h
  rw [e_cap]
  unfold w_cap
  simp
  refine ⟨vs, ds, s, b, many, los, his, top, lw, place, p, k, rfl, a, ?_⟩
  simp
  exact ⟨vs, ds, s, b, many, los, his, top, lw, place, p, k, rfl, a, h⟩
end S14

namespace S14
open PySem PySem.Spec PyProof.Rows L2 FL
/-! ### the law's own draws -/
abbrev PEP (R : D → List D → Prop) : DEnds := { nx := fun env => ∃ zs, env[0]? = some (.ol zs) ∧ R .non zs, rt := fun d env => ∃ zs, env[0]? = some (.ol zs) ∧ R d zs }
def big : Nat := 1099511627776
def PotOk (c : Nat) (ys : List D) : Prop := ∃ (own mix : Int) (k : Nat), ys = [.int own, .int mix, .int k] ∧ (0 ≤ own ∧ own < 2 ^ 1000) ∧ (0 ≤ mix ∧ mix < 2 ^ 61) ∧ k ≤ c
theorem PotOk.mono {c d : Nat} {ys : List D} (h : PotOk c ys) (e : c ≤ d) : PotOk d ys := by
  obtain ⟨own, mix, k, h1, h2, h3, h4⟩ := h
  exact ⟨own, mix, k, h1, h2, h3, by omega⟩
theorem cpow_of {i j : Int} (h : i.natAbs < 2 ^ 1000) (h0 : 0 ≤ j) (h1 : j ≤ 100) : CPowA i j := by
  refine ⟨h0, ?_⟩
  have e : Builtin.Int.intBits i ≤ 1001 := by
    have b : Builtin.Int.intBits i ≤ i.natAbs.log2 + 1 := by
      unfold Builtin.Int.intBits
      split <;> omega
    have l : i.natAbs.log2 ≤ 1000 := by
      by_cases z : i.natAbs = 0
      · rw [z]; decide
      · have := (Nat.log2_lt z).mpr h
        omega
    omega
  have h2 : (Builtin.Int.intBits i : Int) ≤ 1001 := by omega
  have h3 : (Builtin.Int.intBits i : Int) * j ≤ 1001 * 100 := Int.mul_le_mul h2 h1 h0 (by omega)
  omega
def F__law_take : PSpec := fun ys as R => ∃ (c : Nat) (u : Int), as = [.int u] ∧ PotOk c ys ∧ c < big ∧ (1 ≤ u ∧ u ≤ 1099511627776) ∧ ∀ (d : Int) zs, 0 ≤ d → d < u → PotOk (c + 1) zs → R (.int d) zs
theorem m__law_take (ys as : List D) (R : D → List D → Prop) (h : F__law_take ys as R) : w__law_take (PEP R) (envP N__law_take ys as) := by
  obtain ⟨c, u, rfl, ⟨own, mix, k, rfl, ho, hm, hk⟩, hc, hu, h⟩ := h
  rw [e__law_take]
  unfold w__law_take
  unfold big at hc
  simp
  split
  · rename_i h0
    refine ⟨by omega, cdiv_of (by omega) (by omega), ?_⟩
    simp [ixN]
    refine h _ _ (Int.emod_nonneg _ (by omega)) (Int.emod_lt_of_pos _ (by omega)) ⟨own / u, mix, k, rfl, ⟨Int.ediv_nonneg (by omega) (by omega), ?_⟩, hm, by omega⟩
    have := Int.ediv_le_self u (by omega : 0 ≤ own)
    omega
  · simp [ixN]
    refine ⟨sz (by omega), ?_⟩
    have hpr : ∃ pr : Int, atI [D.int 2147483647, D.int 2147483629, D.int 2147483587, D.int 2147483579, D.int 2147483563] (((k : Int) + 1) % 5) = some (.int pr) ∧ 0 < pr ∧ pr < 2147483648 := by
      have h5 : ((k : Int) + 1) % 5 = 0 ∨ ((k : Int) + 1) % 5 = 1 ∨ ((k : Int) + 1) % 5 = 2 ∨ ((k : Int) + 1) % 5 = 3 ∨ ((k : Int) + 1) % 5 = 4 := by omega
      rcases h5 with e | e | e | e | e
      · exact ⟨2147483647, by rw [e]; rfl, by omega, by omega⟩
      · exact ⟨2147483629, by rw [e]; rfl, by omega, by omega⟩
      · exact ⟨2147483587, by rw [e]; rfl, by omega, by omega⟩
      · exact ⟨2147483579, by rw [e]; rfl, by omega, by omega⟩
      · exact ⟨2147483563, by rw [e]; rfl, by omega, by omega⟩
    obtain ⟨pr, e1, p0, p1⟩ := hpr
    rw [e1]
    simp
    have k1 : ((k : Int) + 1) ≤ 1099511627777 := by omega
    have m1 : 105733 * ((k : Int) + 1) ≤ 105733 * 1099511627777 := by omega
    have m2 : 105733 * ((k : Int) + 1) * ((k : Int) + 1) ≤ 105733 * 1099511627777 * 1099511627777 := Int.mul_le_mul m1 k1 (by omega) (by omega)
    have m0 : 0 ≤ 105733 * ((k : Int) + 1) * ((k : Int) + 1) := Int.mul_nonneg (by omega) (by omega)
    refine ⟨cmul_l (by decide), cmul_r (by omega), cpow_of (by omega) (by omega) (by omega), p0, ?_⟩
    generalize hb : (mix + 105733 * ((k : Int) + 1) * ((k : Int) + 1) + 22725) ^ 3 % pr = bl
    have b0 : 0 ≤ bl := by rw [← hb]; exact Int.emod_nonneg _ (by omega)
    have b1 : bl < pr := by rw [← hb]; exact Int.emod_lt_of_pos _ p0
    refine ⟨cmul_l (by decide), cmul_l (by omega), cdiv_of (by omega) (by omega), by omega, ?_⟩
    refine h _ _ (Int.emod_nonneg _ (by omega)) (Int.emod_lt_of_pos _ (by omega)) ⟨own, mix, k + 1, by simp, ho, hm, by omega⟩
def F__law_of : PSpec := fun ys as R => ∃ (c : Nat) (xs : List D), as = [.lst xs] ∧ PotOk c ys ∧ c < big ∧ (1 ≤ xs.length ∧ xs.length ≤ 1000000) ∧ ∀ x zs, x ∈ xs → PotOk (c + 1) zs → R x zs
theorem m__law_of (ys as : List D) (R : D → List D → Prop) (h : F__law_of ys as R) : w__law_of F__law_take (PEP R) (envP N__law_of ys as) := by
  obtain ⟨c, xs, rfl, hp, hc, hl, h⟩ := h
  rw [e__law_of]
  unfold w__law_of
  simp
  refine ⟨c, xs.length, rfl, hp, hc, by omega, fun d zs d0 d1 hz => ?_⟩
  have hd : d.toNat < xs.length := by omega
  have e : atI xs d = some xs[d.toNat] := atI_of (j := d.toNat) (by omega) (List.getElem?_eq_getElem hd)
  simp [e]
  exact h _ _ (List.getElem_mem hd) hz
def F__law_votes : PSpec := fun ys as R => ∃ (c n : Nat), as = [.int n] ∧ PotOk c ys ∧ c + 100 < big ∧ (1 ≤ n ∧ n ≤ 12) ∧ ∀ vs zs, VOk vs → vs.length = n → PotOk (c + 50) zs → R (tI vs) zs
theorem m__law_votes (ys as : List D) (R : D → List D → Prop) (h : F__law_votes ys as R) : w__law_votes F__law_of F__law_take (PEP R) (envP N__law_votes ys as) := by
  obtain ⟨c, n, rfl, hp, hc, hn, h⟩ := h
  rw [e__law_votes]
  unfold w__law_votes
  simp
  refine ⟨cpow_of (by decide) (by decide) (by decide), cpow_of (by decide) (by decide) (by decide), sz (by decide), c, _, rfl, hp, by omega, by decide, fun x zs hx hz => ?_⟩
  obtain ⟨mo, rfl, hmo⟩ : ∃ mo : Int, x = .int mo ∧ 9 ≤ mo ∧ mo ≤ 1000000000 := by
    simp at hx
    rcases hx with rfl | rfl | rfl | rfl | rfl
    · exact ⟨9, rfl, by omega⟩
    · exact ⟨60, rfl, by omega⟩
    · exact ⟨1000, rfl, by omega⟩
    · exact ⟨10 ^ 6, rfl, by omega⟩
    · exact ⟨10 ^ 9, rfl, by omega⟩
  refine ⟨by omega, ?_⟩
  refine forD_inv (fun i env => ∃ zs s4, ∃ vs : List Int, env = [.ol zs, .fz (.int n), .fz (.int mo), .ol (vs.map D.int), s4] ∧ s4.isOwn = false ∧ vs.length = i ∧ (∀ v ∈ vs, 0 ≤ v ∧ v ≤ 1000000000) ∧ PotOk (c + 1 + 3 * i) zs)
    ⟨zs, _, [], rfl, rfl, rfl, by simp, hz⟩ (fun env hI => ?_) fun i x env Nx hx hI hN => ?_
  · obtain ⟨zs, s4, vs, rfl, o4, hvl, hva, hz⟩ := hI
    simp at hvl
    simp
    exact h vs zs ⟨by omega, hva⟩ hvl (hz.mono (by simp; omega))
  · obtain ⟨zs, s4, vs, rfl, o4, hvl, hva, hz⟩ := hI
    have hi : i < n := by
      have := (List.getElem?_eq_some_iff.mp hx).1
      simpa using this
    simp [o4]
    refine ⟨_, _, rfl, hz, by omega, by omega, fun d1 z1 a1 b1 hz1 => ?_⟩
    simp
    refine ⟨_, _, rfl, hz1, by omega, by omega, fun d2 z2 a2 b2 hz2 => ?_⟩
    simp
    refine ⟨cdiv_of (by omega) (by omega), sz (by decide), _, _, rfl, hz2, by omega, by simp, fun y z3 hy hz3 => ?_⟩
    obtain ⟨yi, rfl, hyi⟩ : ∃ yi : Int, y = .int yi ∧ 0 ≤ yi ∧ yi ≤ 1000000000 := by
      simp at hy
      rcases hy with rfl | rfl | rfl
      · exact ⟨d1, rfl, by omega⟩
      · exact ⟨d2, rfl, by omega⟩
      · exact ⟨mo / 3, rfl, by omega⟩
    refine ⟨szl (by omega), hN _ ⟨z3, .fz x, vs ++ [yi], by simp, rfl, by simp [hvl], fun v hv => ?_, hz3.mono (by omega)⟩⟩
    rcases List.mem_append.mp hv with hv | hv
    · exact hva v hv
    · have : v = yi := by simpa using hv
      omega
end S14

namespace S14
open PySem PySem.Spec PyProof.Rows L2 FL
theorem seq_mid {a b : DS} {E : DEnds} {env : SEnv} (Q : SEnv → Prop) (h1 : ∀ Nx : SEnv → Prop, (∀ e, Q e → Nx e) → a { E with nx := Nx } env) (h2 : ∀ e, Q e → b E e) : sSeq a b E env := h1 (b E) h2
theorem asc_map {f : Nat → Int} (hf : ∀ i j, i < j → f i < f j) : ∀ n, ((List.range n).map f).Pairwise (· < ·) := fun n => by
  rw [List.pairwise_map]
  exact List.Pairwise.imp (fun {a b} h => hf a b h) List.pairwise_lt_range
theorem q_mn' {x y : Int} {Q : D → Prop} : gMin2 [.int x, .int y] Q = Q (.int (mn x y)) := rfl
def F__law_rule : PSpec := fun ys as R => ∃ (c n s : Nat), as = [.int n, .int s] ∧ PotOk c ys ∧ c + 300 < big ∧ (1 ≤ n ∧ n ≤ 12) ∧ (1 ≤ s ∧ s ≤ 58) ∧ ∀ ds b zs, ROk ds s b n → PotOk (c + 200) zs → R (rD ds s b) zs
theorem m__law_rule (ys as : List D) (R : D → List D → Prop) (h : F__law_rule ys as R) : w__law_rule F__law_take F__law_of (PEP R) (envP N__law_rule ys as) := by
  obtain ⟨c, n, s, rfl, hp, hc, hn, hs, h⟩ := h
  rw [e__law_rule]
  unfold w__law_rule
  rw [q_seq]
  simp [-q_seq]
  refine ⟨_, _, rfl, hp, by omega, by omega, fun d1 z1 a1 b1 hz1 => ?_⟩
  simp [-q_seq]
  refine ⟨_, _, rfl, hz1, by omega, by omega, fun d2 z2 a2 b2 hz2 => ?_⟩
  simp [-q_seq]
  obtain ⟨mn0, emn, hmn⟩ : ∃ m : Nat, (s : Int) + d1 = m ∧ 1 ≤ m ∧ m ≤ 60 ∧ s ≤ m := ⟨((s : Int) + d1).toNat, by omega, by omega⟩
  rw [emn]
  refine seq_mid (fun env => ∃ zs s7 s8, ∃ ds : List Int, env = [.ol zs, .fz (.int n), .fz (.int s), .no, .fz (.int mn0), .fz (.int d2), .fz (lI ds), s7, s8] ∧ ds.length = mn0 ∧ (∀ d ∈ ds, 1 ≤ d ∧ d ≤ 1000000) ∧ ds.Pairwise (· < ·) ∧ PotOk (c + 190) zs) (fun Nx hN => ?_) fun e hQ => ?_
  · simp
    split
    · refine ⟨by omega, sz (by omega), ?_⟩
      refine compD_fn (fun i : Nat => D.int (i : Int)) (fun i => some (.int ((i : Int) + 1))) ?_ fun x _ acc Nx2 hN2 => ?_
      · rw [List.filterMap_eq_map']
        simp
        refine hN _ ⟨z2, .no, .no, (List.range mn0).map (fun i : Nat => (i : Int) + 1), by simp [Function.comp_def], by simp, fun d hd => ?_, asc_map (fun i j h => by omega) _, hz2.mono (by omega)⟩
        obtain ⟨i, hi, rfl⟩ := List.mem_map.mp hd
        have := List.mem_range.mp hi
        omega
      · simp
        exact hN2
    · split
      · refine ⟨by omega, sz (by omega), ?_⟩
        refine compD_fn (fun i : Nat => D.int (i : Int)) (fun i => some (.int (2 * (i : Int) + 1))) ?_ fun x _ acc Nx2 hN2 => ?_
        · rw [List.filterMap_eq_map']
          simp
          refine hN _ ⟨z2, .no, .no, (List.range mn0).map (fun i : Nat => 2 * (i : Int) + 1), by simp [Function.comp_def], by simp, fun d hd => ?_, asc_map (fun i j h => by omega) _, hz2.mono (by omega)⟩
          obtain ⟨i, hi, rfl⟩ := List.mem_map.mp hd
          have := List.mem_range.mp hi
          omega
        · simp
          exact ⟨cmul_l (by decide), hN2⟩
      · refine ⟨sz (by decide), _, _, rfl, hz2, by omega, by simp, fun x z3 hx hz3 => ?_⟩
        obtain ⟨he, rfl, hhe⟩ : ∃ he : Int, x = .int he ∧ 1 ≤ he ∧ he ≤ 998999 := by
          simp at hx
          rcases hx with rfl | rfl | rfl
          · exact ⟨1, rfl, by omega⟩
          · exact ⟨7, rfl, by omega⟩
          · exact ⟨999000 - mn0, rfl, by omega⟩
        refine ⟨by omega, ?_⟩
        refine forD_inv (fun i env => ∃ zs s7, ∃ (here : Int) (ds : List Int), env = [.ol zs, .fz (.int n), .fz (.int s), .no, .fz (.int mn0), .fz (.int d2), .ol (ds.map D.int), s7, .fz (.int here)] ∧ s7.isOwn = false ∧ ds.length = i ∧ (∀ d ∈ ds, 1 ≤ d ∧ d < here) ∧ ds.Pairwise (· < ·) ∧ (1 ≤ here ∧ here ≤ 998999 + 9 * i) ∧ PotOk (c + 3 + 2 * i) zs)
          ⟨z3, _, he, [], rfl, rfl, rfl, by simp, List.Pairwise.nil, by simpa using hhe, hz3⟩ (fun env hI => ?_) fun i x env Nx3 hx hI hN3 => ?_
        · obtain ⟨zs, s7, here, ds, rfl, o7, hl, ha, hpw, hh, hz⟩ := hI
          simp at hl hh hz
          simp
          refine hN _ ⟨zs, _, _, ds, rfl, hl, fun d hd => ?_, hpw, hz.mono (by omega)⟩
          have := ha d hd
          omega
        · obtain ⟨zs, s7, here, ds, rfl, o7, hl, ha, hpw, hh, hz⟩ := hI
          have hi : i < mn0 := by
            have := (List.getElem?_eq_some_iff.mp hx).1
            simpa using this
          simp [o7]
          refine ⟨szl (by omega), _, _, rfl, hz, by omega, by omega, fun d3 z4 a3 b3 hz4 => ?_⟩
          simp
          refine ⟨sz (by decide), _, _, rfl, hz4, by omega, by simp, fun y z5 hy hz5 => ?_⟩
          obtain ⟨yi, rfl, hyi⟩ : ∃ yi : Int, y = .int yi ∧ 0 ≤ yi ∧ yi ≤ 8 := by
            simp at hy
            rcases hy with rfl | rfl
            · exact ⟨0, rfl, by omega⟩
            · exact ⟨d3, rfl, by omega⟩
          simp
          refine hN3 _ ⟨z5, .fz x, here + 1 + yi, ds ++ [here], by simp, rfl, by simp [hl], fun d hd => ?_, ?_, by omega, hz5.mono (by omega)⟩
          · rcases List.mem_append.mp hd with hd | hd
            · have := ha d hd; omega
            · have : d = here := by simpa using hd
              omega
          · rw [List.pairwise_append]
            exact ⟨hpw, by simp, fun a ha' b hb => by
              have : b = here := by simpa using hb
              have := ha a ha'
              omega⟩
  · obtain ⟨zs, s7, s8, ds, rfl, hl, ha, hpw, hz⟩ := hQ
    have hn0 : (0 : Int) < n := by omega
    have hq1 : 0 ≤ 100 / (n : Int) := Int.ediv_nonneg (by omega) (by omega)
    have hq2 : 100 / (n : Int) ≤ 100 := Int.ediv_le_self _ (by omega)
    simp [-q_min2, q_mn']
    refine ⟨cdiv_of hn0 (by omega), _, _, rfl, hz, by omega, by omega, fun d3 z4 a3 b3 hz4 => ?_⟩
    simp [-q_min2, q_mn']
    refine ⟨sz (by decide), _, _, rfl, hz4, by omega, by simp, fun y z5 hy hz5 => ?_⟩
    obtain ⟨yi, rfl, hyi⟩ : ∃ yi : Int, y = .int yi ∧ 0 ≤ yi := by
      simp at hy
      rcases hy with rfl | rfl | rfl
      · exact ⟨0, rfl, by omega⟩
      · exact ⟨3, rfl, by omega⟩
      · exact ⟨d3, rfl, by omega⟩
    simp [-q_min2, q_mn']
    refine ⟨cdiv_of hn0 (by omega), sz (by decide), h ds _ _ ⟨by omega, ha, hpw, by omega, ?_, by omega⟩ (hz5.mono (by omega))⟩
    unfold mn
    split <;> omega
end S14

namespace S14
open PySem PySem.Spec PyProof.Rows L2 FL
def F__law_out : PSpec := fun ys as R => ∃ (c n : Nat) (most : Int), as = [.int n, .int most] ∧ PotOk c ys ∧ c + 300 < big ∧ (1 ≤ n ∧ n ≤ 12) ∧ (1 ≤ most ∧ most ≤ 300000000) ∧ ∀ many los his zs, OOk many los his n → PotOk (c + 100) zs → R (oD many los his) zs
theorem m__law_out (ys as : List D) (R : D → List D → Prop) (h : F__law_out ys as R) : w__law_out F__law_of F__law_take (PEP R) (envP N__law_out ys as) := by
  obtain ⟨c, n, most, rfl, hp, hc, hn, hmo, h⟩ := h
  rw [e__law_out]
  unfold w__law_out
  rw [q_seq]
  simp [-q_seq]
  refine ⟨by omega, sz (by omega), ?_⟩
  refine compD_map (xs := List.range n) (fun i : Nat => D.int (i : Int)) (fun xs acc env => ∃ zs, ∃ hs : List Int, acc = hs.map D.int ∧ env = [.ol zs, .fz (.int n), .fz (.int most), .no, .no, .no, .no, .no] ∧ hs.length = xs.length ∧ (∀ v ∈ hs, 0 ≤ v ∧ v ≤ most) ∧ PotOk (c + 2 * xs.length) zs)
    ⟨ys, [], rfl, rfl, rfl, by simp, hp⟩ (fun acc env hI => ?_) fun xs x rest acc env Nx ex hI hN => ?_
  · obtain ⟨zs, hs, rfl, rfl, hl, ha, hz⟩ := hI
    simp at hl hz
    simp [-q_seq]
    rw [q_seq]
    simp [-q_seq]
    refine ⟨sz (by omega), ?_⟩
    refine compD_map (xs := hs) D.int (fun xs acc env => ∃ zs, ∃ ls : List Int, acc = ls.map D.int ∧ env = [.ol zs, .fz (.int n), .fz (.int most), .fz (lI hs), .no, .no, .no, .no] ∧ ls.length = xs.length ∧ (∀ v ∈ ls, 0 ≤ v ∧ v * (4 * n) ≤ most) ∧ (∀ q ∈ ls.zip xs, q.1 ≤ q.2) ∧ ls.sum ≤ xs.sum ∧ PotOk (c + 2 * n + 2 * xs.length) zs)
      ⟨zs, [], rfl, rfl, rfl, by simp, by simp, by simp, hz⟩ (fun acc env hI => ?_) fun xs x rest acc env Nx ex hI hN => ?_
    · obtain ⟨zs, ls, rfl, rfl, hl2, ha2, hzip, hsum, hz⟩ := hI
      simp [-q_seq]
      rw [q_seq]
      simp [-q_seq, -q_min2, q_mn']
      have hM : ∀ v ∈ ls, 0 ≤ v ∧ v ≤ most / (4 * n) := fun v hv => by
        have := ha2 v hv
        exact ⟨this.1, (Int.le_ediv_iff_mul_le (by omega)).mpr this.2⟩
      have hs1 := sum_ge hM
      have hs2 : most / (4 * (n : Int)) * (ls.length : Int) ≤ 75000000 := by
        have e1 : (ls.length : Int) = n := by omega
        rw [e1]
        have e2 : most / (4 * (n : Int)) * (4 * (n : Int)) ≤ most := Int.ediv_mul_le _ (by omega)
        have e3 : most / (4 * (n : Int)) * (4 * (n : Int)) = 4 * (most / (4 * (n : Int)) * n) := by rw [Int.mul_left_comm]
        omega
      have hg : 0 ≤ mn (most / 2 + 1) (hs.sum - ls.sum) ∧ mn (most / 2 + 1) (hs.sum - ls.sum) ≤ most / 2 + 1 ∧ mn (most / 2 + 1) (hs.sum - ls.sum) ≤ hs.sum - ls.sum := by
        unfold mn
        split <;> omega
      refine ⟨cdiv_of (by omega) (by omega), _, _, rfl, hz, by omega, by omega, fun d z1 a1 b1 hz1 => ?_⟩
      simp
      refine ⟨sz (by decide), ?_⟩
      refine h (ls.sum + d) ls hs z1 ⟨by omega, by omega, hn, fun x hx => ?_, fun x hx => ?_, hzip, by omega, by omega, by omega⟩ (hz1.mono (by omega))
      · have := ha2 x hx
        have h4 : x * 1 ≤ x * (4 * (n : Int)) := Int.mul_le_mul_of_nonneg_left (by omega) this.1
        omega
      · have := ha x hx; omega
    · obtain ⟨zs, ls, rfl, rfl, hl2, ha2, hzip, hsum, hz⟩ := hI
      have hx : 0 ≤ x ∧ x ≤ most := ha x (by rw [ex]; simp)
      have hxl : xs.length < hs.length := by rw [ex]; simp
      simp
      refine ⟨_, _, rfl, hz, by omega, by omega, fun d z1 a1 b1 hz1 => ?_⟩
      simp
      refine ⟨cmul_l (by decide), cdiv_of (by omega) (by omega), sz (by decide), _, _, rfl, hz1, by omega, by simp, fun y z2 hy hz2 => ?_⟩
      obtain ⟨yi, rfl, hy0, hy1⟩ : ∃ yi : Int, y = .int yi ∧ 0 ≤ yi ∧ yi * (4 * n) ≤ x := by
        simp at hy
        rcases hy with rfl | rfl
        · exact ⟨0, rfl, by omega, by omega⟩
        · refine ⟨d / (4 * n), rfl, Int.ediv_nonneg a1 (by omega), ?_⟩
          have := Int.ediv_mul_le d (by omega : (4 * (n : Int)) ≠ 0)
          omega
      have hyx : yi ≤ x := by
        have h4 : yi * 1 ≤ yi * (4 * (n : Int)) := Int.mul_le_mul_of_nonneg_left (by omega) hy0
        omega
      refine hN _ _ ⟨z2, ls ++ [yi], by simp, rfl, by simp [hl2], fun v hv => ?_, fun q hq => ?_, ?_, hz2.mono (by simp; omega)⟩
      · rcases List.mem_append.mp hv with hv | hv
        · exact ha2 v hv
        · have : v = yi := by simpa using hv
          subst this
          omega
      · rw [List.zip_append hl2] at hq
        rcases List.mem_append.mp hq with hq | hq
        · exact hzip q hq
        · have : q = (yi, x) := by simpa using hq
          subst this
          exact hyx
      · rw [List.sum_append, List.sum_append]
        simp
        omega
  · obtain ⟨zs, hs, rfl, rfl, hl, ha, hz⟩ := hI
    have hxl : xs.length < n := by
      have := congrArg List.length ex
      simp at this
      omega
    simp
    refine ⟨_, _, rfl, hz, by omega, by omega, fun d z1 a1 b1 hz1 => ?_⟩
    simp
    refine ⟨sz (by decide), _, _, rfl, hz1, by omega, by simp, fun y z2 hy hz2 => ?_⟩
    obtain ⟨yi, rfl, hy0⟩ : ∃ yi : Int, y = .int yi ∧ 0 ≤ yi ∧ yi ≤ most := by
      simp at hy
      rcases hy with rfl | rfl
      · exact ⟨most, rfl, by omega⟩
      · exact ⟨d, rfl, by omega⟩
    refine hN _ _ ⟨z2, hs ++ [yi], by simp, rfl, by simp [hl], fun v hv => ?_, hz2.mono (by simp; omega)⟩
    rcases List.mem_append.mp hv with hv | hv
    · exact ha v hv
    · have : v = yi := by simpa using hv
      subst this
      exact hy0
/-- so many quotients of has are ahead of the mark -/
def aheadB (has top lw place : Int) (p : Nat) (d : Int) : Bool := decide (top * d < has * lw) || (decide (has * lw = top * d) && decide ((p : Int) < place))
def aheadN (ds : List Int) (has top lw place : Int) (p : Nat) : Nat := (ds.filter (aheadB has top lw place p)).length
def F__law_ahead : FSpec := fun as R => ∃ (has : Int) (ds : List Int) (s b top lw place : Int) (p n : Nat), as = [.int has, rD ds s b, mD top lw place, .int p] ∧ ds.length ≤ 60 ∧ MOk top lw place n ∧ R (.int (aheadN ds has top lw place p : Nat))
theorem filterMap_b {α : Type} (f : Int → Bool) (g : Int → D) : ∀ l : List Int, (l.filterMap fun x => if f x = true then some (g x) else none) = (l.filter f).map g
  | [] => rfl
  | x :: l => by
    rw [List.filterMap_cons, List.filter_cons, filterMap_b (α := α) f g l]
    cases f x <;> simp
theorem m__law_ahead (as : List D) (R : D → Prop) (h : F__law_ahead as R) : w__law_ahead (PE0 R) (env0 N__law_ahead as) := by
  obtain ⟨has, ds, s, b, top, lw, place, p, n, rfl, hl, hm, h⟩ := h
  rw [e__law_ahead]
  unfold w__law_ahead
  have h1 := hm.top
  have h2 := hm.lw
  simp
  refine ⟨sz (by omega), ?_⟩
  refine compD_fn D.int (fun d => if aheadB has top lw place p d = true then some (.int d) else none) ?_ fun d _ acc Nx hN => ?_
  · rw [filterMap_b (α := Unit)]
    rw [List.length_map]
    exact h
  · simp
    refine ⟨cmul_r (by omega), cmul_l (by omega), ?_⟩
    split
    · rename_i z
      simpa [aheadB, z] using hN
    · rename_i z
      refine ⟨cmul_r (by omega), cmul_l (by omega), ?_⟩
      by_cases z1 : has * lw = top * d
      · by_cases z2 : (p : Int) < place
        · simpa [aheadB, z, z1, z2] using hN
        · simpa [aheadB, z, z1, z2] using hN
      · simpa [aheadB, z, z1] using hN
end S14

namespace S14
open PySem PySem.Spec PyProof.Rows L2 FL
abbrev pD (q : Nat × Nat) : D := .tup [.int (q.1 : Int), .int (q.2 : Int)]
abbrev ft (vs : List Int) (b : Int) := fit vs b
theorem fit_pw (vs : List Int) (b : Int) : (fit vs b).Pairwise (· < ·) := List.Pairwise.filter _ List.pairwise_lt_range
theorem filterMap_fit2 (vs : List Int) (b : Int) (f : Nat → D) : ((List.range vs.length).filterMap fun p => if low vs b p then none else some (f p)) = (fit vs b).map f := by
  unfold fit
  induction List.range vs.length with
  | nil => rfl
  | cons x r ih =>
    rw [List.filterMap_cons, List.filter_cons]
    by_cases h : low vs b x
    · simp [h, ih]
    · simp [h, ih]
theorem pairs_hd : ∀ l : List Nat, pairsOf (l.map fun p : Nat => D.tup [.int (p : Int), .int 0]) = some (hd l fun _ => 0)
  | [] => rfl
  | p :: l => by
    show (match keyOf (.int (p : Int)), pairsOf (l.map fun p : Nat => D.tup [.int (p : Int), .int 0]) with
    | some key, some kvs => some ((key, D.int 0) :: kvs)
    | _, _ => none) = _
    rw [pairs_hd l]
    rfl
def everyL (vs ds : List Int) (b : Int) : List (Nat × Nat) := (run vs ds (fit vs b) (ds.length * (fit vs b).length)).1
def F__law_sorted : FSpec := fun as R => ∃ (vs ds : List Int) (s b : Int), as = [tI vs, rD ds s b] ∧ VOk vs ∧ ROk ds s b vs.length ∧ R (.lst ((everyL vs ds b).map pD))
theorem m__law_sorted (as : List D) (R : D → Prop) (h : F__law_sorted as R) : w__law_sorted (PE0 R) (env0 N__law_sorted as) := by
  obtain ⟨vs, ds, s, b, rfl, hv, hr, h⟩ := h
  rw [e__law_sorted]
  unfold w__law_sorted
  have hl := hv.len
  have hst := hr.st
  have hdl := hr.len
  have hb := hr.bar100
  have hfl := fit_len vs b
  rw [q_seq]
  simp [-q_seq]
  rw [q_seq]
  simp [-q_seq]
  refine ⟨by omega, sz (by omega), ?_⟩
  refine compD_fn (fun i : Nat => D.int (i : Int)) (fun p => if low vs b p then none else some (D.int (p : Int))) ?_ fun p hp acc Nx hN => ?_
  · rw [filterMap_fit2]
    simp [-q_seq]
    rw [q_seq]
    simp [-q_seq]
    refine ⟨sz (by omega), ?_⟩
    refine compD_fn (xs := fit vs b) (fun i : Nat => D.int (i : Int)) (fun p => some (.tup [.int (p : Int), .int 0])) ?_ fun p hp acc Nx hN => ?_
    · rw [List.filterMap_eq_map', pairs_hd]
      have hfold := hd_fold (fun _ => 0) (fit vs b) [] (by simpa using fit_nodup vs b)
      have hm : mergeD [] (hd (fit vs b) fun _ => 0) = hd (fit vs b) fun _ => 0 := hfold
      simp [-q_seq, hm]
      rw [q_seq]
      simp [-q_seq]
      have hmul : (((fit vs b).length : Int) * (ds.length : Int)) = ((ds.length * (fit vs b).length : Nat) : Int) := by rw [Int.natCast_mul, Int.mul_comm]
      have hmb : ds.length * (fit vs b).length ≤ 60 * 12 := Nat.mul_le_mul (by omega) (by omega)
      refine ⟨cmul_l (by omega), ?_⟩
      rw [hmul]
      generalize htot : ds.length * (fit vs b).length = tot at *
      refine ⟨by omega, by omega, ?_⟩
      rw [Int.toNat_natCast]
      refine forD_inv (fun k env => ∃ s3 s9 s10, s3.isOwn = false ∧ s9.isOwn = false ∧ s10.isOwn = false ∧ env = [.fz (tI vs), .fz (rD ds s b), .od (hd (fit vs b) (run vs ds (fit vs b) k).2), s3, .fz (tI ds), .fz (.int s), .fz (.int b), .fz (.lst ((fit vs b).map fun p : Nat => D.int (p : Int))), .ol ((run vs ds (fit vs b) k).1.map pD), s9, s10])
        ⟨_, _, _, rfl, rfl, rfl, rfl⟩ (fun env hI => ?_) fun k x env Nx hx hI hN => ?_
      · obtain ⟨s3, s9, s10, _, _, _, rfl⟩ := hI
        simp
        have : everyL vs ds b = (run vs ds (fit vs b) tot).1 := by unfold everyL; rw [htot]
        rw [this] at h
        exact h
      · obtain ⟨s3, s9, s10, o3, o9, o10, rfl⟩ := hI
        have hk : k < tot := by
          have := (List.getElem?_eq_some_iff.mp hx).1
          simpa using this
        obtain ⟨p, ep⟩ := (good_run hr.dok hv.pos (fit_nodup vs b) tot (by omega)).2 k hk
        have g := good_fit hv hr (k := k) (by omega)
        have rs := run_succ ep
        have bb := best_some hr.dok ep
        generalize hm : (run vs ds (fit vs b) k).2 = m at *
        generalize hll : (run vs ds (fit vs b) k).1 = l at *
        rw [q_pnm]
        simp [o3, o9, -q_seq]
        rw [q_seq]
        simp [o3, o9, -q_seq]
        refine seq_mid (fun env => ∃ s10, s10.isOwn = false ∧ env = [.fz (tI vs), .fz (rD ds s b), .od (hd (fit vs b) m), .fz x, .fz (tI ds), .fz (.int s), .fz (.int b), .fz (.lst ((fit vs b).map fun p : Nat => D.int (p : Int))), .ol (l.map pD), .fz (.int (p : Int)), s10]) (fun Nx' hN' => ?_) fun e hQ => ?_
        · simp
          refine forD_map (xs := fit vs b) (fun p : Nat => D.int (p : Int)) (fun ys env => ∃ s10, s10.isOwn = false ∧ env = [.fz (tI vs), .fz (rD ds s b), .od (hd (fit vs b) m), .fz x, .fz (tI ds), .fz (.int s), .fz (.int b), .fz (.lst ((fit vs b).map fun p : Nat => D.int (p : Int))), .ol (l.map pD), .fz (encO (ys.foldl (better vs ds m) none)), s10])
            ⟨s10, o10, rfl⟩ (fun env hI => ?_) fun ys q zs env Nx2 ex hI hN2 => ?_
          · obtain ⟨s10, o10, rfl⟩ := hI
            rw [show (fit vs b).foldl (better vs ds m) none = some p from ep]
            exact hN' _ ⟨s10, o10, rfl⟩
          · obtain ⟨s10, o10, rfl⟩ := hI
            have hq : q ∈ fit vs b := by rw [ex]; simp
            have hqv := (fit_mem.mp hq).1
            have hfold : (ys ++ [q]).foldl (better vs ds m) none = better vs ds m (ys.foldl (better vs ds m) none) q := by rw [List.foldl_append]; rfl
            have hb0 : ∀ r, ys.foldl (better vs ds m) none = some r → IsBest vs ds m ys r := fun r hr0 => best_some hr.dok hr0
            simp [o10, hd_val hq]
            generalize ys.foldl (better vs ds m) none = acc at *
            split
            · rename_i h1
              have h1' : m q < ds.length := by omega
              cases acc with
              | none =>
                simp [encO]
                exact hN2 _ ⟨.fz (.int (q : Int)), rfl, by rw [hfold]; simp [better, h1', encO]⟩
              | some r =>
                have br := hb0 r rfl
                have hr2 : r ∈ fit vs b := by rw [ex]; simp [br.mem]
                have hrq : r < q := by
                  have := fit_pw vs b
                  rw [ex, List.pairwise_append] at this
                  exact this.2.2 r br.mem q (by simp)
                have v1 := hv.at0 hqv
                have v2 := hv.at0 (fit_mem.mp hr2).1
                simp [encO, hd_val hr2, atI_int hqv, atI_int (fit_mem.mp hr2).1, atI_int br.free, atI_int h1']
                refine ⟨cmul_l (by omega), cmul_l (by omega), ?_⟩
                have hiff : Ahead vs ds q (m q) r (m r) ↔ at0 vs r * at0 ds (m q) < at0 vs q * at0 ds (m r) := by
                  unfold Ahead
                  constructor
                  · rintro (z | ⟨_, z⟩)
                    · exact z
                    · omega
                  · exact .inl
                split
                · rename_i ha
                  exact hN2 _ ⟨.fz (.int (q : Int)), rfl, by rw [hfold]; simp [better, h1', encO, hiff, ha]⟩
                · rename_i ha
                  exact hN2 _ ⟨.fz (.int (q : Int)), rfl, by rw [hfold]; simp only [better, h1', encO, hiff, ha, if_true, if_false]⟩
            · rename_i h1
              have h1' : ¬ m q < ds.length := by omega
              exact hN2 _ ⟨.fz (.int (q : Int)), rfl, by rw [hfold]; simp [better, h1']⟩
        · obtain ⟨s10, o10, rfl⟩ := hQ
          simp [hd_val bb.mem, hd_put bb.mem]
          have hlen := g.len
          rw [hd_len]
          exact ⟨sz (by decide), szl (by omega), szl (by omega), hN _ ⟨_, _, _, rfl, rfl, o10, by rw [rs, List.map_append]; rfl⟩⟩
    · simp
      exact ⟨sz (by decide), hN⟩
  · have hp' := List.mem_range.mp hp
    simp [atI_int hp']
    refine ⟨cmul_r (by decide), cmul_l (by omega), ?_⟩
    by_cases c : low vs b p
    · have c' : ¬ b * vs.sum ≤ at0 vs p * 100 := by unfold low at c; omega
      simpa [c, c'] using hN
    · have c' : b * vs.sum ≤ at0 vs p * 100 := by unfold low at c; omega
      simpa [c, c'] using hN
end S14

namespace S14
open PySem PySem.Spec PyProof.Rows L2 FL
/-! ### what marks take -/
theorem va_iff {top lw place v d : Int} {p : Nat} (hl : 1 ≤ lw) : aheadB v top lw place p d = true ↔ va top lw place d p ≤ v := by
  unfold aheadB va
  simp only [Bool.or_eq_true, Bool.and_eq_true, decide_eq_true_eq]
  by_cases c : (p : Int) < place
  · rw [if_pos c]
    have e : (top * d + lw - 1) / lw ≤ v ↔ top * d ≤ v * lw := by
      rw [← Int.lt_add_one_iff, Int.ediv_lt_iff_lt_mul (by omega), Int.add_mul]
      omega
    rw [e]
    omega
  · rw [if_neg c]
    have e : top * d / lw + 1 ≤ v ↔ top * d < v * lw := by
      rw [Int.add_one_le_iff, Int.ediv_lt_iff_lt_mul (by omega)]
    rw [e]
    omega
theorem filter_pre {f : Int → Bool} : ∀ {ds : List Int} {k : Nat}, (∀ i j, i ≤ j → j < ds.length → f (at0 ds j) = true → f (at0 ds i) = true) → k < ds.length → (k < (ds.filter f).length ↔ f (at0 ds k) = true)
  | [], k, _, h => by simp at h
  | d :: ds, k, hm, h => by
    have e : ∀ i, at0 (d :: ds) (i + 1) = at0 ds i := fun i => rfl
    have e0 : at0 (d :: ds) 0 = d := rfl
    rw [List.filter_cons]
    by_cases c : f d = true
    · rw [if_pos c]
      cases k with
      | zero => simp [e0, c]
      | succ k =>
        rw [List.length_cons, e]
        have := filter_pre (f := f) (ds := ds) (k := k) (fun i j hij hj hf => by
          have := hm (i + 1) (j + 1) (by omega) (by simp; omega) (by rw [e]; exact hf)
          rw [e] at this
          exact this) (by simpa using h)
        rw [← this]
        omega
    · rw [if_neg c]
      have hno : ∀ x ∈ ds, ¬ f x = true := fun x hx hf => by
        obtain ⟨j, hj, rfl⟩ := List.mem_iff_getElem.mp hx
        have := hm 0 (j + 1) (by omega) (by simpa using hj) (by rw [e, at0_of (List.getElem?_eq_getElem hj)]; exact hf)
        rw [e0] at this
        exact c this
      rw [List.filter_eq_nil_iff.mpr hno]
      constructor
      · intro z; simp at z
      · intro z
        cases k with
        | zero => rw [e0] at z; exact absurd z c
        | succ k =>
          rw [e] at z
          exact absurd z (hno _ (at0_mem (by simpa using h)))
section
variable {vs ds : List Int} {b many top lw place : Int} {p : Nat}
/-- so many of its quotients are ahead with v votes -/
def cntA (vs ds : List Int) (b many top lw place : Int) (p : Nat) (v : Int) : Nat := if b * (vs.sum + many) ≤ 100 * v then aheadN ds v top lw place p else 0
theorem cnt_iff (hd : DOk ds) (hl : 1 ≤ lw) (ht : 0 ≤ top) {k : Nat} (hk : k < ds.length) {v : Int} : k < cntA vs ds b many top lw place p v ↔ wantd vs ds b many top lw place p k ≤ v := by
  have hpre : k < aheadN ds v top lw place p ↔ va top lw place (at0 ds k) p ≤ v := by
    unfold aheadN
    rw [filter_pre (fun i j hij hj hf => ?_) hk, va_iff hl]
    have hle : at0 ds i ≤ at0 ds j := by
      by_cases e : i = j
      · subst e; omega
      · have := hd.asc i j (by omega) hj; omega
    have := Int.mul_le_mul_of_nonneg_left hle ht
    unfold aheadB at hf ⊢
    simp only [Bool.or_eq_true, Bool.and_eq_true, decide_eq_true_eq] at hf ⊢
    omega
  have hlv : lv vs b many ≤ v ↔ b * (vs.sum + many) ≤ 100 * v := by
    unfold lv
    generalize b * (vs.sum + many) = x
    omega
  unfold cntA wantd mx
  split
  · rename_i c
    rw [hpre]
    split <;> omega
  · rename_i c
    have : ¬ lv vs b many ≤ v := fun z => c (hlv.mp z)
    split <;> omega
theorem cnt_le {v : Int} : cntA vs ds b many top lw place p v ≤ ds.length := by
  unfold cntA aheadN
  split
  · exact List.length_filter_le _ _
  · omega
structure MarkOk (A : Int → Nat) (x lo hi : Int) (k : Nat) (told most : Option Int) : Prop where
  n1 : told = none → A (x + hi) < k
  n2 : most = none → k < A (x + lo)
  t : ∀ t, told = some t → k ≤ A (x + t) ∧ lo ≤ t ∧ t ≤ hi ∧ (lo < t → A (x + (t - 1)) < k)
  m : ∀ t, most = some t → A (x + t) ≤ k ∧ lo ≤ t ∧ t ≤ hi ∧ (t < hi → k < A (x + (t + 1)))
theorem mark_ok (hd : DOk ds) (hl : 1 ≤ lw) (ht : 0 ≤ top) {los his : List Int} {k : Nat} (hk : k ≤ ds.length) (hlo : at0 los p ≤ at0 his p) :
    MarkOk (cntA vs ds b many top lw place p) (at0 vs p) (at0 los p) (at0 his p) k (nd vs ds b many los his top lw place p k) (cp vs ds b many los his top lw place p k) := by
  have key := fun k (hk : k < ds.length) v => cnt_iff (vs := vs) (b := b) (many := many) (place := place) (p := p) hd hl ht hk (v := v)
  have cl := fun v => cnt_le (vs := vs) (ds := ds) (b := b) (many := many) (top := top) (lw := lw) (place := place) (p := p) (v := v)
  generalize cntA vs ds b many top lw place p = A at *
  generalize hw : wantd vs ds b many top lw place p = W at *
  have hnd : nd vs ds b many los his top lw place p k = if k = 0 then some (at0 los p) else if ds.length < k then none else if mx (at0 los p) (W (k - 1) - at0 vs p) ≤ at0 his p then some (mx (at0 los p) (W (k - 1) - at0 vs p)) else none := by
    unfold nd; rw [hw]
  have hcp : cp vs ds b many los his top lw place p k = if ds.length ≤ k then some (at0 his p) else if at0 los p ≤ mn (at0 his p) (W k - 1 - at0 vs p) then some (mn (at0 his p) (W k - 1 - at0 vs p)) else none := by
    unfold cp; rw [hw]
  rw [hnd, hcp]
  generalize at0 los p = lo at *
  generalize at0 his p = hi at *
  generalize at0 vs p = x at *
  refine ⟨fun h => ?_, fun h => ?_, fun t h => ?_, fun t h => ?_⟩
  · split at h
    · cases h
    · split at h
      · omega
      · split at h
        · cases h
        · rename_i c1 c2 c3
          have := key (k - 1) (by omega) (x + hi)
          have : ¬ W (k - 1) ≤ x + hi := fun z => c3 (by unfold mx; split <;> omega)
          omega
  · split at h
    · cases h
    · split at h
      · cases h
      · rename_i c1 c2
        have := key k (by omega) (x + lo)
        have : W k ≤ x + lo := by
          refine Int.not_lt.mp fun z => c2 ?_
          unfold mn; split <;> omega
        omega
  · split at h
    · cases h
      exact ⟨by omega, by omega, hlo, fun z => by omega⟩
    · split at h
      · cases h
      · split at h
        · rename_i c1 c2 c3
          cases h
          have k1 := key (k - 1) (by omega) (x + mx lo (W (k - 1) - x))
          have k2 := key (k - 1) (by omega) (x + (mx lo (W (k - 1) - x) - 1))
          have m1 : lo ≤ mx lo (W (k - 1) - x) ∧ W (k - 1) - x ≤ mx lo (W (k - 1) - x) ∧ (lo < mx lo (W (k - 1) - x) → mx lo (W (k - 1) - x) = W (k - 1) - x) := by
            unfold mx; split <;> omega
          exact ⟨by omega, m1.1, c3, fun z => by have := m1.2.2 z; omega⟩
        · cases h
  · split at h
    · cases h
      have := cl (x + hi)
      exact ⟨by omega, hlo, by omega, fun z => by omega⟩
    · split at h
      · rename_i c1 c2
        cases h
        have k1 := key k (by omega) (x + mn hi (W k - 1 - x))
        have k2 := key k (by omega) (x + (mn hi (W k - 1 - x) + 1))
        have m1 : mn hi (W k - 1 - x) ≤ hi ∧ mn hi (W k - 1 - x) ≤ W k - 1 - x ∧ (mn hi (W k - 1 - x) < hi → mn hi (W k - 1 - x) = W k - 1 - x) := by
          unfold mn; split <;> omega
        exact ⟨by omega, c2, m1.1, fun z => by have := m1.2.2 z; omega⟩
      · cases h
end
theorem zip_le : ∀ {los his : List Int} {p : Nat}, (∀ q ∈ los.zip his, q.1 ≤ q.2) → p < los.length → p < his.length → at0 los p ≤ at0 his p
  | [], _, _, _, h, _ => by simp at h
  | _ :: _, [], _, _, _, h => by simp at h
  | a :: los, c :: his, 0, hz, _, _ => hz (a, c) (by simp)
  | a :: los, c :: his, p + 1, hz, h1, h2 => zip_le (los := los) (his := his) (p := p) (fun q hq => hz q (by simp [hq])) (by simpa using h1) (by simpa using h2)
end S14

namespace S14
open PySem PySem.Spec PyProof.Rows L2 FL
@[simp] theorem atI_3 {a b c d : D} {xs : List D} : atI (a :: b :: c :: d :: xs) 3 = some d := atI_of (j := 3) rfl rfl
@[simp] theorem atI_4 {a b c d e : D} {xs : List D} : atI (a :: b :: c :: d :: e :: xs) 4 = some e := atI_of (j := 4) rfl rfl
@[simp] theorem atI_5 {a b c d e f : D} {xs : List D} : atI (a :: b :: c :: d :: e :: f :: xs) 5 = some f := atI_of (j := 5) rfl rfl
def gO (o : Option Int) : Int := o.getD 0
def F__law_is_mark_right : PSpec := fun ys as R => ∃ (c : Nat) (vs ds : List Int) (s b many : Int) (los his : List Int) (top lw place : Int) (p : Nat), as = [tI vs, rD ds s b, oD many los his, mD top lw place, .int p] ∧
  PotOk c ys ∧ c + 10 < big ∧ VOk vs ∧ ROk ds s b vs.length ∧ OOk many los his vs.length ∧ MOk top lw place vs.length ∧ p < vs.length ∧ ∀ zs, R (.bl true) zs
theorem m__law_is_mark_right (ys as : List D) (R : D → List D → Prop) (h : F__law_is_mark_right ys as R) : w__law_is_mark_right F__law_take F_needed F_capped F__law_ahead F_is_mark (PEP R) (envP N__law_is_mark_right ys as) := by
  obtain ⟨c, vs, ds, s, b, many, los, his, top, lw, place, p, rfl, hz, hc, hv, hr, ho, hm, hp, h⟩ := h
  rw [e__law_is_mark_right]
  unfold w__law_is_mark_right
  have hb := hr.bar100
  have hst := hr.st
  have hdl := hr.len
  have q1 : atI (los.map D.int) (p : Int) = some (.int (at0 los p)) := atI_int (by rw [ho.l1]; exact hp)
  have q2 : atI (his.map D.int) (p : Int) = some (.int (at0 his p)) := atI_int (by rw [ho.l2]; exact hp)
  have q3 : atI (vs.map D.int) (p : Int) = some (.int (at0 vs p)) := atI_int hp
  have hlohi := zip_le ho.le (by rw [ho.l1]; exact hp) (by rw [ho.l2]; exact hp)
  rw [q_seq]
  simp [-q_seq]
  rw [q_seq]
  simp [-q_seq]
  refine ⟨cmul_l (by omega), ?_⟩
  rw [q_seq]
  simp [-q_seq]
  refine ⟨_, _, rfl, hz, by omega, by omega, fun d z1 a1 b1 hz1 => ?_⟩
  simp [-q_seq]
  refine ⟨sz (by decide), ?_⟩
  refine forD_inv (fun i env => ∃ s7 s11 s12 s13 s14 s15 s16, s7.isOwn = false ∧ s11.isOwn = false ∧ s12.isOwn = false ∧ s13.isOwn = false ∧ s14.isOwn = false ∧ s15.isOwn = false ∧ s16.isOwn = false ∧
      env = [.ol z1, .fz (tI vs), .fz (rD ds s b), .fz (oD many los his), .fz (mD top lw place), .fz (.int p), .fz (.int (b * (vs.sum + many))), s7, .fz (.int many), .fz (tI los), .fz (tI his), s11, s12, s13, s14, s15, s16])
    ⟨_, _, _, _, _, _, _, rfl, rfl, rfl, rfl, rfl, rfl, rfl, rfl⟩ (fun env hI => ?_) fun i x env Nx hx hI hN => ?_
  · obtain ⟨s7, s11, s12, s13, s14, s15, s16, _, _, _, _, _, _, _, rfl⟩ := hI
    simp
    exact ⟨vs, top, lw, place, rfl, hv, hm, h z1⟩
  · obtain ⟨s7, s11, s12, s13, s14, s15, s16, o7, o11, o12, o13, o14, o15, o16, rfl⟩ := hI
    obtain ⟨k, rfl, hks⟩ : ∃ k : Nat, x = .int k ∧ (k : Int) ≤ s := by
      have := List.mem_of_getElem? hx
      simp at this
      rcases this with rfl | rfl | rfl | rfl
      · exact ⟨0, rfl, by omega⟩
      · exact ⟨1, rfl, by omega⟩
      · exact ⟨s.toNat, by rw [show ((s.toNat : Nat) : Int) = s by omega], by omega⟩
      · exact ⟨d.toNat, by rw [show ((d.toNat : Nat) : Int) = d by omega], by omega⟩
    have ask : Ask vs ds s b many los his top lw place p k := ⟨hv, hr, ho, hm, hp, by omega⟩
    have ok := mark_ok (vs := vs) (b := b) (many := many) (place := place) (los := los) (his := his) (p := p) (k := k) hr.dok hm.lw.1 hm.top.1 (by omega) hlohi
    rw [q_pnm]
    simp [o7, -q_seq]
    rw [q_seq]
    simp [-q_seq]
    refine ⟨vs, ds, s, b, many, los, his, top, lw, place, p, k, rfl, ask, ?_⟩
    simp [-q_seq]
    refine ⟨vs, ds, s, b, many, los, his, top, lw, place, p, k, rfl, ask, ?_⟩
    generalize nd vs ds b many los his top lw place p k = told at *
    generalize cp vs ds b many los his top lw place p k = most at *
    simp [-q_seq, o13, o14]
    rw [q_seq]
    simp [-q_seq, o11, q1, q2]
    -- the rows
    refine seq_mid (fun env => ∃ s12 s15 s16, s12.isOwn = false ∧ s15.isOwn = false ∧ s16.isOwn = false ∧
      env = [.ol z1, .fz (tI vs), .fz (rD ds s b), .fz (oD many los his), .fz (mD top lw place), .fz (.int p), .fz (.int (b * (vs.sum + many))), .fz (.int k), .fz (.int many), .fz (tI los), .fz (tI his),
        .ol ([told, told.map (· - 1), most, most.map (· + 1), some (at0 los p), some (at0 his p)].map fun o => D.int (cntA vs ds b many top lw place p (at0 vs p + gO o) : Nat)), s12, .fz (encI told), .fz (encI most), s15, s16]) (fun Nx' hN' => ?_) fun e hQ => ?_
    · have tail : forD (.nm 12) (sSeq (sAsg (dBin gAdd (dBin gIx (dVar 1) (dVar 5)) (dIf (tB1 (dBin gNotN (dVar 12) (dC .non))) (dVar 12) (dC (.int 0)))) (.nm 15)) (sSeq (sAsg (dIf (tB1 (dBin gGe (dBin gMul (dC (.int 100)) (dVar 15)) (dVar 6))) (dCall 4 F__law_ahead (aCons (dVar 15) (aCons (dVar 2) (aCons (dVar 4) (aCons (dVar 5) aNil))))) (dC (.int 0))) (.nm 16)) (sApp 11 (dVar 16))))
          { nx := Nx', rt := fun d env => ∃ zs, env[0]? = some (.ol zs) ∧ R d zs, bk := Nx, ct := Nx } ([told, told.map (· - 1), most, most.map (· + 1), some (at0 los p), some (at0 his p)].map encI)
          [.ol z1, .fz (tI vs), .fz (rD ds s b), .fz (oD many los his), .fz (mD top lw place), .fz (.int p), .fz (.int (b * (vs.sum + many))), .fz (.int k), .fz (.int many), .fz (tI los), .fz (tI his), .ol [], s12, .fz (encI told), .fz (encI most), s15, s16] := by
        refine forD_map encI (fun ys env => ∃ s12 s15 s16, s12.isOwn = false ∧ s15.isOwn = false ∧ s16.isOwn = false ∧
          env = [.ol z1, .fz (tI vs), .fz (rD ds s b), .fz (oD many los his), .fz (mD top lw place), .fz (.int p), .fz (.int (b * (vs.sum + many))), .fz (.int k), .fz (.int many), .fz (tI los), .fz (tI his),
            .ol (ys.map fun o => D.int (cntA vs ds b many top lw place p (at0 vs p + gO o) : Nat)), s12, .fz (encI told), .fz (encI most), s15, s16])
          ⟨s12, s15, s16, o12, o15, o16, rfl⟩ (fun env hI => ?_) fun ys o zs env Nx2 ex hI hN2 => ?_
        · obtain ⟨s12, s15, s16, o12, o15, o16, rfl⟩ := hI
          exact hN' _ ⟨s12, s15, s16, o12, o15, o16, rfl⟩
        · obtain ⟨s12, s15, s16, o12, o15, o16, rfl⟩ := hI
          have hyl : ys.length < 6 := by
            have := congrArg List.length ex
            simp at this
            omega
          have fin : ∀ s15' s16' : Sl, s15'.isOwn = false → s16'.isOwn = false → Nx2 [.ol z1, .fz (tI vs), .fz (rD ds s b), .fz (oD many los his), .fz (mD top lw place), .fz (.int p), .fz (.int (b * (vs.sum + many))), .fz (.int k), .fz (.int many), .fz (tI los), .fz (tI his),
            .ol ((ys.map fun o => D.int (cntA vs ds b many top lw place p (at0 vs p + gO o) : Nat)) ++ [.int (cntA vs ds b many top lw place p (at0 vs p + gO o) : Nat)]), .fz (encI o), .fz (encI told), .fz (encI most), s15', s16'] := fun s15' s16' h1 h2 => hN2 _ ⟨.fz (encI o), s15', s16', rfl, h1, h2, by rw [List.map_append]; rfl⟩
          cases o with
          | none =>
            simp [o12, o15, o16, q3, encI]
            refine ⟨cmul_l (by decide), ?_⟩
            unfold gO cntA at fin
            simp only [Option.getD_none, Int.add_zero] at fin
            split
            · rename_i z
              rw [if_pos z] at fin
              refine ⟨_, ds, s, b, top, lw, place, p, vs.length, rfl, by omega, hm, ?_⟩
              simp [o16]
              exact ⟨szl (by omega), fin _ _ rfl rfl⟩
            · rename_i z
              rw [if_neg z] at fin
              exact ⟨szl (by omega), fin _ _ rfl rfl⟩
          | some t =>
            simp [o12, o15, o16, q3, encI]
            refine ⟨cmul_l (by decide), ?_⟩
            unfold gO cntA at fin
            simp only [Option.getD_some] at fin
            split
            · rename_i z
              rw [if_pos z] at fin
              refine ⟨_, ds, s, b, top, lw, place, p, vs.length, rfl, by omega, hm, ?_⟩
              simp [o16]
              exact ⟨szl (by omega), fin _ _ rfl rfl⟩
            · rename_i z
              rw [if_neg z] at fin
              exact ⟨szl (by omega), fin _ _ rfl rfl⟩
      cases told with
      | none =>
        cases most with
        | none => simp [encI, q1, q2] at tail ⊢; exact ⟨sz (by decide), tail⟩
        | some m => simp [encI, q1, q2] at tail ⊢; exact ⟨sz (by decide), tail⟩
      | some t =>
        cases most with
        | none => simp [encI, q1, q2] at tail ⊢; exact ⟨sz (by decide), tail⟩
        | some m => simp [encI, q1, q2] at tail ⊢; exact ⟨sz (by decide), tail⟩
    · obtain ⟨s12, s15, s16, o12, o15, o16, rfl⟩ := hQ
      generalize cntA vs ds b many top lw place p = A at *
      have fin : ∀ s11 : Sl, s11.isOwn = false → Nx [.ol z1, .fz (tI vs), .fz (rD ds s b), .fz (oD many los his), .fz (mD top lw place), .fz (.int p), .fz (.int (b * (vs.sum + many))), .fz (.int k), .fz (.int many), .fz (tI los), .fz (tI his), s11, s12, .fz (encI told), .fz (encI most), s15, s16] := fun s11 h1 => hN _ ⟨_, _, _, _, _, _, _, rfl, h1, o12, rfl, rfl, o15, o16, rfl⟩
      have env_eq : ∃ e, e = [Sl.ol z1, .fz (tI vs), .fz (rD ds s b), .fz (oD many los his), .fz (mD top lw place), .fz (.int p), .fz (.int (b * (vs.sum + many))), .fz (.int k), .fz (.int many), .fz (tI los), .fz (tI his),
        .fz (.lst [.int (A (at0 vs p + gO told) : Nat), .int (A (at0 vs p + gO (told.map (· - 1))) : Nat), .int (A (at0 vs p + gO most) : Nat), .int (A (at0 vs p + gO (most.map (· + 1))) : Nat), .int (A (at0 vs p + at0 los p) : Nat), .int (A (at0 vs p + at0 his p) : Nat)]), s12, .fz (encI told), .fz (encI most), s15, s16] := ⟨_, rfl⟩
      obtain ⟨e0, he0⟩ := env_eq
      rw [q_frz]
      refine ⟨by decide, ?_⟩
      refine seq_mid (fun e => e = e0) (fun Ny hNy => ?_) fun e hQ => ?_
      · have hy := hNy e0 rfl
        rw [he0] at hy
        cases told with
        | none =>
          have h1 := ok.n1 rfl
          cases most with
          | none =>
            have h2 := ok.n2 rfl
            simp [encI, gO, show ¬ k ≤ A (at0 vs p + at0 his p) by omega, show ¬ A (at0 vs p + at0 los p) ≤ k by omega]
            simp [encI, gO] at hy
            exact hy
          | some m =>
            simp [encI, gO, show ¬ k ≤ A (at0 vs p + at0 his p) by omega]
            simp [encI, gO] at hy
            exact hy
        | some t =>
          cases most with
          | none =>
            have h2 := ok.n2 rfl
            simp [encI, gO, show ¬ A (at0 vs p + at0 los p) ≤ k by omega]
            simp [encI, gO] at hy
            exact hy
          | some m =>
            simp [encI, gO]
            simp [encI, gO] at hy
            exact hy
      · rw [hQ]
        clear hQ e
        refine seq_mid (fun e => e = e0) (fun Ny hNy => ?_) fun e hQ => ?_
        · have hy := hNy e0 rfl
          rw [he0] at hy ⊢
          cases told with
          | none =>
            simp [encI]
            exact hy
          | some t =>
            obtain ⟨h3, h4, h5, h6⟩ := ok.t t rfl
            simp [encI, gO, q1, q2, show ¬ A (at0 vs p + t) < k by omega, h4, h5]
            simp [encI, gO] at hy
            split
            · rename_i z
              rw [if_neg (by have := h6 z; omega)]
              exact hy
            · exact hy
        · rw [hQ, he0]
          cases most with
          | none =>
            simp [encI]
            exact fin _ rfl
          | some m =>
            obtain ⟨h3, h4, h5, h6⟩ := ok.m m rfl
            simp [encI, gO, q1, q2, show ¬ k < A (at0 vs p + m) by omega, h4, h5]
            simp [encI] at fin
            split
            · rename_i z
              rw [if_neg (by have := h6 z; omega)]
              exact fin _ rfl
            · exact fin _ rfl
end S14

namespace S14
open PySem PySem.Spec PyProof.Rows L2 FL
section
variable {vs ds : List Int} {s b : Int}
theorem told_len : (toldL vs ds s b).length = vs.length := by unfold toldL; rw [List.length_map, List.length_range]
theorem told_at {x : Nat} (h : x < vs.length) : at0 (toldL vs ds s b) x = heldM vs ds s b x := by
  refine at0_of ?_
  unfold toldL
  rw [List.getElem?_map, List.getElem?_range h]
  rfl
theorem told_atI {x : Nat} (h : x < vs.length) : atI ((toldL vs ds s b).map D.int) (x : Int) = some (.int (heldM vs ds s b x : Nat)) := by
  rw [atI_int (by rw [told_len]; exact h), told_at h]
theorem ROk.free {n : Int} (h : ROk ds s b n) : ROk ds s 0 n := ⟨h.len, h.all, h.asc, h.st, ⟨Int.le_refl _, Int.ediv_nonneg (by omega) (by have := h.n1; omega)⟩, h.n1⟩
theorem fit_0 (hv : VPos vs) : fit vs 0 = List.range vs.length := by
  unfold fit
  rw [List.filter_eq_self]
  intro p _
  have := hv p
  have : ¬ low vs 0 p := fun z => by unfold low at z; omega
  simp [this]
theorem sum_scale (n : Int) : ∀ vs : List Int, (vs.map (n * ·)).sum = n * vs.sum
  | [] => by simp
  | x :: vs => by rw [List.map_cons, List.sum_cons, List.sum_cons, sum_scale n vs, Int.mul_add]
theorem low_scale {n : Int} (hn : 0 < n) (p : Nat) : low (vs.map (n * ·)) b p ↔ low vs b p := by
  unfold low
  rw [at0_scale, sum_scale, Int.mul_assoc, Int.mul_left_comm b n, Int.mul_lt_mul_left hn]
theorem fit_scale {n : Int} (hn : 0 < n) : fit (vs.map (n * ·)) b = fit vs b := by
  unfold fit
  rw [List.length_map]
  congr 1
  funext p
  simp [low_scale (vs := vs) (b := b) hn p]
theorem told_scale_v {n : Int} (hn : 0 < n) : toldL (vs.map (n * ·)) ds s b = toldL vs ds s b := by
  unfold toldL heldM
  rw [fit_scale hn, List.length_map, ← run_congr (vs := vs) (ds := ds) rfl (fun p i q j => ahead_scale_v hn p i q j)]
theorem told_scale_d {n : Int} (hn : 0 < n) : toldL vs (ds.map (n * ·)) s b = toldL vs ds s b := by
  unfold toldL heldM
  rw [← run_congr (vs := vs) (ds := ds) (List.length_map (f := (n * ·))).symm (fun p i q j => ahead_scale_d hn p i q j)]
/-- one more -/
def plus (vs : List Int) (x : Nat) : List Int := vs.take x ++ [at0 vs x + 1] ++ vs.drop (x + 1)
theorem plus_len {x : Nat} (h : x < vs.length) : (plus vs x).length = vs.length := by
  unfold plus
  simp
  omega
theorem at0_def (ns : List Int) (i : Nat) : at0 ns i = (ns[i]?).getD 0 := rfl
theorem plus_at {x q : Nat} (h : x < vs.length) : at0 (plus vs x) q = if q = x then at0 vs x + 1 else at0 vs q := by
  rw [at0_def]
  unfold plus
  have hl : (vs.take x).length = x := by simp; omega
  rw [List.append_assoc, List.getElem?_append, hl]
  split
  · rename_i c
    rw [if_neg (by omega), List.getElem?_take, if_pos c]
    rfl
  · rename_i c
    split
    · rename_i e
      subst e
      simp
    · rename_i e
      rw [List.getElem?_append, if_neg (by simp; omega), List.getElem?_drop]
      rw [at0_def]
      congr 2
      simp
      omega
theorem mem_at0 {v : Int} (h : v ∈ vs) : ∃ i, i < vs.length ∧ at0 vs i = v := by
  obtain ⟨i, hi, rfl⟩ := List.mem_iff_getElem.mp h
  exact ⟨i, hi, at0_of (List.getElem?_eq_getElem hi)⟩
theorem plus_ok {x : Nat} (hv : VOk vs) (h : x < vs.length) (hx : at0 vs x < 1000000000) : VOk (plus vs x) := ⟨by rw [plus_len h]; exact hv.len, fun v hm => by
  obtain ⟨i, hi, rfl⟩ := mem_at0 hm
  rw [plus_len h] at hi
  rw [plus_at h]
  have h1 := hv.at0 h
  have h2 := hv.at0 hi
  split <;> omega⟩
theorem plus_right {x : Nat} (hv : VOk vs) (hr : ROk ds s b vs.length) (h : x < vs.length) (hx : at0 vs x < 1000000000) :
    (∀ q, q ≠ x → heldM (plus vs x) ds s 0 q ≤ heldM vs ds s 0 q) ∧ heldM vs ds s 0 x ≤ heldM (plus vs x) ds s 0 x := by
  have hv' := plus_ok hv h hx
  have g := good_s hv hr.free
  have g' := good_s (vs := plus vs x) hv' (by rw [plus_len h]; exact hr.free)
  rw [fit_0 hv.pos] at g
  rw [fit_0 hv'.pos, plus_len h] at g'
  exact more_right hr.dok g g' (fun q hq => by rw [plus_at h, if_neg hq]) (by rw [plus_at h, if_pos rfl]; omega)
theorem told_order (hv : VOk vs) (hr : ROk ds s b vs.length) {p q : Nat} (hp : p < vs.length) (h : at0 vs q < at0 vs p) : heldM vs ds s b q ≤ heldM vs ds s b p := by
  refine votes_right hr.dok hv.pos (good_s hv hr) (fun hq => ?_) h
  obtain ⟨h1, h2⟩ := fit_mem.mp hq
  exact fit_mem.mpr ⟨hp, fun z => h2 (by unfold low at z ⊢; omega)⟩
/-- 1, 2, 3 -/
def plainD (n : Nat) : List Int := (List.range n).map fun i : Nat => 1 + (i : Int)
theorem plain_len (n : Nat) : (plainD n).length = n := by unfold plainD; rw [List.length_map, List.length_range]
theorem plain_at {n i : Nat} (h : i < n) : at0 (plainD n) i = (i : Int) + 1 := by
  refine at0_of ?_
  unfold plainD
  rw [List.getElem?_map, List.getElem?_range h]
  show some (1 + (i : Int)) = _
  congr 1
  omega
theorem plain_ok {n : Int} (h : ROk ds s b n) {m : Int} (hm : 1 ≤ m ∧ m ≤ 12) : ROk (plainD ds.length) s 0 m := ⟨by rw [plain_len]; exact h.len, fun d hd => by
  unfold plainD at hd
  obtain ⟨i, hi, rfl⟩ := List.mem_map.mp hd
  have := List.mem_range.mp hi
  have := h.len
  omega, asc_map (fun i j hij => by omega) _, by rw [plain_len]; exact h.st, ⟨Int.le_refl _, Int.ediv_nonneg (by omega) (by omega)⟩, hm⟩
/-- two as one -/
def join2 (vs : List Int) (f l : Nat) : List Int := vs.take f ++ [at0 vs f + at0 vs l] ++ (vs.take l).drop (f + 1) ++ vs.drop (l + 1)
theorem join_len {f l : Nat} (h1 : f < l) (h2 : l < vs.length) : (join2 vs f l).length = vs.length - 1 := by
  unfold join2
  simp
  omega
theorem join_at {f l q : Nat} (h1 : f < l) (h2 : l < vs.length) : at0 (join2 vs f l) q = if q = f then at0 vs f + at0 vs l else if q < l then at0 vs q else at0 vs (q + 1) := by
  rw [at0_def]
  unfold join2
  have hl : (vs.take f).length = f := by simp; omega
  have hl2 : ((vs.take l).drop (f + 1)).length = l - (f + 1) := by simp; omega
  rw [List.append_assoc, List.append_assoc, List.getElem?_append, hl]
  split
  · rename_i c
    rw [if_neg (by omega), if_pos (by omega), List.getElem?_take, if_pos c]
    rfl
  · rename_i c
    split
    · rename_i e
      subst e
      simp
    · rename_i e
      rw [List.getElem?_append, if_neg (by simp; omega), List.getElem?_append, hl2]
      simp only [List.length_singleton]
      split
      · rename_i c2
        rw [if_pos (by omega), List.getElem?_drop, List.getElem?_take, if_pos (by omega), at0_def]
        congr 2
        omega
      · rename_i c2
        rw [if_neg (by omega), List.getElem?_drop, at0_def]
        congr 2
        omega
theorem join_ok {f l : Nat} (hv : VOk vs) (h1 : f < l) (h2 : l < vs.length) (h3 : at0 vs f + at0 vs l ≤ 1000000000) : VOk (join2 vs f l) := ⟨by rw [join_len h1 h2]; have := hv.len; omega, fun v hm => by
  obtain ⟨i, hi, rfl⟩ := mem_at0 hm
  rw [join_len h1 h2] at hi
  rw [join_at h1 h2]
  have a1 := hv.at0 (p := f) (by omega)
  have a2 := hv.at0 h2
  split
  · omega
  · split
    · exact hv.at0 (by omega)
    · exact hv.at0 (by omega)⟩
theorem joined_right {f l : Nat} (hv : VOk vs) (hr : ROk ds s b vs.length) (h1 : f < l) (h2 : l < vs.length) (h3 : at0 vs f + at0 vs l ≤ 1000000000) :
    heldM vs (plainD ds.length) s 0 f + heldM vs (plainD ds.length) s 0 l ≤ heldM (join2 vs f l) (plainD ds.length) s 0 f := by
  have hv' := join_ok hv h1 h2 h3
  have hl := hv.len
  have g := good_s hv (plain_ok hr (m := vs.length) (by omega))
  have g' := good_s hv' (plain_ok hr (m := (join2 vs f l).length) (by rw [join_len h1 h2]; omega))
  rw [fit_0 hv.pos, show vs.length = (vs.length - 1) + 1 by omega] at g
  rw [fit_0 hv'.pos, join_len h1 h2] at g'
  have hst := hr.st
  exact join_right (n := vs.length - 1) h1 (by omega) (by rw [plain_len]; omega) (fun i hi => plain_at (by rw [plain_len] at hi; exact hi)) hv.pos g g' (by rw [join_at h1 h2, if_pos rfl]) (fun r hr1 hr2 => by rw [join_at h1 h2, if_neg hr2, if_pos hr1]) (fun r hr1 => by rw [join_at h1 h2, if_neg (by omega), if_neg (by omega)])
end
end S14

namespace S14
open PySem PySem.Spec PyProof.Rows L2 FL
theorem cut_to' (xs : List Int) (k : Nat) : cutD (xs.map D.int) none (some (k : Int)) = (xs.take k).map D.int := by rw [cut_to, List.map_take]
theorem cut_from' (xs : List Int) (k : Nat) {z : Int} (hz : z = (k : Int)) : cutD (xs.map D.int) (some z) none = (xs.drop k).map D.int := by rw [hz, cut_from, List.map_drop]
theorem cut_mid' (xs : List Int) (k m : Nat) {z : Int} (hz : z = (k : Int)) : cutD (xs.map D.int) (some z) (some (m : Int)) = ((xs.take m).drop k).map D.int := by rw [hz, cut_mid, List.map_drop, List.map_take]
theorem any_false {α : Type} {f : α → Bool} {l : List α} (h : ∀ x ∈ l, f x = false) : l.any f = false := by
  rw [List.any_eq_false]
  intro x hx
  rw [h x hx]
  exact Bool.false_ne_true
def F__law_is_more_right : PSpec := fun ys as R => ∃ (c : Nat) (vs ds : List Int) (s b : Int), as = [tI vs, rD ds s b, tI (toldL vs ds s b)] ∧ PotOk c ys ∧ c + 20 < big ∧ VOk vs ∧ ROk ds s b vs.length ∧ ∀ zs, PotOk (c + 10) zs → R (.bl true) zs
theorem m__law_is_more_right (ys as : List D) (R : D → List D → Prop) (h : F__law_is_more_right ys as R) : w__law_is_more_right F__law_take F_seating (PEP R) (envP N__law_is_more_right ys as) := by
  obtain ⟨c, vs, ds, s, b, rfl, hz, hc, hv, hr, h⟩ := h
  rw [e__law_is_more_right]
  unfold w__law_is_more_right
  have hl := hv.len
  have hdl := hr.len
  have hst := hr.st
  have hb := hr.bar100
  rw [q_seq]
  simp [-q_seq]
  refine ⟨sz (by decide), _, _, rfl, hz, by omega, by omega, fun d1 z1 a1 b1 hz1 => ?_⟩
  obtain ⟨x, rfl⟩ : ∃ x : Nat, d1 = x := ⟨d1.toNat, by omega⟩
  have hx : x < vs.length := by omega
  refine ⟨sz (by decide), ?_⟩
  rw [q_seq]
  simp [-q_seq]
  refine ⟨vs, ds, s, 0, rfl, hv, hr.free, ?_⟩
  simp [-q_seq]
  -- one ballot more
  refine seq_mid (fun env => ∃ s5 s13, s5.isOwn = false ∧ s13.isOwn = false ∧ env = [.ol z1, .fz (tI vs), .fz (rD ds s b), .fz (tI (toldL vs ds s b)), .fz (tI (toldL vs ds s 0)), s5, .no, .no, .no, .no, .no, .fz (rD ds s 0), .fz (.int x), s13, .no, .no]) (fun Nx hN => ?_) fun e hQ => ?_
  · simp [-q_seq, atI_int hx]
    refine ⟨cpow_of (by decide) (by decide) (by decide), ?_⟩
    split
    · rename_i hlt
      obtain ⟨p1, p2⟩ := plus_right hv hr hx (by omega)
      rw [q_seq]
      simp [-q_seq, atI_int hx]
      rw [cut_to', cut_from' vs (x + 1) (by omega)]
      have e1 : (vs.take x).map D.int ++ D.int (at0 vs x + 1) :: (vs.drop (x + 1)).map D.int = (plus vs x).map D.int := by unfold plus; simp
      rw [e1]
      have e2 := plus_len hx
      refine ⟨sz (by decide), sz (by simp; omega), sz (by simp; omega), _, ds, s, 0, rfl, plus_ok hv hx (by omega), by rw [e2]; exact hr.free, ?_⟩
      have t1 : ∀ q, q < vs.length → atI ((toldL (plus vs x) ds s 0).map D.int) (q : Int) = some (.int (heldM (plus vs x) ds s 0 q : Nat)) := fun q hq => told_atI (by rw [e2]; exact hq)
      have t2 : ∀ q, q < vs.length → atI ((toldL vs ds s 0).map D.int) (q : Int) = some (.int (heldM vs ds s 0 q : Nat)) := fun q hq => told_atI hq
      simp [t1 x hx, t2 x hx]
      rw [if_neg (by omega)]
      refine ⟨by omega, sz (by omega), ?_⟩
      refine compD_fn (fun i : Nat => D.int (i : Int)) (fun i => if i = x then none else some (.bl false)) ?_ fun i hi acc Nx2 hN2 => ?_
      · have e3 : ((List.range vs.length).filterMap fun i => if i = x then none else some (D.bl false)) = (((List.range vs.length).filter (fun i => !decide (i = x))).map fun _ => false).map D.bl := by
          rw [List.map_map]
          induction List.range vs.length with
          | nil => rfl
          | cons y r ih =>
            rw [List.filterMap_cons, List.filter_cons, ih]
            by_cases z : y = x <;> simp [z]
        rw [e3]
        simp only [blsOf_map]
        rw [if_neg (by simp)]
        exact hN _ ⟨.no, .fz (tI (toldL (plus vs x) ds s 0)), rfl, rfl, rfl⟩
      · have hi' := List.mem_range.mp hi
        by_cases z : i = x
        · subst z
          simpa using hN2
        · have := p1 i z
          simp [z, t1 i hi', t2 i hi']
          rw [if_neg (by omega), decide_eq_false (by omega)]
          simpa [z] using hN2
    · exact hN _ ⟨.no, .no, rfl, rfl, rfl⟩
  · obtain ⟨s5, s13, o5, o13, rfl⟩ := hQ
    -- more votes, no fewer seats
    refine seq_mid (fun env => ∃ s5 s8, s5.isOwn = false ∧ s8.isOwn = false ∧ env = [.ol z1, .fz (tI vs), .fz (rD ds s b), .fz (tI (toldL vs ds s b)), .fz (tI (toldL vs ds s 0)), s5, .no, .no, s8, .no, .no, .fz (rD ds s 0), .fz (.int x), s13, .no, .no]) (fun Nx hN => ?_) fun e hQ => ?_
    · simp [-q_seq]
      refine ⟨by omega, ?_⟩
      refine forD_map (fun i : Nat => D.int (i : Int)) (fun _ env => ∃ s5 s8, s5.isOwn = false ∧ s8.isOwn = false ∧ env = [.ol z1, .fz (tI vs), .fz (rD ds s b), .fz (tI (toldL vs ds s b)), .fz (tI (toldL vs ds s 0)), s5, .no, .no, s8, .no, .no, .fz (rD ds s 0), .fz (.int x), s13, .no, .no])
        ⟨_, _, o5, rfl, rfl⟩ (fun env hI => hN env hI) fun ys i zs env Nx2 ex hI hN2 => ?_
      obtain ⟨s5, s8, o5, o8, rfl⟩ := hI
      have hi : i < vs.length := List.mem_range.mp (by rw [ex]; simp)
      simp [o5, o8]
      refine ⟨by omega, sz (by omega), ?_⟩
      refine compD_fn (fun i : Nat => D.int (i : Int)) (fun _ => some (.bl false)) ?_ fun j hj acc Nx3 hN3 => ?_
      · have e : ((List.range vs.length).map fun _ => false).any id = false := any_false (by simp)
        rw [List.filterMap_eq_map', blsOf_mapf]
        simp only []
        rw [if_neg (by simp)]
        exact hN2 _ ⟨.fz (.int (i : Int)), s8, rfl, o8, rfl⟩
      · have hj' := List.mem_range.mp hj
        simp [atI_int hi, atI_int hj', told_atI hi, told_atI hj']
        split
        · rename_i z
          have := told_order hv hr hi z
          rw [decide_eq_false (by omega)]
          exact hN3
        · exact hN3
    · obtain ⟨s5, s8, o5, o8, rfl⟩ := hQ
      rw [q_seq]
      simp [-q_seq]
      refine ⟨_, _, rfl, hz1, by omega, by omega, fun d2 z2 a2 b2 hz2 => ?_⟩
      simp [-q_seq]
      have hd2 : 0 < 2 + d2 := by omega
      generalize hnn : 2 + d2 = num at *
      -- votes so many times
      refine seq_mid (fun env => ∃ s5, s5.isOwn = false ∧ env = [.ol z2, .fz (tI vs), .fz (rD ds s b), .fz (tI (toldL vs ds s b)), .fz (tI (toldL vs ds s 0)), s5, .fz (.int num), .no, s8, .no, .no, .fz (rD ds s 0), .fz (.int x), s13, .no, .no]) (fun Nx hN => ?_) fun e hQ => ?_
      · simp [-q_seq]
        refine ⟨by omega, fun mx0 hm1 hm2 => ?_⟩
        refine ⟨cmul_r (by omega), cpow_of (by decide) (by decide) (by decide), ?_⟩
        split
        · rename_i hle
          refine ⟨o5, sz (by omega), ?_⟩
          refine compD_fn D.int (fun v => some (.int (num * v))) ?_ fun v hv0 acc Nx3 hN3 => ?_
          · have e1 : (vs.filterMap fun v => some (D.int (num * v))) = (vs.map (num * ·)).map D.int := by rw [List.filterMap_eq_map', List.map_map]; rfl
            rw [e1]
            have hok : VOk (vs.map (num * ·)) := ⟨by rw [List.length_map]; exact hl, fun v hv0 => by
              obtain ⟨w, hw, rfl⟩ := List.mem_map.mp hv0
              have h1 := hv.all w hw
              have h2 := hm2 w hw
              have h3 : w * num ≤ mx0 * num := Int.mul_le_mul_of_nonneg_right h2 (by omega)
              have h4 := Int.mul_nonneg (by omega : 0 ≤ num) h1.1
              show 0 ≤ num * w ∧ num * w ≤ 1000000000
              rw [Int.mul_comm num w] at h4 ⊢
              omega⟩
            refine ⟨_, ds, s, b, rfl, hok, by rw [List.length_map]; exact hr, ?_⟩
            rw [told_scale_v hd2]
            simp [eqD_ints]
            exact hN _ ⟨_, o5, rfl⟩
          · simp [o5]
            exact ⟨cmul_l (by omega), hN3⟩
        · exact hN _ ⟨_, o5, rfl⟩
      · obtain ⟨s5, o5, rfl⟩ := hQ
        -- divisors so many times
        refine seq_mid (fun env => ∃ s5, s5.isOwn = false ∧ env = [.ol z2, .fz (tI vs), .fz (rD ds s b), .fz (tI (toldL vs ds s b)), .fz (tI (toldL vs ds s 0)), s5, .fz (.int num), .no, s8, .no, .no, .fz (rD ds s 0), .fz (.int x), s13, .no, .no]) (fun Nx hN => ?_) fun e hQ => ?_
        · have hlast : atI (ds.map D.int) (-1) = some (.int (at0 ds (ds.length - 1))) := atI_lastD (by rw [List.getLast?_map, List.getLast?_eq_getElem?, at0_get (by omega)]; rfl)
          simp [-q_seq, hlast]
          refine ⟨cmul_r (by omega), cpow_of (by decide) (by decide) (by decide), ?_⟩
          split
          · rename_i hle
            refine ⟨o5, sz (by omega), ?_⟩
            refine compD_fn D.int (fun v => some (.int (num * v))) ?_ fun v hv0 acc Nx3 hN3 => ?_
            · have e1 : (ds.filterMap fun v => some (D.int (num * v))) = (ds.map (num * ·)).map D.int := by rw [List.filterMap_eq_map', List.map_map]; rfl
              rw [e1]
              have hok : ROk (ds.map (num * ·)) s b vs.length := ⟨by rw [List.length_map]; exact hdl, fun v hv0 => by
                obtain ⟨w, hw, rfl⟩ := List.mem_map.mp hv0
                obtain ⟨i, hi, rfl⟩ := mem_at0 hw
                have h1 := hr.at0 hi
                have h2 : at0 ds i ≤ at0 ds (ds.length - 1) := by
                  by_cases z : i = ds.length - 1
                  · rw [z]; omega
                  · have := hr.dok.asc i (ds.length - 1) (by omega) (by omega); omega
                have h3 : at0 ds i * num ≤ at0 ds (ds.length - 1) * num := Int.mul_le_mul_of_nonneg_right h2 (by omega)
                have h4 : 1 * num ≤ at0 ds i * num := Int.mul_le_mul_of_nonneg_right h1.1 (by omega)
                show 1 ≤ num * at0 ds i ∧ num * at0 ds i ≤ 1000000
                rw [Int.mul_comm num]
                omega, by
                  rw [List.pairwise_map]
                  exact List.Pairwise.imp (fun {a b} h => Int.mul_lt_mul_of_pos_left h hd2) hr.asc, by rw [List.length_map]; exact hst, hr.bar, hr.n1⟩
              simp
              refine ⟨sz (by decide), vs, _, s, b, ?_, hv, hok, ?_⟩
              · simp [Function.comp_def]
              · rw [told_scale_d hd2]
                simp [eqD_ints]
                exact hN _ ⟨_, o5, rfl⟩
            · simp [o5]
              exact ⟨cmul_l (by omega), hN3⟩
          · exact hN _ ⟨_, o5, rfl⟩
        · obtain ⟨s5, o5, rfl⟩ := hQ
          rw [q_seq]
          simp [-q_seq]
          split
          · exact h z2 (hz2.mono (by omega))
          · rename_i h2
            rw [q_seq]
            simp [-q_seq]
            refine ⟨by omega, sz (by decide), ?_⟩
            rw [q_seq]
            simp [-q_seq, o8]
            refine ⟨_, _, rfl, hz2, by omega, by omega, fun d3 z3 a3 b3 hz3 => ?_⟩
            simp [-q_seq, o8]
            refine ⟨by omega, ?_⟩
            obtain ⟨y, ey, hy, hyx⟩ : ∃ y : Nat, ((x : Int) + 1 + d3) % (vs.length : Int) = y ∧ y < vs.length ∧ y ≠ x := by
              have e1 := Int.emod_nonneg ((x : Int) + 1 + d3) (by omega : (vs.length : Int) ≠ 0)
              have e2 := Int.emod_lt_of_pos ((x : Int) + 1 + d3) (by omega : 0 < (vs.length : Int))
              refine ⟨(((x : Int) + 1 + d3) % (vs.length : Int)).toNat, by omega, by omega, fun z => ?_⟩
              have e3 : ((x : Int) + 1 + d3) % (vs.length : Int) = x := by omega
              by_cases c1 : (x : Int) + 1 + d3 < vs.length
              · rw [Int.emod_eq_of_lt (by omega) c1] at e3; omega
              · have : ((x : Int) + 1 + d3) % (vs.length : Int) = ((x : Int) + 1 + d3 - vs.length) % (vs.length : Int) := (Int.sub_emod_right _ _).symm
                rw [this, Int.emod_eq_of_lt (by omega) (by omega)] at e3
                omega
            rw [ey]
            obtain ⟨f, l, ef, el, hfl, hlv⟩ : ∃ f l : Nat, mn (x : Int) (y : Int) = f ∧ mx (x : Int) (y : Int) = l ∧ f < l ∧ l < vs.length := by
              unfold mn mx
              by_cases c1 : x < y
              · exact ⟨x, y, by rw [if_neg (by omega)], by rw [if_pos (by omega)], c1, hy⟩
              · exact ⟨y, x, by rw [if_pos (by omega)], by rw [if_neg (by omega)], by omega, hx⟩
            have hfv : f < vs.length := by omega
            rw [q_seq]
            simp [-q_seq, -q_min2, -q_max2, q_mx, q_mn, ef, el]
            rw [q_seq]
            simp [-q_seq, atI_int hfv, atI_int hlv]
            refine ⟨cpow_of (by decide) (by decide) (by decide), ?_⟩
            split
            · exact h z3 (hz3.mono (by omega))
            · rename_i h3
              have hjok := join_ok hv hfl hlv (by omega)
              have hjl := join_len hfl hlv
              rw [q_seq]
              simp [-q_seq, atI_int hfv, atI_int hlv]
              rw [cut_to', cut_mid' vs (f + 1) l (by omega), cut_from' vs (l + 1) (by omega)]
              have e1 : (vs.take f).map D.int ++ D.int (at0 vs f + at0 vs l) :: (((vs.take l).drop (f + 1)).map D.int ++ (vs.drop (l + 1)).map D.int) = (join2 vs f l).map D.int := by unfold join2; simp
              rw [e1]
              refine ⟨sz (by decide), sz (by simp; omega), sz (by simp; omega), sz (by simp; omega), ?_⟩
              have e2 : rgD 1 ((ds.length : Int) + 1) = (plainD ds.length).map D.int := by
                unfold rgD plainD
                rw [List.map_map, show ((ds.length : Int) + 1 - 1).toNat = ds.length by omega]
                rfl
              rw [e2]
              have hpl := plain_ok hr (m := vs.length) (by omega)
              have hpl2 := plain_ok hr (m := (join2 vs f l).length) (by rw [hjl]; omega)
              rw [q_seq]
              simp [-q_seq]
              refine ⟨vs, _, s, 0, rfl, hv, hpl, ?_⟩
              simp [told_atI hfv, told_atI hlv]
              refine ⟨_, _, s, 0, rfl, hjok, hpl2, ?_⟩
              have hjr := joined_right hv hr hfl hlv (by omega)
              simp [told_atI (show f < (join2 vs f l).length by rw [hjl]; omega)]
              rw [decide_eq_true (by omega)]
              exact h z3 (hz3.mono (by omega))
end S14

namespace S14
open PySem PySem.Spec PyProof.Rows L2 FL
/-! ### Euclid in sixty laps -/
def eu (x : Nat × Nat) : Nat × Nat := if 0 < x.2 then (x.2, x.1 % x.2) else x
def euN : Nat → Nat × Nat → Nat × Nat
  | 0, x => x
  | n + 1, x => eu (euN n x)
theorem eu_gcd (x : Nat × Nat) : Nat.gcd (eu x).1 (eu x).2 = Nat.gcd x.1 x.2 := by
  unfold eu
  split
  · show Nat.gcd x.2 (x.1 % x.2) = _
    rw [Nat.gcd_comm x.1 x.2, Nat.gcd_rec x.2 x.1, Nat.gcd_comm]
  · rfl
theorem euN_gcd (x : Nat × Nat) : ∀ n, Nat.gcd (euN n x).1 (euN n x).2 = Nat.gcd x.1 x.2
  | 0 => rfl
  | n + 1 => by rw [euN, eu_gcd, euN_gcd x n]
theorem eu_half (x : Nat × Nat) : (eu (eu x)).2 = 0 ∨ (eu (eu x)).2 * 2 < x.2 := by
  by_cases h : 0 < x.2
  · have e : eu x = (x.2, x.1 % x.2) := by unfold eu; rw [if_pos h]
    rw [e]
    by_cases h2 : 0 < x.1 % x.2
    · have e2 : eu (x.2, x.1 % x.2) = (x.1 % x.2, x.2 % (x.1 % x.2)) := by unfold eu; rw [if_pos h2]
      rw [e2]
      right
      have h3 := Nat.mod_lt x.1 h
      generalize x.1 % x.2 = r at *
      show x.2 % r * 2 < x.2
      have h4 := Nat.mod_lt x.2 h2
      by_cases c : r * 2 ≤ x.2
      · omega
      · have : x.2 % r = x.2 - r := by
          rw [Nat.mod_eq_sub_mod (by omega), Nat.mod_eq_of_lt (by omega)]
        omega
    · left
      have e2 : eu (x.2, x.1 % x.2) = (x.2, x.1 % x.2) := by unfold eu; rw [if_neg h2]
      rw [e2]
      show x.1 % x.2 = 0
      omega
  · left
    have e : eu x = x := by unfold eu; rw [if_neg h]
    rw [e, e]
    omega
theorem eu_zero {x : Nat × Nat} (h : x.2 = 0) : eu x = x := by unfold eu; rw [if_neg (by omega)]
theorem euN_small : ∀ (k : Nat) (x : Nat × Nat), x.2 < 2 ^ k → (euN (2 * k) x).2 = 0
  | 0, x, h => by
    show x.2 = 0
    simpa using h
  | k + 1, x, h => by
    have sh : ∀ n x, euN (n + 2) x = euN n (eu (eu x)) := by
      intro n
      induction n with
      | zero => intro x; rfl
      | succ n ih => intro x; show eu (euN (n + 2) x) = _; rw [ih]; rfl
    rw [show 2 * (k + 1) = 2 * k + 2 by omega, sh]
    refine euN_small k _ ?_
    rw [Nat.pow_succ] at h
    have := Nat.pow_pos (n := k) (show 0 < 2 by decide)
    rcases eu_half x with z | z <;> omega
theorem euN_more {x : Nat × Nat} {n : Nat} (h : (euN n x).2 = 0) : ∀ m, euN (n + m) x = euN n x
  | 0 => rfl
  | m + 1 => by
    show eu (euN (n + m) x) = _
    rw [euN_more h m, eu_zero h]
theorem eu60 {t w : Nat} (hw : w ≤ 1000000) (hg : Nat.gcd t w = 1) : (euN 60 (t, w)).1 = 1 := by
  have h0 := euN_small 20 (t, w) (by show w < 2 ^ 20; omega)
  have h1 : euN 60 (t, w) = euN 40 (t, w) := euN_more h0 20
  have h2 := euN_gcd (t, w) 40
  rw [h1]
  have h0' : (euN 40 (t, w)).2 = 0 := h0
  rw [h0', Nat.gcd_zero_right] at h2
  rw [h2]
  exact hg
theorem price_facts {v d : Int} (hv : 0 ≤ v) (hd : 1 ≤ d ∧ d ≤ 1000000) : ∃ t w : Nat, v / ((Nat.gcd v.natAbs d.natAbs : Nat) : Int) = t ∧ d / ((Nat.gcd v.natAbs d.natAbs : Nat) : Int) = w ∧ (t : Int) * d = v * w ∧ Nat.gcd t w = 1 ∧ 1 ≤ w ∧ w ≤ 1000000 := by
  obtain ⟨V, rfl⟩ : ∃ V : Nat, v = V := ⟨v.toNat, by omega⟩
  obtain ⟨D, rfl⟩ : ∃ D : Nat, d = D := ⟨d.toNat, by omega⟩
  rw [Int.natAbs_natCast, Int.natAbs_natCast]
  have hg : 0 < Nat.gcd V D := Nat.gcd_pos_of_pos_right _ (by omega)
  refine ⟨V / Nat.gcd V D, D / Nat.gcd V D, (Int.natCast_ediv _ _).symm, (Int.natCast_ediv _ _).symm, ?_, Nat.coprime_div_gcd_div_gcd hg, ?_, ?_⟩
  · obtain ⟨a, ha⟩ := Nat.gcd_dvd_left V D
    obtain ⟨c, hc⟩ := Nat.gcd_dvd_right V D
    have e1 : V / Nat.gcd V D = a := Nat.div_eq_of_eq_mul_right hg ha
    have e2 : D / Nat.gcd V D = c := Nat.div_eq_of_eq_mul_right hg hc
    rw [e1, e2]
    have : a * D = V * c := by
      generalize Nat.gcd V D = g at *
      rw [ha, hc, Nat.mul_left_comm, Nat.mul_assoc]
    rw [← Int.natCast_mul, this, Int.natCast_mul]
  · exact Nat.div_pos (Nat.gcd_le_right _ (by omega)) hg
  · have := Nat.div_le_self D (Nat.gcd V D)
    omega
/-! ### the lists -/
section
variable {vs ds : List Int} {s b : Int}
abbrev firstL (vs ds : List Int) (s b : Int) : List (Nat × Nat) := (run vs ds (fit vs b) s.toNat).1
theorem every_take (hv : VOk vs) (hr : ROk ds s b vs.length) : (everyL vs ds b).take s.toNat = firstL vs ds s b := by
  have h := enough hv hr
  have := run_take (k := s.toNat) hr.dok hv.pos (fit_nodup vs b) (ds.length * (fit vs b).length - s.toNat) (by omega)
  rw [show s.toNat + (ds.length * (fit vs b).length - s.toNat) = ds.length * (fit vs b).length by omega] at this
  exact this
theorem every_good (hv : VOk vs) (hr : ROk ds s b vs.length) : (everyL vs ds b).length = ds.length * (fit vs b).length ∧ ∀ q ∈ everyL vs ds b, q.1 ∈ fit vs b ∧ q.2 < ds.length := by
  have g := good_fit hv hr (Nat.le_refl _)
  exact ⟨g.len, g.mem⟩
theorem every_next (hv : VOk vs) (hr : ROk ds s b vs.length) (hn : ¬ ∃ p ∈ fit vs b, heldM vs ds s b p = ds.length) : ∃ p i, best vs ds (heldM vs ds s b) (fit vs b) = some p ∧ (everyL vs ds b)[s.toNat]? = some (p, i) := by
  have h := enough hv hr
  have g := good_s hv hr
  have hf := fit_ne hv hr.bar
  have hlt : s.toNat < ds.length * (fit vs b).length := by
    refine Nat.lt_of_le_of_ne h fun z => ?_
    have h1 : ∀ p ∈ fit vs b, heldM vs ds s b p ≤ ds.length := fun p _ => g.le p
    have h2 := sum_lt (ft := fit vs b) (m := heldM vs ds s b) (m' := fun _ => ds.length) h1 (by
      obtain ⟨p, hp⟩ := List.exists_mem_of_length_pos hf
      refine ⟨p, hp, Nat.lt_of_le_of_ne (h1 p hp) fun z => hn ⟨p, hp, z⟩⟩)
    rw [g.sum] at h2
    have h3 : ((fit vs b).map fun _ => ds.length).sum = ds.length * (fit vs b).length := by
      induction fit vs b with
      | nil => rfl
      | cons x r ih => rw [List.map_cons, List.sum_cons, ih, List.length_cons, Nat.mul_add]; omega
    omega
  obtain ⟨p, ep⟩ := (good_run hr.dok hv.pos (fit_nodup vs b) _ (Nat.le_refl _)).2 s.toNat hlt
  refine ⟨p, heldM vs ds s b p, ep, ?_⟩
  have ht := run_take (k := s.toNat + 1) hr.dok hv.pos (fit_nodup vs b) (ds.length * (fit vs b).length - (s.toNat + 1)) (by omega)
  rw [show s.toNat + 1 + (ds.length * (fit vs b).length - (s.toNat + 1)) = ds.length * (fit vs b).length by omega, run_succ ep] at ht
  have e := congrArg (fun l => l[s.toNat]?) ht
  simp only at e
  rw [List.getElem?_take, if_pos (by omega)] at e
  rw [show (everyL vs ds b)[s.toNat]? = (run vs ds (fit vs b) (ds.length * (fit vs b).length)).1[s.toNat]? from rfl, e]
  rw [List.getElem?_append, if_neg (by rw [g.len]; omega), g.len]
  simp
  rfl
theorem held_fit (hv : VOk vs) (hr : ROk ds s b vs.length) : (∃ p ∈ fit vs b, heldM vs ds s b p = ds.length) ↔ ∃ p, p < vs.length ∧ heldM vs ds s b p = ds.length := by
  have g := good_s hv hr
  have := hr.len
  constructor
  · rintro ⟨p, hp, e⟩
    exact ⟨p, (fit_mem.mp hp).1, e⟩
  · rintro ⟨p, hp, e⟩
    refine ⟨p, Classical.byContradiction fun z => ?_, e⟩
    have := g.out p z
    omega
theorem dealt_take (hv : VOk vs) (hr : ROk ds s b vs.length) {t : Int} (h1 : 1 ≤ t) (h2 : t ≤ s) : (dealtL vs ds s b).take t.toNat = dealtL vs ds t b := by
  have h := enough hv hr
  have := run_take (k := t.toNat) hr.dok hv.pos (fit_nodup vs b) (s.toNat - t.toNat) (by omega)
  rw [show t.toNat + (s.toNat - t.toNat) = s.toNat by omega] at this
  unfold dealtL
  rw [← List.map_take, this]
theorem len_count (p : Nat) (x : D) : ∀ l : List (Nat × Nat), (l.filterMap fun q => if q.1 = p then some x else none).length = (l.map (·.1)).count p
  | [] => rfl
  | q :: l => by
    rw [List.filterMap_cons, List.map_cons, List.count_cons]
    have ih := len_count p x l
    by_cases e : q.1 = p
    · simp [e, ih]
    · simp [e, ih]
end
/-! ### the law's pot -/
def F__law_pot : RSpec := fun as R => ∃ (ns : List Int) (p : Nat), as = [lI ns, .int p] ∧ ns.length ≤ 63 ∧ p ≤ 2 ∧ ∀ xs, PotOk 0 xs → R xs
theorem m__law_pot (as : List D) (R : List D → Prop) (h : F__law_pot as R) : w__law_pot { nx := fun _ => False, rt := fun d _ => ∃ xs, d = .lst xs ∧ R xs } (env0 N__law_pot as) := by
  obtain ⟨ns, p, rfl, hl, hp, h⟩ := h
  rw [e__law_pot]
  unfold w__law_pot
  have fin : ∀ cell : Int, PotOk 0 [.int ((if cell < 0 then -cell else cell) % (10 ^ 60) ^ 5 * (if 10 ^ 18 ≤ (if cell < 0 then -cell else cell) then 1 else 0)), .int ((cell % 2305843009213693951 * 137199 + 30043 * (p : Int) * p + 2419) % 2305843009213693921), .int 0] := fun cell => by
    refine ⟨_, _, 0, rfl, ?_, ⟨Int.emod_nonneg _ (by decide), ?_⟩, Nat.le_refl _⟩
    · have h1 := Int.emod_nonneg (if cell < 0 then -cell else cell) (show ((10 : Int) ^ 60) ^ 5 ≠ 0 by decide)
      have h2 := Int.emod_lt_of_pos (if cell < 0 then -cell else cell) (show 0 < ((10 : Int) ^ 60) ^ 5 by decide)
      have h3 : ((10 : Int) ^ 60) ^ 5 ≤ 2 ^ 1000 := by decide
      generalize (if cell < 0 then -cell else cell) % (10 ^ 60) ^ 5 = y at *
      have h4 : ∀ (c : Prop) [Decidable c], y * (if c then 1 else 0) = y ∨ y * (if c then 1 else 0) = 0 := fun c _ => by
        by_cases z : c
        · rw [if_pos z, Int.mul_one]; exact .inl rfl
        · rw [if_neg z, Int.mul_zero]; exact .inr rfl
      rcases h4 (10 ^ 18 ≤ (if cell < 0 then -cell else cell)) with e | e <;> (rw [e]; omega)
    · have := Int.emod_lt_of_pos (cell % 2305843009213693951 * 137199 + 30043 * (p : Int) * p + 2419) (show (0 : Int) < 2305843009213693921 by decide)
      omega
  have hc1 : CPowA 10 60 := cpow_of (by decide) (by decide) (by decide)
  have hc2 : CPowA (10 ^ 60) 5 := cpow_of (by decide) (by decide) (by decide)
  have hc3 : CPowA 10 18 := cpow_of (by decide) (by decide) (by decide)
  have rest : ∀ cell : Int, (sSeqF (sAsg (dBin gMul (dBin gMod (dCB gInt1 (aCons (dCB gAbs (aCons (dVar 2) aNil)) aNil)) (dBin gPow (dBin gPow (dC (.int 10)) (dC (.int 60))) (dC (.int 5)))) (dCB gInt1 (aCons (dBin gGe (dCB gAbs (aCons (dVar 2) aNil)) (dBin gPow (dC (.int 10)) (dC (.int 18)))) aNil))) (.nm 3)) (sSeqF (sAsg (dBin gMod (dCB gInt1 (aCons (dVar 2) aNil)) (dC (.int 2305843009213693951))) (.nm 4)) (sRetF (fLst (aCons (dVar 3) (aCons (dBin gMod (dCB gInt1 (aCons (dBin gAdd (dBin gAdd (dBin gMul (dVar 4) (dC (.int 137199))) (dBin gMul (dBin gMul (dC (.int 30043)) (dVar 1)) (dVar 1))) (dC (.int 2419))) aNil)) (dC (.int 2305843009213693921))) (aCons (dC (.int 0)) aNil))))))) { nx := fun _ => False, rt := fun d _ => ∃ xs, d = .lst xs ∧ R xs } [.fz (lI ns), .fz (.int p), .fz (.int cell), .no, .no] := fun cell => by
    have hfin := h _ (fin cell)
    simp only [q_seqF, q_asg, q_bin, q_cb, q_acons, q_anil, q_var, q_c, List.getElem?_cons_succ, List.getElem?_cons_zero, q_int, q_abs, q_pow, q_mod, q_gei, q_intb, q_mul, q_pnm, q_canS, q_can0, q_own1, q_retF, q_flst, q_addi]
    have b01 : ∀ c : Bool, -(2 ^ 64) < (if c = true then (1 : Int) else 0) ∧ (if c = true then (1 : Int) else 0) < 2 ^ 64 := fun c => by cases c <;> decide
    refine ⟨hc1, hc2, by decide, hc3, cmul_r (b01 _), ?_⟩
    refine ⟨by show (0 : Int) < _; decide, cmul_r (by decide), cmul_l (by decide), cmul_r (by omega), by show (0 : Int) < _; decide, sz (by simp), _, rfl, ?_⟩
    have e18 : (10 : Int) ^ (18 : Int).toNat = 10 ^ 18 := rfl
    have hcast : (if decide ((10 : Int) ^ (18 : Int).toNat ≤ (if cell < 0 then -cell else cell)) = true then (1 : Int) else 0) = (if 10 ^ 18 ≤ (if cell < 0 then -cell else cell) then 1 else 0) := by
      rw [e18]
      by_cases z : (10 : Int) ^ 18 ≤ (if cell < 0 then -cell else cell)
      · rw [if_pos z, if_pos (decide_eq_true z)]
      · rw [if_neg z, if_neg (by rw [decide_eq_false z]; decide)]
    rw [hcast]
    exact hfin
  rw [q_seqF]
  simp [-q_seqF]
  split
  · rename_i hlt
    have e := atI_int (ns := ns) (i := p) hlt
    simp [-q_seqF, e]
    exact rest _
  · rename_i hlt
    have e1 : intsOf (List.take 1 (ns.map D.int)) = some (ns.take 1) := by rw [← List.map_take, intsOf_map]
    rw [show (1 : Int) = ((1 : Nat) : Int) from rfl, cut_to, e1]
    simp [-q_seqF]
    exact ⟨cmul_l (by decide), rest _⟩
end S14

namespace S14
open PySem PySem.Spec PyProof.Rows L2 FL
theorem filterMap_dec {α : Type} (P : Nat → Prop) [DecidablePred P] (g : Nat → D) : ∀ l : List Nat, (l.filterMap fun x => if P x then some (g x) else none) = (l.filter fun x => decide (P x)).map g
  | [] => rfl
  | x :: l => by
    rw [List.filterMap_cons, List.filter_cons, filterMap_dec (α := α) P g l]
    by_cases h : P x <;> simp [h]
def F__law_right : PSpec := fun ys as R => as = [] ∧ PotOk 0 ys ∧ ∀ zs, R (.bl true) zs
theorem m__law_right (ys as : List D) (R : D → List D → Prop) (h : F__law_right ys as R) :
    w__law_right F__law_take F__law_votes F__law_rule F__law_sorted F_seating F_sequence F_next_one F_price F_below F_with_seats F__law_is_more_right F__law_out F__law_of F__law_is_mark_right (PEP R) (envP N__law_right ys as) := by
  obtain ⟨rfl, hz, h⟩ := h
  rw [e__law_right]
  unfold w__law_right
  have hbig : big = 1099511627776 := rfl
  try dsimp only
  rw [q_seq]
  simp [-q_seq]
  refine ⟨_, _, rfl, hz, by omega, by omega, fun d1 z1 a1 b1 hz1 => ?_⟩
  obtain ⟨n, en, hn⟩ : ∃ n : Nat, 1 + d1 = n ∧ 1 ≤ n ∧ n ≤ 12 := ⟨(1 + d1).toNat, by omega, by omega⟩
  simp [-q_seq, en]
  try dsimp only
  rw [q_seq]
  simp [-q_seq]
  refine ⟨_, n, rfl, hz1, by omega, hn, fun vs z2 hv hvn hz2 => ?_⟩
  try dsimp only
  rw [q_seq]
  simp [-q_seq]
  refine ⟨_, _, rfl, hz2, by omega, by omega, fun d3 z3 a3 b3 hz3 => ?_⟩
  obtain ⟨s0, es, hs0⟩ : ∃ s : Nat, 1 + d3 = s ∧ 1 ≤ s ∧ s ≤ 58 := ⟨(1 + d3).toNat, by omega, by omega⟩
  simp [-q_seq, es]
  refine ⟨_, n, s0, rfl, hz3, by omega, hn, hs0, fun ds b z4 hr hz4 => ?_⟩
  rw [← hvn] at hr
  subst hvn
  have hl := hv.len
  have hdl := hr.len
  have hst := hr.st
  have hb := hr.bar100
  have hnD : ∀ q, q < vs.length → atI ((toldL vs ds s0 b).map D.int) (q : Int) = some (.int (heldM vs ds s0 b q : Nat)) := fun q hq => told_atI hq
  have hflen : (firstL vs ds s0 b).length = s0 := by
    have := (good_s hv hr).len
    rw [this]
    omega
  try dsimp only
  rw [q_seq]
  simp [-q_seq]
  refine ⟨vs, ds, s0, b, rfl, hv, hr, ?_⟩
  try dsimp only
  rw [q_seq]
  simp [-q_seq]
  rw [cut_to, ← List.map_take, show s0 = (s0 : Int).toNat by omega, every_take hv hr, show ((s0 : Int).toNat : Int) = s0 by omega]
  -- told
  try dsimp only
  rw [q_seq]
  simp [-q_seq]
  refine ⟨by omega, sz (by omega), ?_⟩
  refine compD_fn (fun i : Nat => D.int (i : Int)) (fun p => some (.int (heldM vs ds s0 b p : Nat))) ?_ fun p hp acc Nx hN => ?_
  · have e1 : ((List.range vs.length).filterMap fun p => some (D.int (heldM vs ds s0 b p : Nat))) = (toldL vs ds s0 b).map D.int := by
      rw [List.filterMap_eq_map']; unfold toldL; rw [List.map_map]; rfl
    rw [e1]
    simp [-q_seq]
    -- seating, sequence
    refine seq_mid (fun env => env = [.ol z4, .fz (.int vs.length), .fz (tI vs), .fz (rD ds s0 b), .fz (.lst ((everyL vs ds b).map pD)), .fz (.lst ((firstL vs ds s0 b).map pD)), .fz (tI (toldL vs ds s0 b)), .no, .no, .no, .no, .no, .no, .no, .no, .no, .no, .no, .no]) (fun Nx hN => ?_) fun e hQ => ?_
    · have hN' := hN _ rfl
      simp [-q_seq]
      refine ⟨vs, ds, s0, b, rfl, hv, hr, ?_⟩
      simp [-q_seq, eqD_ints]
      refine ⟨vs, ds, s0, b, rfl, hv, hr, ?_⟩
      simp [-q_seq]
      refine ⟨sz (by rw [hflen]; omega), ?_⟩
      refine compD_fn pD (fun q => some (.int (q.1 : Int))) ?_ fun q hq acc Nx2 hN2 => ?_
      · have e2 : ((firstL vs ds s0 b).filterMap fun q => some (D.int (q.1 : Int))) = (dealtL vs ds s0 b).map D.int := by
          rw [List.filterMap_eq_map']; unfold dealtL; rw [List.map_map]; rfl
        rw [e2]
        simp [eqD_ints]
        exact hN'
      · simp
        exact hN2
    · subst hQ
      -- full
      rw [q_seq]
      simp [-q_seq]
      refine ⟨by omega, sz (by omega), ?_⟩
      refine compD_fn (fun i : Nat => D.int (i : Int)) (fun p => if heldM vs ds s0 b p = ds.length then some (.int (p : Int)) else none) ?_ fun p hp acc Nx hN => ?_
      · rw [filterMap_dec (α := Unit) (fun p => heldM vs ds s0 b p = ds.length)]
        simp [-q_seq]
        -- next_one
        refine seq_mid (fun env => ∃ s7, s7.isOwn = false ∧ env = [.ol z4, .fz (.int vs.length), .fz (tI vs), .fz (rD ds s0 b), .fz (.lst ((everyL vs ds b).map pD)), .fz (.lst ((firstL vs ds s0 b).map pD)), .fz (tI (toldL vs ds s0 b)), s7, .no, .no, .no, .no, .no, .no, .no, .no, .no, .no, .no]) (fun Nx hN => ?_) fun e hQ => ?_
        · have hN' := hN _ ⟨.fz (.lst (((List.range vs.length).filter fun x => decide (heldM vs ds s0 b x = ds.length)).map fun x : Nat => D.int (x : Int))), rfl, rfl⟩
          simp [-q_seq]
          refine ⟨vs, ds, s0, b, rfl, hv, hr, ?_⟩
          by_cases hf : ∃ p ∈ fit vs b, heldM vs ds s0 b p = ds.length
          · rw [if_pos hf]
            obtain ⟨p, hp, ep⟩ := (held_fit hv hr).mp hf
            have hm : p ∈ (List.range vs.length).filter fun x => decide (heldM vs ds s0 b x = ds.length) := List.mem_filter.mpr ⟨List.mem_range.mpr hp, decide_eq_true ep⟩
            cases hF : (List.range vs.length).filter fun x => decide (heldM vs ds s0 b x = ds.length) with
            | nil => rw [hF] at hm; cases hm
            | cons y r =>
              rw [hF] at hN'
              have hc : cmpD (.lst (D.int (y : Int) :: r.map fun x : Nat => D.int (x : Int))) = true := by
                have := cmpD_li ((y : Int) :: r.map fun x : Nat => (x : Int))
                rw [List.map_cons, List.map_map] at this
                exact this
              simp [hc]
              exact ⟨rfl, hN'⟩
          · rw [if_neg hf]
            obtain ⟨p, i, ep, ei⟩ := every_next hv hr hf
            have hF : (List.range vs.length).filter (fun x => decide (heldM vs ds s0 b x = ds.length)) = [] := by
              rw [List.filter_eq_nil_iff]
              intro x hx
              have := List.mem_range.mp hx
              intro z
              exact hf ((held_fit hv hr).mpr ⟨x, this, of_decide_eq_true z⟩)
            have es0 : (s0 : Int).toNat = s0 := by omega
            rw [es0] at ei
            have ea : atI ((everyL vs ds b).map pD) (s0 : Int) = some (pD (p, i)) := atI_of (j := s0) rfl (by rw [List.getElem?_map, ei]; rfl)
            rw [hF] at hN'
            rw [hF, ep]
            simp [ea, encO]
            exact ⟨rfl, hN'⟩
        · obtain ⟨s7, o7, rfl⟩ := hQ
          obtain ⟨l1, l2, l3, l4⟩ := last_ok hv hr
          generalize hq : lastP vs ds s0 b = q at *
          have hq1 := (fit_mem.mp l2).1
          have hla : atI ((firstL vs ds s0 b).map pD) (-1) = some (pD q) := atI_lastD (by rw [List.getLast?_map, l1]; rfl)
          rw [q_seq]
          simp [-q_seq, hla]
          rw [q_seq]
          simp [-q_seq]
          refine ⟨vs, ds, s0, b, rfl, hv, hr, ?_⟩
          rw [hq]
          obtain ⟨t, w, et, ew, e5, e6, e7⟩ := price_facts (hv.at0 hq1).1 (hr.at0 l3)
          rw [et, ew]
          simp [-q_seq]
          rw [q_seq]
          simp [-q_seq]
          refine seq_mid (fun env => ∃ s8 s18, s8.isOwn = false ∧ s18.isOwn = false ∧ env = [.ol z4, .fz (.int vs.length), .fz (tI vs), .fz (rD ds s0 b), .fz (.lst ((everyL vs ds b).map pD)), .fz (.lst ((firstL vs ds s0 b).map pD)), .fz (tI (toldL vs ds s0 b)), s7, s8, .no, .no, .no, .no, .fz (.int q.1), .fz (.int q.2), .fz (.int t), .fz (.int w), .fz (.int 1), s18]) (fun Nx hN => ?_) fun e hQ => ?_
          · simp
            refine forD_inv (fun i env => ∃ s8, s8.isOwn = false ∧ env = [.ol z4, .fz (.int vs.length), .fz (tI vs), .fz (rD ds s0 b), .fz (.lst ((everyL vs ds b).map pD)), .fz (.lst ((firstL vs ds s0 b).map pD)), .fz (tI (toldL vs ds s0 b)), s7, s8, .no, .no, .no, .no, .fz (.int q.1), .fz (.int q.2), .fz (.int t), .fz (.int w), .fz (.int ((euN i (t, w)).1 : Nat)), .fz (.int ((euN i (t, w)).2 : Nat))])
              ⟨.no, rfl, rfl⟩ (fun env hI => ?_) fun i x env Nx2 hx hI hN2 => ?_
            · obtain ⟨s8, o8, rfl⟩ := hI
              refine hN _ ⟨s8, .fz (.int ((euN 60 (t, w)).2 : Nat)), o8, rfl, ?_⟩
              have e60 : (List.map (fun i : Nat => D.int (i : Int)) (List.range 60)).length = 60 := by simp
              rw [e60, eu60 e7.2 e6]
              rfl
            · obtain ⟨s8, o8, rfl⟩ := hI
              have hs : euN (i + 1) (t, w) = eu (euN i (t, w)) := rfl
              generalize euN i (t, w) = st at *
              simp [o8]
              split
              · rename_i hp
                have hp' : 0 < st.2 := by omega
                refine ⟨hp', hN2 _ ⟨.fz x, rfl, ?_⟩⟩
                rw [hs]
                unfold eu
                rw [if_pos hp']
                simp
              · rename_i hp
                refine hN2 _ ⟨.fz x, rfl, ?_⟩
                rw [hs]
                unfold eu
                rw [if_neg (by omega)]
          · obtain ⟨s8, s18, o8, o18, rfl⟩ := hQ
            refine seq_mid (fun env => env = [.ol z4, .fz (.int vs.length), .fz (tI vs), .fz (rD ds s0 b), .fz (.lst ((everyL vs ds b).map pD)), .fz (.lst ((firstL vs ds s0 b).map pD)), .fz (tI (toldL vs ds s0 b)), s7, s8, .no, .no, .no, .no, .fz (.int q.1), .fz (.int q.2), .fz (.int t), .fz (.int w), .fz (.int 1), s18]) (fun Nx hN => ?_) fun e hQ => ?_
            · have hN' := hN _ rfl
              have hd1 := hr.at0 l3
              have hv1 := hv.at0 hq1
              simp [atI_int l3, atI_int hq1]
              refine ⟨cmul_r (by omega), cmul_l (by omega), ?_⟩
              rw [e5]
              simp
              rw [if_neg (by omega)]
              exact hN'
            · subst hQ
              refine seq_mid (fun env => ∃ s17, s17.isOwn = false ∧ env = [.ol z4, .fz (.int vs.length), .fz (tI vs), .fz (rD ds s0 b), .fz (.lst ((everyL vs ds b).map pD)), .fz (.lst ((firstL vs ds s0 b).map pD)), .fz (tI (toldL vs ds s0 b)), s7, s8, .no, .no, .no, .no, .fz (.int q.1), .fz (.int q.2), .fz (.int t), .fz (.int w), s17, s18]) (fun Nx hN => ?_) fun e hQ => ?_
              · simp
                refine ⟨vs, ds, s0, b, rfl, hv, hr, ?_⟩
                simp
                refine ⟨by omega, sz (by omega), ?_⟩
                refine compD_fn (fun i : Nat => D.int (i : Int)) (fun p => if low vs b p then some (.int (p : Int)) else none) ?_ fun p hp acc Nx2 hN2 => ?_
                · rw [filterMap_low]
                  have hc : ∀ l : List Nat, cmpD (.tup (l.map fun p : Nat => D.int (p : Int))) = true := fun l => by
                    have := cmpD_ti (l.map fun x : Nat => (x : Int))
                    rw [List.map_map] at this
                    exact this
                  have he : ∀ l : List Nat, eqD (.tup (l.map fun p : Nat => D.int (p : Int))) (.tup (l.map fun p : Nat => D.int (p : Int))) = true := fun l => by
                    have := eqD_ints (l.map fun x : Nat => (x : Int)) (l.map fun x : Nat => (x : Int))
                    rw [List.map_map] at this
                    exact this.trans (by simp)
                  simp [hc, he]
                  exact hN _ ⟨.fz (.int 1), rfl, rfl⟩
                · have hp' := List.mem_range.mp hp
                  have hv1 := hv.at0 hp'
                  simp [atI_int hp']
                  refine ⟨cmul_r (by decide), cmul_l (by omega), ?_⟩
                  by_cases c : low vs b p
                  · have c' : at0 vs p * 100 < b * vs.sum := c
                    simpa [c, c'] using hN2
                  · have c' : ¬ at0 vs p * 100 < b * vs.sum := c
                    simpa [c, c'] using hN2
              · obtain ⟨s17, o17, rfl⟩ := hQ
                rw [q_seq]
                simp [-q_seq]
                refine ⟨_, _, rfl, hz4, by omega, by omega, fun d5 z5 a5 b5 hz5 => ?_⟩
                simp [-q_seq]
                obtain ⟨le, ele, hle⟩ : ∃ l : Nat, 1 + d5 = l ∧ 1 ≤ l ∧ l ≤ s0 := ⟨(1 + d5).toNat, by omega, by omega⟩
                rw [ele]
                refine seq_mid (fun env => env = [.ol z5, .fz (.int vs.length), .fz (tI vs), .fz (rD ds s0 b), .fz (.lst ((everyL vs ds b).map pD)), .fz (.lst ((firstL vs ds s0 b).map pD)), .fz (tI (toldL vs ds s0 b)), s7, s8, .fz (.int le), .no, .no, .no, .fz (.int q.1), .fz (.int q.2), .fz (.int t), .fz (.int w), s17, s18]) (fun Nx hN => ?_) fun e hQ => ?_
                · have hN' := hN _ rfl
                  have hr1 : ROk ds s0 b 1 := ⟨hr.len, hr.all, hr.asc, hr.st, ⟨hb.1, by omega⟩, by omega⟩
                  have hr2 : ROk ds le b vs.length := ⟨hr.len, hr.all, hr.asc, by omega, hr.bar, hr.n1⟩
                  have hdt := dealt_take hv hr (t := (le : Int)) (by omega) (by omega)
                  rw [Int.toNat_natCast] at hdt
                  simp
                  refine ⟨sz (by decide), ds, s0, b, le, rfl, hr1, by omega, by omega, ?_⟩
                  simp
                  refine ⟨vs, ds, le, b, rfl, hv, hr2, ?_⟩
                  simp
                  refine ⟨vs, ds, s0, b, rfl, hv, hr, ?_⟩
                  simp
                  rw [cut_to', hdt]
                  simp [eqD_ints]
                  exact hN'
                · subst hQ
                  refine seq_mid (fun env => ∃ z6, PotOk 300 z6 ∧ env = [.ol z6, .fz (.int vs.length), .fz (tI vs), .fz (rD ds s0 b), .fz (.lst ((everyL vs ds b).map pD)), .fz (.lst ((firstL vs ds s0 b).map pD)), .fz (tI (toldL vs ds s0 b)), s7, s8, .fz (.int le), .no, .no, .no, .fz (.int q.1), .fz (.int q.2), .fz (.int t), .fz (.int w), s17, s18]) (fun Nx hN => ?_) fun e hQ => ?_
                  · simp
                    refine ⟨_, vs, ds, s0, b, rfl, hz5, by omega, hv, hr, fun z6 hz6 => ?_⟩
                    simp
                    exact hN _ ⟨z6, hz6.mono (by omega), rfl⟩
                  · obtain ⟨z6, hz6, rfl⟩ := hQ
                    rw [q_seq]
                    simp [-q_seq]
                    split
                    · exact h z6
                    · rename_i hn2
                      rw [q_seq]
                      simp [-q_seq]
                      refine ⟨by omega, fun m0 hm1 hm2 => ?_⟩
                      have hmb := hv.all m0 hm1
                      refine ⟨cdiv_of (by omega) (by omega), sz (by decide), _, _, rfl, hz6, by omega, by simp, fun y z7 hy hz7 => ?_⟩
                      obtain ⟨yi, rfl, hyi⟩ : ∃ yi : Int, y = .int yi ∧ 1 ≤ yi ∧ yi ≤ 300000000 := by
                        simp at hy
                        rcases hy with rfl | rfl | rfl
                        · exact ⟨3, rfl, by omega⟩
                        · exact ⟨50, rfl, by omega⟩
                        · exact ⟨m0 / 4 + 1, rfl, by omega⟩
                      refine ⟨_, vs.length, yi, rfl, hz7, by omega, hl, hyi, fun many los his z8 ho hz8 => ?_⟩
                      try dsimp only
                      rw [q_seq]
                      simp [-q_seq]
                      have hev := every_good hv hr
                      have hfne := fit_ne hv hr.bar
                      have hfl := fit_len vs b
                      have hm3 : ds.length * (fit vs b).length ≤ 60 * 12 := Nat.mul_le_mul (by omega) (by omega)
                      have hm4 : 1 * 1 ≤ ds.length * (fit vs b).length := Nat.mul_le_mul (by omega) (by omega)
                      refine ⟨_, _, rfl, hz8, by omega, ?_, fun y z9 hy hz9 => ?_⟩
                      · rw [List.length_map, hev.1]
                        omega
                      obtain ⟨pq, hpq, rfl⟩ := List.mem_map.mp hy
                      obtain ⟨g1, g2⟩ := hev.2 pq hpq
                      have g1' := (fit_mem.mp g1).1
                      have hv2 := hv.at0 g1'
                      have hd2 := hr.at0 g2
                      try dsimp only
                      rw [q_seq]
                      simp [-q_seq, atI_int g1', atI_int g2]
                      refine ⟨sz (by decide), _, _, rfl, hz9, by omega, by simp, fun y z10 hy hz10 => ?_⟩
                      obtain ⟨yj, rfl, hyj⟩ : ∃ yi : Int, y = .int yi ∧ 0 ≤ yi ∧ yi ≤ 1 := by
                        simp at hy
                        rcases hy with rfl | rfl
                        · exact ⟨0, rfl, by omega⟩
                        · exact ⟨1, rfl, by omega⟩
                      simp [-q_seq, atI_int g1', atI_int g2]
                      refine ⟨_, _, rfl, hz10, by omega, by omega, fun d6 z11 a6 b6 hz11 => ?_⟩
                      simp
                      refine ⟨sz (by decide), _, _, rfl, hz11, by omega, by omega, fun d7 z12 a7 b7 hz12 => ?_⟩
                      obtain ⟨p7, rfl⟩ : ∃ p : Nat, d7 = p := ⟨d7.toNat, by omega⟩
                      exact ⟨_, vs, ds, s0, b, many, los, his, at0 vs pq.1 + yj, at0 ds pq.2, d6, p7, rfl, hz12, by omega, hv, hr, ho, ⟨by omega, by omega, by omega⟩, by omega, fun zs => h zs⟩
      · have hp' := List.mem_range.mp hp
        simp [hnD p hp']
        by_cases e : heldM vs ds s0 b p = ds.length
        · simpa [e] using hN
        · have e' : ¬ (heldM vs ds s0 b p : Int) = (ds.length : Int) := by omega
          simpa [e, e'] using hN
  · simp
    refine ⟨sz (by rw [hflen]; omega), ?_⟩
    refine compD_fn pD (fun q => if q.1 = p then some (.int 1) else none) ?_ fun q hq acc2 Nx2 hN2 => ?_
    · rw [len_count, (good_s hv hr).cnt p]
      exact ⟨rfl, hN⟩
    · simp
      by_cases e : q.1 = p
      · have e' : (q.1 : Int) = (p : Int) := by omega
        simpa [e, e'] using hN2
      · have e' : ¬ (q.1 : Int) = (p : Int) := by omega
        simpa [e, e'] using hN2
def F_law : FSpec := fun as R => ∃ ns : List Int, as = [lI ns] ∧ ns.length ≤ 63 ∧ R (.bl true)
theorem m_law (as : List D) (R : D → Prop) (h : F_law as R) : w_law F__law_right F__law_pot (PE0 R) (env0 N_law as) := by
  obtain ⟨ns, rfl, hl, h⟩ := h
  rw [e_law]
  unfold w_law
  have hk : ∀ x y : Int, mx x y = x ∨ mx x y = y := fun x y => by unfold mx; split <;> simp
  obtain ⟨k, ek, hk1⟩ : ∃ k : Nat, mx 1 (mn 3 ns.length) = k ∧ k ≤ 3 := ⟨(mx 1 (mn 3 ns.length)).toNat, by unfold mx mn; split <;> split <;> omega, by unfold mx mn; split <;> split <;> omega⟩
  simp [-q_min2, -q_max2, q_mx, q_mn, ek]
  refine ⟨by omega, sz (by omega), ?_⟩
  refine compD_fn (fun i : Nat => D.int (i : Int)) (fun _ => some (.bl true)) ?_ fun p hp acc Nx hN => ?_
  · rw [List.filterMap_eq_map', blsOf_mapf]
    exact bl_of h (by simp)
  · have hp' := List.mem_range.mp hp
    simp
    exact ⟨ns, p, rfl, hl, by omega, fun xs hx => ⟨rfl, hx, fun zs => hN⟩⟩
end S14

namespace S14
open PySem PySem.Spec PyProof.Rows L2 FL
theorem law_start {K : PySem.W.Frag} {H : Hp} {a : Addr} {ns : List Int} {E : XK} (hl : ns.length ≤ 63) (hS : SqL K H a (ns.map V.int)) : spF 1 F_law K [.ref a] H (fun v _ => v = .bl true) E :=
  ⟨H, [lI ns], fun d => d = .bl true, Same.refl H, ⟨V.ref a, [], rfl, ⟨a, ns.map V.int, rfl, hS, sz (by rw [List.length_map]; omega), rps_iff.mpr (pd_map (F := Rp K H) (g := D.int) (k := V.int) (fun _ => rfl) ns)⟩, rfl⟩, rfl, ⟨ns, rfl, hl, rfl⟩, fun d v G' H' nw p e => by
    subst e
    exact p⟩
section
theorem all_mk {l : PySem.W.OpenLaw} {w : World} {K : PySem.W.Frag} {h : Heap} {mg : Str → Option Value} {fa : Addr} (X : K.In h) (G : h.Ns mainGlobals mg) (hfa : mg "law" = some (.ref fa))
    {f0 f1 f2 f3 f4 f5 f6 f7 f8 f9 f10 f11 f12 f13 f14 f15 f16 f17 f18 f19 f20 f21 f22 f23 f24 f25 f26 f27 f28 f29 f30 f31 f32 f33 f34 f35 f36 f37 f38 f39 f40 f41 f42 f43 f44 : Addr}
    {od0 an0 od1 an1 od2 an2 od3 an3 od4 an4 od5 an5 od6 an6 od7 an7 od8 an8 od9 an9 od10 an10 od11 an11 od12 an12 od13 an13 od14 an14 od15 an15 od16 an16 od17 an17 od18 an18 od19 an19 od20 an20 od21 an21 od22 an22 od23 an23 od24 an24 od25 an25 od26 an26 od27 an27 od28 an28 od29 an29 od30 an30 od31 an31 od32 an32 od33 an33 od34 an34 od35 an35 od36 an36 od37 an37 od38 an38 od39 an39 od40 an40 od41 an41 od42 an42 od43 an43 od44 an44 : Option Addr}
    {sl0 sl1 sl2 sl3 sl4 sl5 sl6 sl7 sl8 sl9 sl10 sl11 sl12 sl13 sl14 sl15 sl16 sl17 sl18 sl19 sl20 sl21 sl22 sl23 sl24 sl25 sl26 sl27 sl28 sl29 sl30 sl31 sl32 sl33 sl34 sl35 sl36 sl37 sl38 sl39 sl40 sl41 sl42 sl43 sl44 : Array (Option Value)}
    {oc0 kV0 dc0 pm0 cd0 ct0 oc1 kV1 dc1 pm1 cd1 ct1 oc2 kV2 dc2 pm2 cd2 ct2 oc3 kV3 dc3 pm3 cd3 ct3 oc4 kV4 dc4 pm4 cd4 ct4 oc5 kV5 dc5 pm5 cd5 ct5 oc6 kV6 dc6 pm6 cd6 ct6 oc7 kV7 dc7 pm7 cd7 ct7 oc8 kV8 dc8 pm8 cd8 ct8 oc9 kV9 dc9 pm9 cd9 ct9 oc10 kV10 dc10 pm10 cd10 ct10 oc11 kV11 dc11 pm11 cd11 ct11 oc12 kV12 dc12 pm12 cd12 ct12 oc13 kV13 dc13 pm13 cd13 ct13 oc14 kV14 dc14 pm14 cd14 ct14 oc15 kV15 dc15 pm15 cd15 ct15 oc16 kV16 dc16 pm16 cd16 ct16 oc17 kV17 dc17 pm17 cd17 ct17 oc18 kV18 dc18 pm18 cd18 ct18 oc19 kV19 dc19 pm19 cd19 ct19 oc20 kV20 dc20 pm20 cd20 ct20 oc21 kV21 dc21 pm21 cd21 ct21 oc22 kV22 dc22 pm22 cd22 ct22 oc23 kV23 dc23 pm23 cd23 ct23 oc24 kV24 dc24 pm24 cd24 ct24 oc25 kV25 dc25 pm25 cd25 ct25 oc26 kV26 dc26 pm26 cd26 ct26 oc27 kV27 dc27 pm27 cd27 ct27 oc28 kV28 dc28 pm28 cd28 ct28 oc29 kV29 dc29 pm29 cd29 ct29 oc30 kV30 dc30 pm30 cd30 ct30 oc31 kV31 dc31 pm31 cd31 ct31 oc32 kV32 dc32 pm32 cd32 ct32 oc33 kV33 dc33 pm33 cd33 ct33 oc34 kV34 dc34 pm34 cd34 ct34 oc35 kV35 dc35 pm35 cd35 ct35 oc36 kV36 dc36 pm36 cd36 ct36 oc37 kV37 dc37 pm37 cd37 ct37 oc38 kV38 dc38 pm38 cd38 ct38 oc39 kV39 dc39 pm39 cd39 ct39 oc40 kV40 dc40 pm40 cd40 ct40 oc41 kV41 dc41 pm41 cd41 ct41 oc42 kV42 dc42 pm42 cd42 ct42 oc43 kV43 dc43 pm43 cd43 ct43 oc44 kV44 dc44 pm44 cd44 ct44 : Value}
    {t1 t2 t3 t4 t5 t6 t7 : Tok}
    (a0 : PySem.W.nsIn K mainGlobals "_law_take" = some (some (.ref f0)))
    (l0 : K.lookup f0 = some ⟨oc0, od0, .func (PySem.W.fnOf "_law_take" "_law_take" (defArgs s__law_take) (defBody s__law_take) (defScope s__law_take) .none kV0 dc0 pm0 an0 cd0 ct0), sl0⟩)
    (c0 : PySem.W.codeIn K cd0 "_law_take" = true)
    (k0 : PySem.W.keepIn K (.ref f0) = true)
    (a1 : PySem.W.nsIn K mainGlobals "_law_of" = some (some (.ref f1)))
    (l1 : K.lookup f1 = some ⟨oc1, od1, .func (PySem.W.fnOf "_law_of" "_law_of" (defArgs s__law_of) (defBody s__law_of) (defScope s__law_of) .none kV1 dc1 pm1 an1 cd1 ct1), sl1⟩)
    (c1 : PySem.W.codeIn K cd1 "_law_of" = true)
    (k1 : PySem.W.keepIn K (.ref f1) = true)
    (a2 : PySem.W.nsIn K mainGlobals "_law_votes" = some (some (.ref f2)))
    (l2 : K.lookup f2 = some ⟨oc2, od2, .func (PySem.W.fnOf "_law_votes" "_law_votes" (defArgs s__law_votes) (defBody s__law_votes) (defScope s__law_votes) .none kV2 dc2 pm2 an2 cd2 ct2), sl2⟩)
    (c2 : PySem.W.codeIn K cd2 "_law_votes" = true)
    (k2 : PySem.W.keepIn K (.ref f2) = true)
    (a3 : PySem.W.nsIn K mainGlobals "_law_rule" = some (some (.ref f3)))
    (l3 : K.lookup f3 = some ⟨oc3, od3, .func (PySem.W.fnOf "_law_rule" "_law_rule" (defArgs s__law_rule) (defBody s__law_rule) (defScope s__law_rule) .none kV3 dc3 pm3 an3 cd3 ct3), sl3⟩)
    (c3 : PySem.W.codeIn K cd3 "_law_rule" = true)
    (k3 : PySem.W.keepIn K (.ref f3) = true)
    (a4 : PySem.W.nsIn K mainGlobals "_law_sorted" = some (some (.ref f4)))
    (l4 : K.lookup f4 = some ⟨oc4, od4, .func (PySem.W.fnOf "_law_sorted" "_law_sorted" (defArgs s__law_sorted) (defBody s__law_sorted) (defScope s__law_sorted) .none kV4 dc4 pm4 an4 cd4 ct4), sl4⟩)
    (c4 : PySem.W.codeIn K cd4 "_law_sorted" = true)
    (k4 : PySem.W.keepIn K (.ref f4) = true)
    (a5 : PySem.W.nsIn K mainGlobals "is_integer" = some (some (.ref f5)))
    (l5 : K.lookup f5 = some ⟨oc5, od5, .func (PySem.W.fnOf "is_integer" "is_integer" (defArgs s_is_integer) (defBody s_is_integer) (defScope s_is_integer) .none kV5 dc5 pm5 an5 cd5 ct5), sl5⟩)
    (c5 : PySem.W.codeIn K cd5 "is_integer" = true)
    (k5 : PySem.W.keepIn K (.ref f5) = true)
    (a6 : PySem.W.nsIn K mainGlobals "is_between" = some (some (.ref f6)))
    (l6 : K.lookup f6 = some ⟨oc6, od6, .func (PySem.W.fnOf "is_between" "is_between" (defArgs s_is_between) (defBody s_is_between) (defScope s_is_between) .none kV6 dc6 pm6 an6 cd6 ct6), sl6⟩)
    (c6 : PySem.W.codeIn K cd6 "is_between" = true)
    (k6 : PySem.W.keepIn K (.ref f6) = true)
    (a7 : PySem.W.nsIn K mainGlobals "are_between" = some (some (.ref f7)))
    (l7 : K.lookup f7 = some ⟨oc7, od7, .func (PySem.W.fnOf "are_between" "are_between" (defArgs s_are_between) (defBody s_are_between) (defScope s_are_between) .none kV7 dc7 pm7 an7 cd7 ct7), sl7⟩)
    (c7 : PySem.W.codeIn K cd7 "are_between" = true)
    (k7 : PySem.W.keepIn K (.ref f7) = true)
    (a8 : PySem.W.nsIn K mainGlobals "are_votes" = some (some (.ref f8)))
    (l8 : K.lookup f8 = some ⟨oc8, od8, .func (PySem.W.fnOf "are_votes" "are_votes" (defArgs s_are_votes) (defBody s_are_votes) (defScope s_are_votes) .none kV8 dc8 pm8 an8 cd8 ct8), sl8⟩)
    (c8 : PySem.W.codeIn K cd8 "are_votes" = true)
    (k8 : PySem.W.keepIn K (.ref f8) = true)
    (a9 : PySem.W.nsIn K mainGlobals "check_votes" = some (some (.ref f9)))
    (l9 : K.lookup f9 = some ⟨oc9, od9, .func (PySem.W.fnOf "check_votes" "check_votes" (defArgs s_check_votes) (defBody s_check_votes) (defScope s_check_votes) .none kV9 dc9 pm9 an9 cd9 ct9), sl9⟩)
    (c9 : PySem.W.codeIn K cd9 "check_votes" = true)
    (k9 : PySem.W.keepIn K (.ref f9) = true)
    (a10 : PySem.W.nsIn K mainGlobals "is_ascending" = some (some (.ref f10)))
    (l10 : K.lookup f10 = some ⟨oc10, od10, .func (PySem.W.fnOf "is_ascending" "is_ascending" (defArgs s_is_ascending) (defBody s_is_ascending) (defScope s_is_ascending) .none kV10 dc10 pm10 an10 cd10 ct10), sl10⟩)
    (c10 : PySem.W.codeIn K cd10 "is_ascending" = true)
    (k10 : PySem.W.keepIn K (.ref f10) = true)
    (a11 : PySem.W.nsIn K mainGlobals "are_divisors" = some (some (.ref f11)))
    (l11 : K.lookup f11 = some ⟨oc11, od11, .func (PySem.W.fnOf "are_divisors" "are_divisors" (defArgs s_are_divisors) (defBody s_are_divisors) (defScope s_are_divisors) .none kV11 dc11 pm11 an11 cd11 ct11), sl11⟩)
    (c11 : PySem.W.codeIn K cd11 "are_divisors" = true)
    (k11 : PySem.W.keepIn K (.ref f11) = true)
    (a12 : PySem.W.nsIn K mainGlobals "is_rule" = some (some (.ref f12)))
    (l12 : K.lookup f12 = some ⟨oc12, od12, .func (PySem.W.fnOf "is_rule" "is_rule" (defArgs s_is_rule) (defBody s_is_rule) (defScope s_is_rule) .none kV12 dc12 pm12 an12 cd12 ct12), sl12⟩)
    (c12 : PySem.W.codeIn K cd12 "is_rule" = true)
    (k12 : PySem.W.keepIn K (.ref f12) = true)
    (a13 : PySem.W.nsIn K mainGlobals "check_rule" = some (some (.ref f13)))
    (l13 : K.lookup f13 = some ⟨oc13, od13, .func (PySem.W.fnOf "check_rule" "check_rule" (defArgs s_check_rule) (defBody s_check_rule) (defScope s_check_rule) .none kV13 dc13 pm13 an13 cd13 ct13), sl13⟩)
    (c13 : PySem.W.codeIn K cd13 "check_rule" = true)
    (k13 : PySem.W.keepIn K (.ref f13) = true)
    (a14 : PySem.W.nsIn K mainGlobals "check_two" = some (some (.ref f14)))
    (l14 : K.lookup f14 = some ⟨oc14, od14, .func (PySem.W.fnOf "check_two" "check_two" (defArgs s_check_two) (defBody s_check_two) (defScope s_check_two) .none kV14 dc14 pm14 an14 cd14 ct14), sl14⟩)
    (c14 : PySem.W.codeIn K cd14 "check_two" = true)
    (k14 : PySem.W.keepIn K (.ref f14) = true)
    (a15 : PySem.W.nsIn K mainGlobals "is_below" = some (some (.ref f15)))
    (l15 : K.lookup f15 = some ⟨oc15, od15, .func (PySem.W.fnOf "is_below" "is_below" (defArgs s_is_below) (defBody s_is_below) (defScope s_is_below) .none kV15 dc15 pm15 an15 cd15 ct15), sl15⟩)
    (c15 : PySem.W.codeIn K cd15 "is_below" = true)
    (k15 : PySem.W.keepIn K (.ref f15) = true)
    (a16 : PySem.W.nsIn K mainGlobals "is_ahead" = some (some (.ref f16)))
    (l16 : K.lookup f16 = some ⟨oc16, od16, .func (PySem.W.fnOf "is_ahead" "is_ahead" (defArgs s_is_ahead) (defBody s_is_ahead) (defScope s_is_ahead) .none kV16 dc16 pm16 an16 cd16 ct16), sl16⟩)
    (c16 : PySem.W.codeIn K cd16 "is_ahead" = true)
    (k16 : PySem.W.keepIn K (.ref f16) = true)
    (a17 : PySem.W.nsIn K mainGlobals "dealt" = some (some (.ref f17)))
    (l17 : K.lookup f17 = some ⟨oc17, od17, .func (PySem.W.fnOf "dealt" "dealt" (defArgs s_dealt) (defBody s_dealt) (defScope s_dealt) .none kV17 dc17 pm17 an17 cd17 ct17), sl17⟩)
    (c17 : PySem.W.codeIn K cd17 "dealt" = true)
    (k17 : PySem.W.keepIn K (.ref f17) = true)
    (a18 : PySem.W.nsIn K mainGlobals "seats_of" = some (some (.ref f18)))
    (l18 : K.lookup f18 = some ⟨oc18, od18, .func (PySem.W.fnOf "seats_of" "seats_of" (defArgs s_seats_of) (defBody s_seats_of) (defScope s_seats_of) .none kV18 dc18 pm18 an18 cd18 ct18), sl18⟩)
    (c18 : PySem.W.codeIn K cd18 "seats_of" = true)
    (k18 : PySem.W.keepIn K (.ref f18) = true)
    (a19 : PySem.W.nsIn K mainGlobals "seating" = some (some (.ref f19)))
    (l19 : K.lookup f19 = some ⟨oc19, od19, .func (PySem.W.fnOf "seating" "seating" (defArgs s_seating) (defBody s_seating) (defScope s_seating) .none kV19 dc19 pm19 an19 cd19 ct19), sl19⟩)
    (c19 : PySem.W.codeIn K cd19 "seating" = true)
    (k19 : PySem.W.keepIn K (.ref f19) = true)
    (a20 : PySem.W.nsIn K mainGlobals "sequence" = some (some (.ref f20)))
    (l20 : K.lookup f20 = some ⟨oc20, od20, .func (PySem.W.fnOf "sequence" "sequence" (defArgs s_sequence) (defBody s_sequence) (defScope s_sequence) .none kV20 dc20 pm20 an20 cd20 ct20), sl20⟩)
    (c20 : PySem.W.codeIn K cd20 "sequence" = true)
    (k20 : PySem.W.keepIn K (.ref f20) = true)
    (a21 : PySem.W.nsIn K mainGlobals "next_one" = some (some (.ref f21)))
    (l21 : K.lookup f21 = some ⟨oc21, od21, .func (PySem.W.fnOf "next_one" "next_one" (defArgs s_next_one) (defBody s_next_one) (defScope s_next_one) .none kV21 dc21 pm21 an21 cd21 ct21), sl21⟩)
    (c21 : PySem.W.codeIn K cd21 "next_one" = true)
    (k21 : PySem.W.keepIn K (.ref f21) = true)
    (a22 : PySem.W.nsIn K mainGlobals "least_terms" = some (some (.ref f22)))
    (l22 : K.lookup f22 = some ⟨oc22, od22, .func (PySem.W.fnOf "least_terms" "least_terms" (defArgs s_least_terms) (defBody s_least_terms) (defScope s_least_terms) .none kV22 dc22 pm22 an22 cd22 ct22), sl22⟩)
    (c22 : PySem.W.codeIn K cd22 "least_terms" = true)
    (k22 : PySem.W.keepIn K (.ref f22) = true)
    (a23 : PySem.W.nsIn K mainGlobals "price" = some (some (.ref f23)))
    (l23 : K.lookup f23 = some ⟨oc23, od23, .func (PySem.W.fnOf "price" "price" (defArgs s_price) (defBody s_price) (defScope s_price) .none kV23 dc23 pm23 an23 cd23 ct23), sl23⟩)
    (c23 : PySem.W.codeIn K cd23 "price" = true)
    (k23 : PySem.W.keepIn K (.ref f23) = true)
    (a24 : PySem.W.nsIn K mainGlobals "below" = some (some (.ref f24)))
    (l24 : K.lookup f24 = some ⟨oc24, od24, .func (PySem.W.fnOf "below" "below" (defArgs s_below) (defBody s_below) (defScope s_below) .none kV24 dc24 pm24 an24 cd24 ct24), sl24⟩)
    (c24 : PySem.W.codeIn K cd24 "below" = true)
    (k24 : PySem.W.keepIn K (.ref f24) = true)
    (a25 : PySem.W.nsIn K mainGlobals "with_seats" = some (some (.ref f25)))
    (l25 : K.lookup f25 = some ⟨oc25, od25, .func (PySem.W.fnOf "with_seats" "with_seats" (defArgs s_with_seats) (defBody s_with_seats) (defScope s_with_seats) .none kV25 dc25 pm25 an25 cd25 ct25), sl25⟩)
    (c25 : PySem.W.codeIn K cd25 "with_seats" = true)
    (k25 : PySem.W.keepIn K (.ref f25) = true)
    (a26 : PySem.W.nsIn K mainGlobals "_law_is_more_right" = some (some (.ref f26)))
    (l26 : K.lookup f26 = some ⟨oc26, od26, .func (PySem.W.fnOf "_law_is_more_right" "_law_is_more_right" (defArgs s__law_is_more_right) (defBody s__law_is_more_right) (defScope s__law_is_more_right) .none kV26 dc26 pm26 an26 cd26 ct26), sl26⟩)
    (c26 : PySem.W.codeIn K cd26 "_law_is_more_right" = true)
    (k26 : PySem.W.keepIn K (.ref f26) = true)
    (a27 : PySem.W.nsIn K mainGlobals "_law_out" = some (some (.ref f27)))
    (l27 : K.lookup f27 = some ⟨oc27, od27, .func (PySem.W.fnOf "_law_out" "_law_out" (defArgs s__law_out) (defBody s__law_out) (defScope s__law_out) .none kV27 dc27 pm27 an27 cd27 ct27), sl27⟩)
    (c27 : PySem.W.codeIn K cd27 "_law_out" = true)
    (k27 : PySem.W.keepIn K (.ref f27) = true)
    (a28 : PySem.W.nsIn K mainGlobals "is_out" = some (some (.ref f28)))
    (l28 : K.lookup f28 = some ⟨oc28, od28, .func (PySem.W.fnOf "is_out" "is_out" (defArgs s_is_out) (defBody s_is_out) (defScope s_is_out) .none kV28 dc28 pm28 an28 cd28 ct28), sl28⟩)
    (c28 : PySem.W.codeIn K cd28 "is_out" = true)
    (k28 : PySem.W.keepIn K (.ref f28) = true)
    (a29 : PySem.W.nsIn K mainGlobals "check_out" = some (some (.ref f29)))
    (l29 : K.lookup f29 = some ⟨oc29, od29, .func (PySem.W.fnOf "check_out" "check_out" (defArgs s_check_out) (defBody s_check_out) (defScope s_check_out) .none kV29 dc29 pm29 an29 cd29 ct29), sl29⟩)
    (c29 : PySem.W.codeIn K cd29 "check_out" = true)
    (k29 : PySem.W.keepIn K (.ref f29) = true)
    (a30 : PySem.W.nsIn K mainGlobals "is_mark_of" = some (some (.ref f30)))
    (l30 : K.lookup f30 = some ⟨oc30, od30, .func (PySem.W.fnOf "is_mark_of" "is_mark_of" (defArgs s_is_mark_of) (defBody s_is_mark_of) (defScope s_is_mark_of) .none kV30 dc30 pm30 an30 cd30 ct30), sl30⟩)
    (c30 : PySem.W.codeIn K cd30 "is_mark_of" = true)
    (k30 : PySem.W.keepIn K (.ref f30) = true)
    (a31 : PySem.W.nsIn K mainGlobals "check_party" = some (some (.ref f31)))
    (l31 : K.lookup f31 = some ⟨oc31, od31, .func (PySem.W.fnOf "check_party" "check_party" (defArgs s_check_party) (defBody s_check_party) (defScope s_check_party) .none kV31 dc31 pm31 an31 cd31 ct31), sl31⟩)
    (c31 : PySem.W.codeIn K cd31 "check_party" = true)
    (k31 : PySem.W.keepIn K (.ref f31) = true)
    (a32 : PySem.W.nsIn K mainGlobals "check_asked" = some (some (.ref f32)))
    (l32 : K.lookup f32 = some ⟨oc32, od32, .func (PySem.W.fnOf "check_asked" "check_asked" (defArgs s_check_asked) (defBody s_check_asked) (defScope s_check_asked) .none kV32 dc32 pm32 an32 cd32 ct32), sl32⟩)
    (c32 : PySem.W.codeIn K cd32 "check_asked" = true)
    (k32 : PySem.W.keepIn K (.ref f32) = true)
    (a33 : PySem.W.nsIn K mainGlobals "votes_ahead" = some (some (.ref f33)))
    (l33 : K.lookup f33 = some ⟨oc33, od33, .func (PySem.W.fnOf "votes_ahead" "votes_ahead" (defArgs s_votes_ahead) (defBody s_votes_ahead) (defScope s_votes_ahead) .none kV33 dc33 pm33 an33 cd33 ct33), sl33⟩)
    (c33 : PySem.W.codeIn K cd33 "votes_ahead" = true)
    (k33 : PySem.W.keepIn K (.ref f33) = true)
    (a34 : PySem.W.nsIn K mainGlobals "least_votes" = some (some (.ref f34)))
    (l34 : K.lookup f34 = some ⟨oc34, od34, .func (PySem.W.fnOf "least_votes" "least_votes" (defArgs s_least_votes) (defBody s_least_votes) (defScope s_least_votes) .none kV34 dc34 pm34 an34 cd34 ct34), sl34⟩)
    (c34 : PySem.W.codeIn K cd34 "least_votes" = true)
    (k34 : PySem.W.keepIn K (.ref f34) = true)
    (a35 : PySem.W.nsIn K mainGlobals "needed" = some (some (.ref f35)))
    (l35 : K.lookup f35 = some ⟨oc35, od35, .func (PySem.W.fnOf "needed" "needed" (defArgs s_needed) (defBody s_needed) (defScope s_needed) .none kV35 dc35 pm35 an35 cd35 ct35), sl35⟩)
    (c35 : PySem.W.codeIn K cd35 "needed" = true)
    (k35 : PySem.W.keepIn K (.ref f35) = true)
    (a36 : PySem.W.nsIn K mainGlobals "need" = some (some (.ref f36)))
    (l36 : K.lookup f36 = some ⟨oc36, od36, .func (PySem.W.fnOf "need" "need" (defArgs s_need) (defBody s_need) (defScope s_need) .none kV36 dc36 pm36 an36 cd36 ct36), sl36⟩)
    (c36 : PySem.W.codeIn K cd36 "need" = true)
    (k36 : PySem.W.keepIn K (.ref f36) = true)
    (a37 : PySem.W.nsIn K mainGlobals "capped" = some (some (.ref f37)))
    (l37 : K.lookup f37 = some ⟨oc37, od37, .func (PySem.W.fnOf "capped" "capped" (defArgs s_capped) (defBody s_capped) (defScope s_capped) .none kV37 dc37 pm37 an37 cd37 ct37), sl37⟩)
    (c37 : PySem.W.codeIn K cd37 "capped" = true)
    (k37 : PySem.W.keepIn K (.ref f37) = true)
    (a38 : PySem.W.nsIn K mainGlobals "cap" = some (some (.ref f38)))
    (l38 : K.lookup f38 = some ⟨oc38, od38, .func (PySem.W.fnOf "cap" "cap" (defArgs s_cap) (defBody s_cap) (defScope s_cap) .none kV38 dc38 pm38 an38 cd38 ct38), sl38⟩)
    (c38 : PySem.W.codeIn K cd38 "cap" = true)
    (k38 : PySem.W.keepIn K (.ref f38) = true)
    (a39 : PySem.W.nsIn K mainGlobals "_law_ahead" = some (some (.ref f39)))
    (l39 : K.lookup f39 = some ⟨oc39, od39, .func (PySem.W.fnOf "_law_ahead" "_law_ahead" (defArgs s__law_ahead) (defBody s__law_ahead) (defScope s__law_ahead) .none kV39 dc39 pm39 an39 cd39 ct39), sl39⟩)
    (c39 : PySem.W.codeIn K cd39 "_law_ahead" = true)
    (k39 : PySem.W.keepIn K (.ref f39) = true)
    (a40 : PySem.W.nsIn K mainGlobals "is_mark" = some (some (.ref f40)))
    (l40 : K.lookup f40 = some ⟨oc40, od40, .func (PySem.W.fnOf "is_mark" "is_mark" (defArgs s_is_mark) (defBody s_is_mark) (defScope s_is_mark) .none kV40 dc40 pm40 an40 cd40 ct40), sl40⟩)
    (c40 : PySem.W.codeIn K cd40 "is_mark" = true)
    (k40 : PySem.W.keepIn K (.ref f40) = true)
    (a41 : PySem.W.nsIn K mainGlobals "_law_is_mark_right" = some (some (.ref f41)))
    (l41 : K.lookup f41 = some ⟨oc41, od41, .func (PySem.W.fnOf "_law_is_mark_right" "_law_is_mark_right" (defArgs s__law_is_mark_right) (defBody s__law_is_mark_right) (defScope s__law_is_mark_right) .none kV41 dc41 pm41 an41 cd41 ct41), sl41⟩)
    (c41 : PySem.W.codeIn K cd41 "_law_is_mark_right" = true)
    (k41 : PySem.W.keepIn K (.ref f41) = true)
    (a42 : PySem.W.nsIn K mainGlobals "_law_right" = some (some (.ref f42)))
    (l42 : K.lookup f42 = some ⟨oc42, od42, .func (PySem.W.fnOf "_law_right" "_law_right" (defArgs s__law_right) (defBody s__law_right) (defScope s__law_right) .none kV42 dc42 pm42 an42 cd42 ct42), sl42⟩)
    (c42 : PySem.W.codeIn K cd42 "_law_right" = true)
    (k42 : PySem.W.keepIn K (.ref f42) = true)
    (a43 : PySem.W.nsIn K mainGlobals "_law_pot" = some (some (.ref f43)))
    (l43 : K.lookup f43 = some ⟨oc43, od43, .func (PySem.W.fnOf "_law_pot" "_law_pot" (defArgs s__law_pot) (defBody s__law_pot) (defScope s__law_pot) .none kV43 dc43 pm43 an43 cd43 ct43), sl43⟩)
    (c43 : PySem.W.codeIn K cd43 "_law_pot" = true)
    (k43 : PySem.W.keepIn K (.ref f43) = true)
    (a44 : PySem.W.nsIn K mainGlobals "law" = some (some (.ref f44)))
    (l44 : K.lookup f44 = some ⟨oc44, od44, .func (PySem.W.fnOf "law" "law" (defArgs s_law) (defBody s_law) (defScope s_law) .none kV44 dc44 pm44 an44 cd44 ct44), sl44⟩)
    (c44 : PySem.W.codeIn K cd44 "law" = true)
    (k44 : PySem.W.keepIn K (.ref f44) = true)
    (zz0 : PySem.W.nsIn K mainGlobals "gcd" = some (some (.builtin "math.gcd")))
    (zz1 : PySem.W.nsIn K mainGlobals "HUNDRED" = some (some (.int 100 t1)))
    (zz2 : PySem.W.nsIn K mainGlobals "MOST_DIVISOR" = some (some (.int 1000000 t2)))
    (zz3 : PySem.W.nsIn K mainGlobals "MOST_PARTIES" = some (some (.int 12 t3)))
    (zz4 : PySem.W.nsIn K mainGlobals "MOST_SEATS" = some (some (.int 60 t4)))
    (zz5 : PySem.W.nsIn K mainGlobals "MOST_VOTES" = some (some (.int 1000000000 t5)))
    (zz6 : PySem.W.nsIn K mainGlobals "THREE_counts" = some (some (.int 3 t6)))
    (zz7 : PySem.W.nsIn K mainGlobals "THREE_marks" = some (some (.int 3 t7)))
    (zz8 : PySem.W.nsIn K mainGlobals "abs" = some none)
    (zz9 : PySem.W.nsIn K mainGlobals "all" = some none)
    (zz10 : PySem.W.nsIn K mainGlobals "any" = some none)
    (zz11 : PySem.W.nsIn K mainGlobals "bool" = some none)
    (zz12 : PySem.W.nsIn K mainGlobals "dict" = some none)
    (zz13 : PySem.W.nsIn K mainGlobals "int" = some none)
    (zz14 : PySem.W.nsIn K mainGlobals "isinstance" = some none)
    (zz15 : PySem.W.nsIn K mainGlobals "len" = some none)
    (zz16 : PySem.W.nsIn K mainGlobals "list" = some none)
    (zz17 : PySem.W.nsIn K mainGlobals "max" = some none)
    (zz18 : PySem.W.nsIn K mainGlobals "min" = some none)
    (zz19 : PySem.W.nsIn K mainGlobals "range" = some none)
    (zz20 : PySem.W.nsIn K mainGlobals "sum" = some none)
    (zz21 : PySem.W.nsIn K mainGlobals "tuple" = some none)
    (zz22 : PySem.W.nsIn K mainGlobals "zip" = some none)
    : ∃ fd : FuncData, (∀ (s : Shared) (v : Value), BindsTo s fd ⟨[v], []⟩ [("script", v)]) ∧ ∀ base : Heap, K.In base → base.Ns mainGlobals mg → FnOk l.prog w K mg base CX0 11 fa fd ["script"] (spF 1 F_law K) := by
  have e := hfa.symm.trans (PySem.W.mg_of X G a44)
  cases e
  have gl : Glb mg := ⟨PySem.W.mg_of X G zz0, ⟨_, PySem.W.mg_of X G zz1⟩, ⟨_, PySem.W.mg_of X G zz2⟩, ⟨_, PySem.W.mg_of X G zz3⟩, ⟨_, PySem.W.mg_of X G zz4⟩, ⟨_, PySem.W.mg_of X G zz5⟩, ⟨_, PySem.W.mg_of X G zz6⟩, ⟨_, PySem.W.mg_of X G zz7⟩, PySem.W.mg_none_of X G zz8, PySem.W.mg_none_of X G zz9, PySem.W.mg_none_of X G zz10, PySem.W.mg_none_of X G zz11, PySem.W.mg_none_of X G zz12, PySem.W.mg_none_of X G zz13, PySem.W.mg_none_of X G zz14, PySem.W.mg_none_of X G zz15, PySem.W.mg_none_of X G zz16, PySem.W.mg_none_of X G zz17, PySem.W.mg_none_of X G zz18, PySem.W.mg_none_of X G zz19, PySem.W.mg_none_of X G zz20, PySem.W.mg_none_of X G zz21, PySem.W.mg_none_of X G zz22⟩
  have F0 := fun_mk (st := s__law_take) l0 c0 k0
  have D__law_take : DefOk K mg "_law_take" s__law_take p__law_take := ⟨f0, _, F0, PySem.W.mg_of X G a0, F0.binds (ps := p__law_take) fun _ _ _ _ _ _ us hl => match us, hl with | [_, _], _ => rfl⟩
  have F1 := fun_mk (st := s__law_of) l1 c1 k1
  have D__law_of : DefOk K mg "_law_of" s__law_of p__law_of := ⟨f1, _, F1, PySem.W.mg_of X G a1, F1.binds (ps := p__law_of) fun _ _ _ _ _ _ us hl => match us, hl with | [_, _], _ => rfl⟩
  have F2 := fun_mk (st := s__law_votes) l2 c2 k2
  have D__law_votes : DefOk K mg "_law_votes" s__law_votes p__law_votes := ⟨f2, _, F2, PySem.W.mg_of X G a2, F2.binds (ps := p__law_votes) fun _ _ _ _ _ _ us hl => match us, hl with | [_, _], _ => rfl⟩
  have F3 := fun_mk (st := s__law_rule) l3 c3 k3
  have D__law_rule : DefOk K mg "_law_rule" s__law_rule p__law_rule := ⟨f3, _, F3, PySem.W.mg_of X G a3, F3.binds (ps := p__law_rule) fun _ _ _ _ _ _ us hl => match us, hl with | [_, _, _], _ => rfl⟩
  have F4 := fun_mk (st := s__law_sorted) l4 c4 k4
  have D__law_sorted : DefOk K mg "_law_sorted" s__law_sorted p__law_sorted := ⟨f4, _, F4, PySem.W.mg_of X G a4, F4.binds (ps := p__law_sorted) fun _ _ _ _ _ _ us hl => match us, hl with | [_, _], _ => rfl⟩
  have F5 := fun_mk (st := s_is_integer) l5 c5 k5
  have D_is_integer : DefOk K mg "is_integer" s_is_integer p_is_integer := ⟨f5, _, F5, PySem.W.mg_of X G a5, F5.binds (ps := p_is_integer) fun _ _ _ _ _ _ us hl => match us, hl with | [_], _ => rfl⟩
  have F6 := fun_mk (st := s_is_between) l6 c6 k6
  have D_is_between : DefOk K mg "is_between" s_is_between p_is_between := ⟨f6, _, F6, PySem.W.mg_of X G a6, F6.binds (ps := p_is_between) fun _ _ _ _ _ _ us hl => match us, hl with | [_, _, _], _ => rfl⟩
  have F7 := fun_mk (st := s_are_between) l7 c7 k7
  have D_are_between : DefOk K mg "are_between" s_are_between p_are_between := ⟨f7, _, F7, PySem.W.mg_of X G a7, F7.binds (ps := p_are_between) fun _ _ _ _ _ _ us hl => match us, hl with | [_, _, _], _ => rfl⟩
  have F8 := fun_mk (st := s_are_votes) l8 c8 k8
  have D_are_votes : DefOk K mg "are_votes" s_are_votes p_are_votes := ⟨f8, _, F8, PySem.W.mg_of X G a8, F8.binds (ps := p_are_votes) fun _ _ _ _ _ _ us hl => match us, hl with | [_], _ => rfl⟩
  have F9 := fun_mk (st := s_check_votes) l9 c9 k9
  have D_check_votes : DefOk K mg "check_votes" s_check_votes p_check_votes := ⟨f9, _, F9, PySem.W.mg_of X G a9, F9.binds (ps := p_check_votes) fun _ _ _ _ _ _ us hl => match us, hl with | [_], _ => rfl⟩
  have F10 := fun_mk (st := s_is_ascending) l10 c10 k10
  have D_is_ascending : DefOk K mg "is_ascending" s_is_ascending p_is_ascending := ⟨f10, _, F10, PySem.W.mg_of X G a10, F10.binds (ps := p_is_ascending) fun _ _ _ _ _ _ us hl => match us, hl with | [_], _ => rfl⟩
  have F11 := fun_mk (st := s_are_divisors) l11 c11 k11
  have D_are_divisors : DefOk K mg "are_divisors" s_are_divisors p_are_divisors := ⟨f11, _, F11, PySem.W.mg_of X G a11, F11.binds (ps := p_are_divisors) fun _ _ _ _ _ _ us hl => match us, hl with | [_], _ => rfl⟩
  have F12 := fun_mk (st := s_is_rule) l12 c12 k12
  have D_is_rule : DefOk K mg "is_rule" s_is_rule p_is_rule := ⟨f12, _, F12, PySem.W.mg_of X G a12, F12.binds (ps := p_is_rule) fun _ _ _ _ _ _ us hl => match us, hl with | [_, _], _ => rfl⟩
  have F13 := fun_mk (st := s_check_rule) l13 c13 k13
  have D_check_rule : DefOk K mg "check_rule" s_check_rule p_check_rule := ⟨f13, _, F13, PySem.W.mg_of X G a13, F13.binds (ps := p_check_rule) fun _ _ _ _ _ _ us hl => match us, hl with | [_, _], _ => rfl⟩
  have F14 := fun_mk (st := s_check_two) l14 c14 k14
  have D_check_two : DefOk K mg "check_two" s_check_two p_check_two := ⟨f14, _, F14, PySem.W.mg_of X G a14, F14.binds (ps := p_check_two) fun _ _ _ _ _ _ us hl => match us, hl with | [_, _], _ => rfl⟩
  have F15 := fun_mk (st := s_is_below) l15 c15 k15
  have D_is_below : DefOk K mg "is_below" s_is_below p_is_below := ⟨f15, _, F15, PySem.W.mg_of X G a15, F15.binds (ps := p_is_below) fun _ _ _ _ _ _ us hl => match us, hl with | [_, _, _], _ => rfl⟩
  have F16 := fun_mk (st := s_is_ahead) l16 c16 k16
  have D_is_ahead : DefOk K mg "is_ahead" s_is_ahead p_is_ahead := ⟨f16, _, F16, PySem.W.mg_of X G a16, F16.binds (ps := p_is_ahead) fun _ _ _ _ _ _ us hl => match us, hl with | [_, _, _, _], _ => rfl⟩
  have F17 := fun_mk (st := s_dealt) l17 c17 k17
  have D_dealt : DefOk K mg "dealt" s_dealt p_dealt := ⟨f17, _, F17, PySem.W.mg_of X G a17, F17.binds (ps := p_dealt) fun _ _ _ _ _ _ us hl => match us, hl with | [_, _], _ => rfl⟩
  have F18 := fun_mk (st := s_seats_of) l18 c18 k18
  have D_seats_of : DefOk K mg "seats_of" s_seats_of p_seats_of := ⟨f18, _, F18, PySem.W.mg_of X G a18, F18.binds (ps := p_seats_of) fun _ _ _ _ _ _ us hl => match us, hl with | [_, _], _ => rfl⟩
  have F19 := fun_mk (st := s_seating) l19 c19 k19
  have D_seating : DefOk K mg "seating" s_seating p_seating := ⟨f19, _, F19, PySem.W.mg_of X G a19, F19.binds (ps := p_seating) fun _ _ _ _ _ _ us hl => match us, hl with | [_, _], _ => rfl⟩
  have F20 := fun_mk (st := s_sequence) l20 c20 k20
  have D_sequence : DefOk K mg "sequence" s_sequence p_sequence := ⟨f20, _, F20, PySem.W.mg_of X G a20, F20.binds (ps := p_sequence) fun _ _ _ _ _ _ us hl => match us, hl with | [_, _], _ => rfl⟩
  have F21 := fun_mk (st := s_next_one) l21 c21 k21
  have D_next_one : DefOk K mg "next_one" s_next_one p_next_one := ⟨f21, _, F21, PySem.W.mg_of X G a21, F21.binds (ps := p_next_one) fun _ _ _ _ _ _ us hl => match us, hl with | [_, _], _ => rfl⟩
  have F22 := fun_mk (st := s_least_terms) l22 c22 k22
  have D_least_terms : DefOk K mg "least_terms" s_least_terms p_least_terms := ⟨f22, _, F22, PySem.W.mg_of X G a22, F22.binds (ps := p_least_terms) fun _ _ _ _ _ _ us hl => match us, hl with | [_, _], _ => rfl⟩
  have F23 := fun_mk (st := s_price) l23 c23 k23
  have D_price : DefOk K mg "price" s_price p_price := ⟨f23, _, F23, PySem.W.mg_of X G a23, F23.binds (ps := p_price) fun _ _ _ _ _ _ us hl => match us, hl with | [_, _], _ => rfl⟩
  have F24 := fun_mk (st := s_below) l24 c24 k24
  have D_below : DefOk K mg "below" s_below p_below := ⟨f24, _, F24, PySem.W.mg_of X G a24, F24.binds (ps := p_below) fun _ _ _ _ _ _ us hl => match us, hl with | [_, _], _ => rfl⟩
  have F25 := fun_mk (st := s_with_seats) l25 c25 k25
  have D_with_seats : DefOk K mg "with_seats" s_with_seats p_with_seats := ⟨f25, _, F25, PySem.W.mg_of X G a25, F25.binds (ps := p_with_seats) fun _ _ _ _ _ _ us hl => match us, hl with | [_, _], _ => rfl⟩
  have F26 := fun_mk (st := s__law_is_more_right) l26 c26 k26
  have D__law_is_more_right : DefOk K mg "_law_is_more_right" s__law_is_more_right p__law_is_more_right := ⟨f26, _, F26, PySem.W.mg_of X G a26, F26.binds (ps := p__law_is_more_right) fun _ _ _ _ _ _ us hl => match us, hl with | [_, _, _, _], _ => rfl⟩
  have F27 := fun_mk (st := s__law_out) l27 c27 k27
  have D__law_out : DefOk K mg "_law_out" s__law_out p__law_out := ⟨f27, _, F27, PySem.W.mg_of X G a27, F27.binds (ps := p__law_out) fun _ _ _ _ _ _ us hl => match us, hl with | [_, _, _], _ => rfl⟩
  have F28 := fun_mk (st := s_is_out) l28 c28 k28
  have D_is_out : DefOk K mg "is_out" s_is_out p_is_out := ⟨f28, _, F28, PySem.W.mg_of X G a28, F28.binds (ps := p_is_out) fun _ _ _ _ _ _ us hl => match us, hl with | [_], _ => rfl⟩
  have F29 := fun_mk (st := s_check_out) l29 c29 k29
  have D_check_out : DefOk K mg "check_out" s_check_out p_check_out := ⟨f29, _, F29, PySem.W.mg_of X G a29, F29.binds (ps := p_check_out) fun _ _ _ _ _ _ us hl => match us, hl with | [_, _], _ => rfl⟩
  have F30 := fun_mk (st := s_is_mark_of) l30 c30 k30
  have D_is_mark_of : DefOk K mg "is_mark_of" s_is_mark_of p_is_mark_of := ⟨f30, _, F30, PySem.W.mg_of X G a30, F30.binds (ps := p_is_mark_of) fun _ _ _ _ _ _ us hl => match us, hl with | [_, _], _ => rfl⟩
  have F31 := fun_mk (st := s_check_party) l31 c31 k31
  have D_check_party : DefOk K mg "check_party" s_check_party p_check_party := ⟨f31, _, F31, PySem.W.mg_of X G a31, F31.binds (ps := p_check_party) fun _ _ _ _ _ _ us hl => match us, hl with | [_, _], _ => rfl⟩
  have F32 := fun_mk (st := s_check_asked) l32 c32 k32
  have D_check_asked : DefOk K mg "check_asked" s_check_asked p_check_asked := ⟨f32, _, F32, PySem.W.mg_of X G a32, F32.binds (ps := p_check_asked) fun _ _ _ _ _ _ us hl => match us, hl with | [_, _, _, _, _, _], _ => rfl⟩
  have F33 := fun_mk (st := s_votes_ahead) l33 c33 k33
  have D_votes_ahead : DefOk K mg "votes_ahead" s_votes_ahead p_votes_ahead := ⟨f33, _, F33, PySem.W.mg_of X G a33, F33.binds (ps := p_votes_ahead) fun _ _ _ _ _ _ us hl => match us, hl with | [_, _, _], _ => rfl⟩
  have F34 := fun_mk (st := s_least_votes) l34 c34 k34
  have D_least_votes : DefOk K mg "least_votes" s_least_votes p_least_votes := ⟨f34, _, F34, PySem.W.mg_of X G a34, F34.binds (ps := p_least_votes) fun _ _ _ _ _ _ us hl => match us, hl with | [_, _, _], _ => rfl⟩
  have F35 := fun_mk (st := s_needed) l35 c35 k35
  have D_needed : DefOk K mg "needed" s_needed p_needed := ⟨f35, _, F35, PySem.W.mg_of X G a35, F35.binds (ps := p_needed) fun _ _ _ _ _ _ us hl => match us, hl with | [_, _, _, _, _, _], _ => rfl⟩
  have F36 := fun_mk (st := s_need) l36 c36 k36
  have D_need : DefOk K mg "need" s_need p_need := ⟨f36, _, F36, PySem.W.mg_of X G a36, F36.binds (ps := p_need) fun _ _ _ _ _ _ us hl => match us, hl with | [_, _, _, _, _, _], _ => rfl⟩
  have F37 := fun_mk (st := s_capped) l37 c37 k37
  have D_capped : DefOk K mg "capped" s_capped p_capped := ⟨f37, _, F37, PySem.W.mg_of X G a37, F37.binds (ps := p_capped) fun _ _ _ _ _ _ us hl => match us, hl with | [_, _, _, _, _, _], _ => rfl⟩
  have F38 := fun_mk (st := s_cap) l38 c38 k38
  have D_cap : DefOk K mg "cap" s_cap p_cap := ⟨f38, _, F38, PySem.W.mg_of X G a38, F38.binds (ps := p_cap) fun _ _ _ _ _ _ us hl => match us, hl with | [_, _, _, _, _, _], _ => rfl⟩
  have F39 := fun_mk (st := s__law_ahead) l39 c39 k39
  have D__law_ahead : DefOk K mg "_law_ahead" s__law_ahead p__law_ahead := ⟨f39, _, F39, PySem.W.mg_of X G a39, F39.binds (ps := p__law_ahead) fun _ _ _ _ _ _ us hl => match us, hl with | [_, _, _, _], _ => rfl⟩
  have F40 := fun_mk (st := s_is_mark) l40 c40 k40
  have D_is_mark : DefOk K mg "is_mark" s_is_mark p_is_mark := ⟨f40, _, F40, PySem.W.mg_of X G a40, F40.binds (ps := p_is_mark) fun _ _ _ _ _ _ us hl => match us, hl with | [_, _], _ => rfl⟩
  have F41 := fun_mk (st := s__law_is_mark_right) l41 c41 k41
  have D__law_is_mark_right : DefOk K mg "_law_is_mark_right" s__law_is_mark_right p__law_is_mark_right := ⟨f41, _, F41, PySem.W.mg_of X G a41, F41.binds (ps := p__law_is_mark_right) fun _ _ _ _ _ _ us hl => match us, hl with | [_, _, _, _, _, _], _ => rfl⟩
  have F42 := fun_mk (st := s__law_right) l42 c42 k42
  have D__law_right : DefOk K mg "_law_right" s__law_right p__law_right := ⟨f42, _, F42, PySem.W.mg_of X G a42, F42.binds (ps := p__law_right) fun _ _ _ _ _ _ us hl => match us, hl with | [_], _ => rfl⟩
  have F43 := fun_mk (st := s__law_pot) l43 c43 k43
  have D__law_pot : DefOk K mg "_law_pot" s__law_pot p__law_pot := ⟨f43, _, F43, PySem.W.mg_of X G a43, F43.binds (ps := p__law_pot) fun _ _ _ _ _ _ us hl => match us, hl with | [_, _], _ => rfl⟩
  have F44 := fun_mk (st := s_law) l44 c44 k44
  refine ⟨PySem.W.fnOf "law" "law" (defArgs s_law) (defBody s_law) (defScope s_law) .none kV44 dc44 pm44 an44 cd44 ct44, fun s v => .of_eq rfl, fun base _ _ => ?_⟩
  have c__law_take := cal__law_take (P := l.prog) (w := w) (base := base) D__law_take gl fun ys as R _ hF => m__law_take ys as R hF
  have c__law_of := cal__law_of (P := l.prog) (w := w) (base := base) D__law_of gl c__law_take fun ys as R _ hF => m__law_of ys as R hF
  have c__law_votes := cal__law_votes (P := l.prog) (w := w) (base := base) D__law_votes gl c__law_of c__law_take fun ys as R _ hF => m__law_votes ys as R hF
  have c__law_rule := cal__law_rule (P := l.prog) (w := w) (base := base) D__law_rule gl c__law_take c__law_of fun ys as R _ hF => m__law_rule ys as R hF
  have c__law_sorted := cal__law_sorted (P := l.prog) (w := w) (base := base) D__law_sorted gl fun as R _ hF => m__law_sorted as R hF
  have c_is_integer := cal_is_integer (P := l.prog) (w := w) (base := base) D_is_integer gl fun as R _ hF => m_is_integer as R hF
  have c_is_between := cal_is_between (P := l.prog) (w := w) (base := base) D_is_between gl c_is_integer fun as R _ hF => m_is_between as R hF
  have c_are_between := cal_are_between (P := l.prog) (w := w) (base := base) D_are_between gl c_is_between fun as R _ hF => m_are_between as R hF
  have c_are_votes := cal_are_votes (P := l.prog) (w := w) (base := base) D_are_votes gl c_are_between fun as R _ hF => m_are_votes as R hF
  have c_check_votes := cal_check_votes (P := l.prog) (w := w) (base := base) D_check_votes gl c_are_votes fun as R _ hF => m_check_votes as R hF
  have c_is_ascending := cal_is_ascending (P := l.prog) (w := w) (base := base) D_is_ascending gl fun as R _ hF => m_is_ascending as R hF
  have c_are_divisors := cal_are_divisors (P := l.prog) (w := w) (base := base) D_are_divisors gl c_are_between c_is_ascending fun as R _ hF => m_are_divisors as R hF
  have c_is_rule := cal_is_rule (P := l.prog) (w := w) (base := base) D_is_rule gl c_are_divisors c_is_between fun as R _ hF => m_is_rule as R hF
  have c_check_rule := cal_check_rule (P := l.prog) (w := w) (base := base) D_check_rule gl c_is_rule fun as R _ hF => m_check_rule as R hF
  have c_check_two := cal_check_two (P := l.prog) (w := w) (base := base) D_check_two gl c_check_votes c_check_rule fun as R _ hF => m_check_two as R hF
  have c_is_below := cal_is_below (P := l.prog) (w := w) (base := base) D_is_below gl fun as R _ hF => m_is_below as R hF
  have c_is_ahead := cal_is_ahead (P := l.prog) (w := w) (base := base) D_is_ahead gl fun as R _ hF => m_is_ahead as R hF
  have c_dealt := cal_dealt (P := l.prog) (w := w) (base := base) D_dealt gl c_is_below c_is_ahead fun as R _ hF => m_dealt as R hF
  have c_seats_of := cal_seats_of (P := l.prog) (w := w) (base := base) D_seats_of gl c_dealt fun as R _ hF => m_seats_of as R hF
  have c_seating := cal_seating (P := l.prog) (w := w) (base := base) D_seating gl c_check_two c_seats_of fun as R _ hF => m_seating as R hF
  have c_sequence := cal_sequence (P := l.prog) (w := w) (base := base) D_sequence gl c_check_two c_dealt fun as R _ hF => m_sequence as R hF
  have c_next_one := cal_next_one (P := l.prog) (w := w) (base := base) D_next_one gl c_check_two c_dealt c_is_below c_is_ahead fun as R _ hF => m_next_one as R hF
  have c_least_terms := cal_least_terms (P := l.prog) (w := w) (base := base) D_least_terms gl fun as R _ hF => m_least_terms as R hF
  have c_price := cal_price (P := l.prog) (w := w) (base := base) D_price gl c_check_two c_dealt c_least_terms fun as R _ hF => m_price as R hF
  have c_below := cal_below (P := l.prog) (w := w) (base := base) D_below gl c_check_two c_is_below fun as R _ hF => m_below as R hF
  have c_with_seats := cal_with_seats (P := l.prog) (w := w) (base := base) D_with_seats gl c_check_rule c_is_between fun as R _ hF => m_with_seats as R hF
  have c__law_is_more_right := cal__law_is_more_right (P := l.prog) (w := w) (base := base) D__law_is_more_right gl c__law_take c_seating fun ys as R _ hF => m__law_is_more_right ys as R hF
  have c__law_out := cal__law_out (P := l.prog) (w := w) (base := base) D__law_out gl c__law_of c__law_take fun ys as R _ hF => m__law_out ys as R hF
  have c_is_out := cal_is_out (P := l.prog) (w := w) (base := base) D_is_out gl c_is_between c_are_between fun as R _ hF => m_is_out as R hF
  have c_check_out := cal_check_out (P := l.prog) (w := w) (base := base) D_check_out gl c_is_out fun as R _ hF => m_check_out as R hF
  have c_is_mark_of := cal_is_mark_of (P := l.prog) (w := w) (base := base) D_is_mark_of gl c_is_integer fun as R _ hF => m_is_mark_of as R hF
  have c_check_party := cal_check_party (P := l.prog) (w := w) (base := base) D_check_party gl c_is_between fun as R _ hF => m_check_party as R hF
  have c_check_asked := cal_check_asked (P := l.prog) (w := w) (base := base) D_check_asked gl c_check_votes c_check_rule c_check_out c_is_mark_of c_check_party c_is_between fun as R _ hF => m_check_asked as R hF
  have c_votes_ahead := cal_votes_ahead (P := l.prog) (w := w) (base := base) D_votes_ahead gl fun as R _ hF => m_votes_ahead as R hF
  have c_least_votes := cal_least_votes (P := l.prog) (w := w) (base := base) D_least_votes gl fun as R _ hF => m_least_votes as R hF
  have c_needed := cal_needed (P := l.prog) (w := w) (base := base) D_needed gl c_votes_ahead c_least_votes fun as R _ hF => m_needed as R hF
  have c_need := cal_need (P := l.prog) (w := w) (base := base) D_need gl c_check_asked c_needed fun as R _ hF => m_need as R hF
  have c_capped := cal_capped (P := l.prog) (w := w) (base := base) D_capped gl c_votes_ahead c_least_votes fun as R _ hF => m_capped as R hF
  have c_cap := cal_cap (P := l.prog) (w := w) (base := base) D_cap gl c_check_asked c_capped fun as R _ hF => m_cap as R hF
  have c__law_ahead := cal__law_ahead (P := l.prog) (w := w) (base := base) D__law_ahead gl fun as R _ hF => m__law_ahead as R hF
  have c_is_mark := cal_is_mark (P := l.prog) (w := w) (base := base) D_is_mark gl c_check_votes c_is_mark_of fun as R _ hF => m_is_mark as R hF
  have c__law_is_mark_right := cal__law_is_mark_right (P := l.prog) (w := w) (base := base) D__law_is_mark_right gl c__law_take c_need c_cap c__law_ahead c_is_mark fun ys as R _ hF => m__law_is_mark_right ys as R hF
  have c__law_right := cal__law_right (P := l.prog) (w := w) (base := base) D__law_right gl c__law_take c__law_votes c__law_rule c__law_sorted c_seating c_sequence c_next_one c_price c_below c_with_seats c__law_is_more_right c__law_out c__law_of c__law_is_mark_right fun ys as R _ hF => m__law_right ys as R hF
  have c__law_pot := cal__law_pot (P := l.prog) (w := w) (base := base) D__law_pot gl fun as R _ hF => m__law_pot as R hF
  exact fn_pure F44 sc_law (fun cdv A outer s H E hr => b_law gl c__law_right c__law_pot cdv A outer s H E hr) fun as R _ hF => m_law as R hF
end
end S14
open PySem PySem.W PyProof.Rows
set_option maxHeartbeats 0 in
theorem PySem.Challenge.cw_seatssure_k14_whole_seatings_of_twelve_p_holds : PySem.Challenge.rw_seatssure_k14_whole_seatings_of_twelve_p.Holds := by
  w_on; o_law; k_head; (case hw => w_witness2)
  k_fill
  refine L2.walk_of (l := PySem.Challenge.rw_seatssure_k14_whole_seatings_of_twelve_p) (n := 63) (k := 11) (x := "script") (CX := fun _ => L2.CX0) (sp := fun w => FL.spF 1 S14.F_law _) rfl (by decide) rfl ⟨rfl, by decide, by decide⟩ (fun w h Y => PySem.W.kIn_of Y) ?F (fun w H a ns hl hO hS => S14.law_start hl hS) (fun _ _ _ _ _ h => h)
  case F =>
    intro w mg fa h KX G hmg
    refine' S14.all_mk KX G hmg ?qa0 ?ql0 ?qc0 ?qk0 ?qa1 ?ql1 ?qc1 ?qk1 ?qa2 ?ql2 ?qc2 ?qk2 ?qa3 ?ql3 ?qc3 ?qk3 ?qa4 ?ql4 ?qc4 ?qk4 ?qa5 ?ql5 ?qc5 ?qk5 ?qa6 ?ql6 ?qc6 ?qk6 ?qa7 ?ql7 ?qc7 ?qk7 ?qa8 ?ql8 ?qc8 ?qk8 ?qa9 ?ql9 ?qc9 ?qk9 ?qa10 ?ql10 ?qc10 ?qk10 ?qa11 ?ql11 ?qc11 ?qk11 ?qa12 ?ql12 ?qc12 ?qk12 ?qa13 ?ql13 ?qc13 ?qk13 ?qa14 ?ql14 ?qc14 ?qk14 ?qa15 ?ql15 ?qc15 ?qk15 ?qa16 ?ql16 ?qc16 ?qk16 ?qa17 ?ql17 ?qc17 ?qk17 ?qa18 ?ql18 ?qc18 ?qk18 ?qa19 ?ql19 ?qc19 ?qk19 ?qa20 ?ql20 ?qc20 ?qk20 ?qa21 ?ql21 ?qc21 ?qk21 ?qa22 ?ql22 ?qc22 ?qk22 ?qa23 ?ql23 ?qc23 ?qk23 ?qa24 ?ql24 ?qc24 ?qk24 ?qa25 ?ql25 ?qc25 ?qk25 ?qa26 ?ql26 ?qc26 ?qk26 ?qa27 ?ql27 ?qc27 ?qk27 ?qa28 ?ql28 ?qc28 ?qk28 ?qa29 ?ql29 ?qc29 ?qk29 ?qa30 ?ql30 ?qc30 ?qk30 ?qa31 ?ql31 ?qc31 ?qk31 ?qa32 ?ql32 ?qc32 ?qk32 ?qa33 ?ql33 ?qc33 ?qk33 ?qa34 ?ql34 ?qc34 ?qk34 ?qa35 ?ql35 ?qc35 ?qk35 ?qa36 ?ql36 ?qc36 ?qk36 ?qa37 ?ql37 ?qc37 ?qk37 ?qa38 ?ql38 ?qc38 ?qk38 ?qa39 ?ql39 ?qc39 ?qk39 ?qa40 ?ql40 ?qc40 ?qk40 ?qa41 ?ql41 ?qc41 ?qk41 ?qa42 ?ql42 ?qc42 ?qk42 ?qa43 ?ql43 ?qc43 ?qk43 ?qa44 ?ql44 ?qc44 ?qk44 ?zz0 ?zz1 ?zz2 ?zz3 ?zz4 ?zz5 ?zz6 ?zz7 ?zz8 ?zz9 ?zz10 ?zz11 ?zz12 ?zz13 ?zz14 ?zz15 ?zz16 ?zz17 ?zz18 ?zz19 ?zz20 ?zz21 ?zz22
    (case qa0 => k_is); (case ql0 => k_is); (case qc0 => k_is); (case qk0 => k_is); (case qa1 => k_is); (case ql1 => k_is); (case qc1 => k_is); (case qk1 => k_is)
    (case qa2 => k_is); (case ql2 => k_is); (case qc2 => k_is); (case qk2 => k_is); (case qa3 => k_is); (case ql3 => k_is); (case qc3 => k_is); (case qk3 => k_is)
    (case qa4 => k_is); (case ql4 => k_is); (case qc4 => k_is); (case qk4 => k_is); (case qa5 => k_is); (case ql5 => k_is); (case qc5 => k_is); (case qk5 => k_is)
    (case qa6 => k_is); (case ql6 => k_is); (case qc6 => k_is); (case qk6 => k_is); (case qa7 => k_is); (case ql7 => k_is); (case qc7 => k_is); (case qk7 => k_is)
    (case qa8 => k_is); (case ql8 => k_is); (case qc8 => k_is); (case qk8 => k_is); (case qa9 => k_is); (case ql9 => k_is); (case qc9 => k_is); (case qk9 => k_is)
    (case qa10 => k_is); (case ql10 => k_is); (case qc10 => k_is); (case qk10 => k_is); (case qa11 => k_is); (case ql11 => k_is); (case qc11 => k_is); (case qk11 => k_is)
    (case qa12 => k_is); (case ql12 => k_is); (case qc12 => k_is); (case qk12 => k_is); (case qa13 => k_is); (case ql13 => k_is); (case qc13 => k_is); (case qk13 => k_is)
    (case qa14 => k_is); (case ql14 => k_is); (case qc14 => k_is); (case qk14 => k_is); (case qa15 => k_is); (case ql15 => k_is); (case qc15 => k_is); (case qk15 => k_is)
    (case qa16 => k_is); (case ql16 => k_is); (case qc16 => k_is); (case qk16 => k_is); (case qa17 => k_is); (case ql17 => k_is); (case qc17 => k_is); (case qk17 => k_is)
    (case qa18 => k_is); (case ql18 => k_is); (case qc18 => k_is); (case qk18 => k_is); (case qa19 => k_is); (case ql19 => k_is); (case qc19 => k_is); (case qk19 => k_is)
    (case qa20 => k_is); (case ql20 => k_is); (case qc20 => k_is); (case qk20 => k_is); (case qa21 => k_is); (case ql21 => k_is); (case qc21 => k_is); (case qk21 => k_is)
    (case qa22 => k_is); (case ql22 => k_is); (case qc22 => k_is); (case qk22 => k_is); (case qa23 => k_is); (case ql23 => k_is); (case qc23 => k_is); (case qk23 => k_is)
    (case qa24 => k_is); (case ql24 => k_is); (case qc24 => k_is); (case qk24 => k_is); (case qa25 => k_is); (case ql25 => k_is); (case qc25 => k_is); (case qk25 => k_is)
    (case qa26 => k_is); (case ql26 => k_is); (case qc26 => k_is); (case qk26 => k_is); (case qa27 => k_is); (case ql27 => k_is); (case qc27 => k_is); (case qk27 => k_is)
    (case qa28 => k_is); (case ql28 => k_is); (case qc28 => k_is); (case qk28 => k_is); (case qa29 => k_is); (case ql29 => k_is); (case qc29 => k_is); (case qk29 => k_is)
    (case qa30 => k_is); (case ql30 => k_is); (case qc30 => k_is); (case qk30 => k_is); (case qa31 => k_is); (case ql31 => k_is); (case qc31 => k_is); (case qk31 => k_is)
    (case qa32 => k_is); (case ql32 => k_is); (case qc32 => k_is); (case qk32 => k_is); (case qa33 => k_is); (case ql33 => k_is); (case qc33 => k_is); (case qk33 => k_is)
    (case qa34 => k_is); (case ql34 => k_is); (case qc34 => k_is); (case qk34 => k_is); (case qa35 => k_is); (case ql35 => k_is); (case qc35 => k_is); (case qk35 => k_is)
    (case qa36 => k_is); (case ql36 => k_is); (case qc36 => k_is); (case qk36 => k_is); (case qa37 => k_is); (case ql37 => k_is); (case qc37 => k_is); (case qk37 => k_is)
    (case qa38 => k_is); (case ql38 => k_is); (case qc38 => k_is); (case qk38 => k_is); (case qa39 => k_is); (case ql39 => k_is); (case qc39 => k_is); (case qk39 => k_is)
    (case qa40 => k_is); (case ql40 => k_is); (case qc40 => k_is); (case qk40 => k_is); (case qa41 => k_is); (case ql41 => k_is); (case qc41 => k_is); (case qk41 => k_is)
    (case qa42 => k_is); (case ql42 => k_is); (case qc42 => k_is); (case qk42 => k_is); (case qa43 => k_is); (case ql43 => k_is); (case qc43 => k_is); (case qk43 => k_is)
    (case qa44 => k_is); (case ql44 => k_is); (case qc44 => k_is); (case qk44 => k_is); (case zz0 => k_is); (case zz1 => k_is); (case zz2 => k_is); (case zz3 => k_is)
    (case zz4 => k_is); (case zz5 => k_is); (case zz6 => k_is); (case zz7 => k_is); (case zz8 => k_is); (case zz9 => k_is); (case zz10 => k_is); (case zz11 => k_is)
    (case zz12 => k_is); (case zz13 => k_is); (case zz14 => k_is); (case zz15 => k_is); (case zz16 => k_is); (case zz17 => k_is); (case zz18 => k_is); (case zz19 => k_is)
    (case zz20 => k_is); (case zz21 => k_is); (case zz22 => k_is)
