import PyProof.Rows.All
import Wide.All
import OpenK.AllK
import Wide.FinOn
import HandS.ForMost
import HandS.Exc
import HandS.TryOnly
import HandS.ExcOwn
import HandS.WordsExc
import HandS.Defaults
import HandS.Wide
import HandS.WideMore
import HandS.IsInst
import HandS.Conv
import HandS.TryMany
import HandS.HotCalls
import HandS.Style
import HandS.Rev
import HandS.ListItems
import HandS.Flow
import KE.SortData
import KE.DataCmp
import KE.DataMinMax
import KE.DataAny
import KE.DataIsa
import KE.DataEq
import HandS.Head0
import HandS.Head1
import HandS.Head2
import HandS.HeadEnd
import HandS.HeadHook1
import HandS.HeadHook2
import HandS.TupAny
import HandS.TupMul
import HandS.TupLe
import KE.KRevIter
import HandS.Star
import KE.KTupSum
import HandS.Hot
import HandS.ExcIs
import PySem.Challenge.RW_citedback_k42_whole_measures
import HandS.HeadHook3
import HandS.HeadHook4
section
set_option Elab.async false
set_option linter.all false
set_option autoImplicit false
set_option maxRecDepth 100000
set_option maxHeartbeats 4000000
/-! The value layer: what a piece of code gives, told over plain data. -/
namespace CB
open PySem PySem.Spec PyProof.Rows L2

abbrev D := PyData
/-- a value: data, or the i-th mutable object -/
inductive SV where
  | d (p : D)
  | box (i : Nat)
abbrev Env := List (Option SV)
abbrev Sto := List D
/-- what an evaluation gives -/
inductive R (α : Type) where
  | ok (a : α) (st : Sto)
  | ex (c : Str) (x : D) (st : Sto)
  | bad
def R.bind {α β : Type} (x : R α) (f : α → Sto → R β) : R β := match x with
  | .ok a st => f a st
  | .ex c x st => .ex c x st
  | .bad => .bad
@[simp] theorem R.bind_ok {α β : Type} (a : α) (st : Sto) (f : α → Sto → R β) : (R.ok a st).bind f = f a st := rfl
@[simp] theorem R.bind_ex {α β : Type} (c : Str) (x : D) (st : Sto) (f : α → Sto → R β) : (R.ex c x st : R α).bind f = .ex c x st := rfl
@[simp] theorem R.bind_bad {α β : Type} (f : α → Sto → R β) : (R.bad : R α).bind f = .bad := rfl

/-! ### what lies in the heap -/
def keyD : Key → D
  | .inl i => .int i
  | .inr x => .str x
def keyTD (k : List Key) : D := .tuple (k.map keyD)
mutual
inductive Rp (K : PySem.W.Frag) (F : Hp) : V → D → Prop
  | non : Rp K F .non .none
  | bl (b : Bool) : Rp K F (.bl b) (.bool b)
  | int (i : Int) : Rp K F (.int i) (.int i)
  | str (x : Str) : Rp K F (.str x) (.str x)
  | lst {a : Addr} {xs : List V} {ds : List D} : Rd F a (.lst xs) → RpL K F xs ds → Rp K F (.ref a) (.list ds)
  | tup {a : Addr} {xs : List V} {ds : List D} : SqT K F a xs → RpL K F xs ds → Rp K F (.ref a) (.tuple ds)
  | dicK {a : Addr} {kvs : List (Key × V)} {ds : List D} : Rd F a (.dK kvs) → RpL K F (kvs.map (·.2)) ds → Rp K F (.ref a) (.dict ((kvs.map fun q => keyD q.1).zip ds))
  | dicT {a : Addr} {kvs : List (List Key × V)} {ds : List D} : F a = some (.dT kvs) → RpL K F (kvs.map (·.2)) ds → Rp K F (.ref a) (.dict ((kvs.map fun q => keyTD q.1).zip ds))
inductive RpL (K : PySem.W.Frag) (F : Hp) : List V → List D → Prop
  | nil : RpL K F [] []
  | cons {v : V} {vs : List V} {d : D} {ds : List D} : Rp K F v d → RpL K F vs ds → RpL K F (v :: vs) (d :: ds)
end

theorem same_rd {F F' : Hp} {a : Addr} {u : HO} (e : Same F F') (h : Rd F a u) : Rd F' a u := by
  rcases h with h | ⟨o, h⟩
  · exact .inl (e _ _ h)
  · exact .inr ⟨o, e _ _ h⟩
theorem same_l {K : PySem.W.Frag} {F F' : Hp} {a : Addr} {xs : List V} (e : Same F F') (h : SqL K F a xs) : SqL K F' a xs := by
  rcases h with h | h
  · exact .inl (same_rd e h)
  · exact .inr h
theorem same_t {K : PySem.W.Frag} {F F' : Hp} {a : Addr} {xs : List V} (e : Same F F') (h : SqT K F a xs) : SqT K F' a xs := by
  rcases h with h | h
  · exact .inl (same_rd e h)
  · exact .inr h
section
variable {K : PySem.W.Frag} {F F' : Hp}
mutual
theorem Rp.mono (e : Same F F') : ∀ {v : V} {d : D}, Rp K F v d → Rp K F' v d
  | _, _, .non => .non
  | _, _, .bl b => .bl b
  | _, _, .int i => .int i
  | _, _, .str x => .str x
  | _, _, .lst h r => .lst (same_rd e h) (RpL.mono e r)
  | _, _, .tup h r => .tup (same_t e h) (RpL.mono e r)
  | _, _, .dicK h r => .dicK (same_rd e h) (RpL.mono e r)
  | _, _, .dicT h r => .dicT (e _ _ h) (RpL.mono e r)
theorem RpL.mono (e : Same F F') : ∀ {vs : List V} {ds : List D}, RpL K F vs ds → RpL K F' vs ds
  | _, _, .nil => .nil
  | _, _, .cons h r => .cons (Rp.mono e h) (RpL.mono e r)
end
theorem RpL.length : ∀ {vs : List V} {ds : List D}, RpL K F vs ds → vs.length = ds.length
  | _, _, .nil => rfl
  | _, _, .cons _ r => congrArg (· + 1) (RpL.length r)
theorem RpL.get : ∀ {vs : List V} {ds : List D} {i : Nat} {v : V}, RpL K F vs ds → vs[i]? = some v → ∃ d, ds[i]? = some d ∧ Rp K F v d
  | _, _, _, _, .nil, e => by simp at e
  | _, _, 0, _, .cons h _, e => by simp at e; subst e; exact ⟨_, rfl, h⟩
  | _, _, i + 1, v, .cons _ r, e => by
    obtain ⟨d, h1, h2⟩ := RpL.get (i := i) (v := v) r (by simpa using e)
    exact ⟨d, by simpa using h1, h2⟩
theorem RpL.getD : ∀ {vs : List V} {ds : List D} {i : Nat} {d : D}, RpL K F vs ds → ds[i]? = some d → ∃ v, vs[i]? = some v ∧ Rp K F v d
  | _, _, _, _, .nil, e => by simp at e
  | _, _, 0, _, .cons h _, e => by simp at e; subst e; exact ⟨_, rfl, h⟩
  | _, _, i + 1, d, .cons _ r, e => by
    obtain ⟨v, h1, h2⟩ := RpL.getD (i := i) (d := d) r (by simpa using e)
    exact ⟨v, by simpa using h1, h2⟩
theorem RpL.append : ∀ {vs ws : List V} {ds es : List D}, RpL K F vs ds → RpL K F ws es → RpL K F (vs ++ ws) (ds ++ es)
  | _, _, _, _, .nil, s => s
  | _, _, _, _, .cons h r, s => .cons h (RpL.append r s)
theorem RpL.take : ∀ {vs : List V} {ds : List D} (n : Nat), RpL K F vs ds → RpL K F (vs.take n) (ds.take n)
  | _, _, 0, _ => .nil
  | _, _, _ + 1, .nil => .nil
  | _, _, n + 1, .cons h r => .cons h (RpL.take n r)
theorem RpL.drop : ∀ {vs : List V} {ds : List D} (n : Nat), RpL K F vs ds → RpL K F (vs.drop n) (ds.drop n)
  | _, _, 0, r => r
  | _, _, _ + 1, .nil => .nil
  | _, _, n + 1, .cons _ r => RpL.drop n r
theorem RpL.reverse {vs : List V} {ds : List D} (h : RpL K F vs ds) : RpL K F vs.reverse ds.reverse := by
  induction vs generalizing ds with
  | nil => cases h; exact .nil
  | cons v vs ih =>
    cases h with
    | cons h r =>
      rw [List.reverse_cons, List.reverse_cons]
      exact (ih r).append (.cons h .nil)
theorem RpL.set {v : V} {d : D} (h : Rp K F v d) : ∀ {vs : List V} {ds : List D} (i : Nat), RpL K F vs ds → RpL K F (vs.set i v) (ds.set i d)
  | _, _, _, .nil => .nil
  | _, _, 0, .cons _ r => .cons h r
  | _, _, i + 1, .cons q r => .cons q (RpL.set h i r)
theorem RpL.eraseIdx : ∀ {vs : List V} {ds : List D} (i : Nat), RpL K F vs ds → RpL K F (vs.eraseIdx i) (ds.eraseIdx i)
  | _, _, _, .nil => .nil
  | _, _, 0, .cons _ r => r
  | _, _, i + 1, .cons h r => .cons h (RpL.eraseIdx i r)
theorem RpL.dropLast {vs : List V} {ds : List D} (h : RpL K F vs ds) : RpL K F vs.dropLast ds.dropLast := by
  rw [List.dropLast_eq_take, List.dropLast_eq_take, h.length]
  exact h.take _
theorem RpL.rep {vs : List V} {ds : List D} (h : RpL K F vs ds) : ∀ k : Nat, RpL K F (List.replicate k vs).flatten (List.replicate k ds).flatten
  | 0 => .nil
  | k + 1 => by
    rw [List.replicate_succ, List.replicate_succ, List.flatten_cons, List.flatten_cons]
    exact h.append (RpL.rep h k)
theorem RpL.ints : ∀ (ns : List Int), RpL K F (ns.map V.int) (ns.map PyData.int)
  | [] => .nil
  | n :: ns => .cons (.int n) (RpL.ints ns)
theorem RpL.ofInts : ∀ {vs : List V} {ns : List Int}, RpL K F vs (ns.map PyData.int) → vs = ns.map V.int
  | _, [], .nil => rfl
  | _, n :: ns, .cons h r => by
    cases h
    rw [List.map_cons, RpL.ofInts r]
theorem RpL.ofBools : ∀ {vs : List V} {ns : List Bool}, RpL K F vs (ns.map PyData.bool) → vs = ns.map V.bl
  | _, [], .nil => rfl
  | _, n :: ns, .cons h r => by
    cases h
    rw [List.map_cons, RpL.ofBools r]
end

/-! ### the values read as the library's data -/
def noDict : D → Bool := PySem.PyData.plain
section
variable {X : Cx} {pins : List (Addr × Obj)} {σ : L2.St} {F H : Hp} {s : Shared}
mutual
theorem Rp.reads (I : Inv X pins σ H s) (e : Same F H) : ∀ (d : D) (v : V) (u : Value), d.plain = true → Rp X.K F v d → RelV v u → ∃ as, Reads s.heap u d as
  | .none, _, _, _, h, r => by
    cases h
    cases r
    exact ⟨_, Reads.none⟩
  | .bool b, _, _, _, h, r => by
    cases h
    cases r
    exact ⟨_, Reads.bool b⟩
  | .int i, _, _, _, h, r => by
    cases h
    obtain ⟨t, rfl⟩ := r
    exact ⟨_, Reads.int i t⟩
  | .str x, _, _, _, h, r => by
    cases h
    obtain ⟨t, rfl⟩ := r
    exact ⟨_, Reads.str x t⟩
  | .list ds, _, _, hp, h, r => by
    cases h with
    | lst hs ha =>
      cases r
      obtain ⟨its, rv, ⟨o, n, ho, hc, _, hd⟩, _⟩ := I.list (.inl (same_rd e hs))
      obtain ⟨as, hr⟩ := RpL.reads I e ds _ its (by simpa [PySem.PyData.plain] using hp) ha rv
      exact ⟨_, Reads.list ho hc hd hr⟩
  | .tuple ds, _, _, hp, h, r => by
    cases h with
    | tup hs ha =>
      cases r
      obtain ⟨its, rv, ⟨o, ho, hc, n, hd⟩, _⟩ := I.tuple (same_t e hs)
      obtain ⟨as, hr⟩ := RpL.reads I e ds _ its (by simpa [PySem.PyData.plain] using hp) ha rv
      exact ⟨_, Reads.tuple ho hc hd hr⟩
  | .dict _, _, _, hp, h, _ => by simp [PySem.PyData.plain] at hp
theorem RpL.reads (I : Inv X pins σ H s) (e : Same F H) : ∀ (ds : List D) (vs : List V) (us : List Value), PySem.PyData.plainAll ds = true → RpL X.K F vs ds → Vals vs us → ∃ as, ReadsAll s.heap us ds as
  | [], _, _, _, h, r => by
    cases h
    cases r
    exact ⟨_, ReadsAll.nil⟩
  | d :: ds, _, _, hp, h, r => by
    cases h with
    | cons h1 h2 =>
      cases r with
      | cons r1 r2 =>
        have hp' : d.plain = true ∧ PySem.PyData.plainAll ds = true := by simpa [PySem.PyData.plainAll] using hp
        obtain ⟨as, q1⟩ := Rp.reads I e d _ _ hp'.1 h1 r1
        obtain ⟨bs, q2⟩ := RpL.reads I e ds _ _ hp'.2 h2 r2
        exact ⟨_, ReadsAll.cons q1 q2⟩
end
end

/-! ### the state told: F what is frozen, bs where the boxes stand, st what is in them -/
def SRp (K : PySem.W.Frag) (F : Hp) (bs : List Addr) : V → SV → Prop
  | v, .d p => Rp K F v p
  | v, .box i => ∃ a, v = .ref a ∧ bs[i]? = some a
def SRpL (K : PySem.W.Frag) (F : Hp) (bs : List Addr) : List V → List SV → Prop := Paired (SRp K F bs)
/-- a changeable object -/
def Top (K : PySem.W.Frag) (F H : Hp) (a : Addr) : D → Prop
  | .list ds => ∃ xs, H a = some (.lst xs) ∧ RpL K F xs ds
  | .dict kvs => (∃ ks ds, kvs = (ks.map fun q => keyD q.1).zip ds ∧ H a = some (.dK ks) ∧ RpL K F (ks.map (·.2)) ds) ∨ (∃ ks ds, kvs = (ks.map fun q => keyTD q.1).zip ds ∧ H a = some (.dT ks) ∧ RpL K F (ks.map (·.2)) ds)
  | _ => False
/-- a box: alive (a list, a dict) or dead -/
def Bx (K : PySem.W.Frag) (F H : Hp) (a : Addr) : D → Prop
  | .list ds => F a = none ∧ Top K F H a (.list ds)
  | .dict kvs => F a = none ∧ Top K F H a (.dict kvs)
  | _ => H a ≠ none
structure RepB (K : PySem.W.Frag) (F : Hp) (bs : List Addr) (st : Sto) (H : Hp) : Prop where
  ex : Same F H
  len : bs.length = st.length
  nd : bs.Nodup
  at_ : ∀ (i : Nat) (a : Addr) (p : D), bs[i]? = some a → st[i]? = some p → Bx K F H a p
structure EnvR (K : PySem.W.Frag) (F : Hp) (bs : List Addr) (ρ : Env) (σ : L2.St) : Prop where
  len : ρ.length = σ.length
  at_ : ∀ (i : Nat) (r : SV), ρ[i]? = some (some r) → ∃ v, σ[i]? = some (some v) ∧ SRp K F bs v r
/-- what a step may do: frozen things stay, new ones are new, all but the boxes is as it was -/
structure Stp (F H : Hp) (bs : List Addr) (F' H' : Hp) : Prop where
  ex : Same F F'
  nw : ∀ a, F' a ≠ none → F a ≠ none ∨ H a = none
  keep : ∀ a o, H a = some o → a ∉ bs → H' a = some o
  there : ∀ a, H a ≠ none → H' a ≠ none
theorem Stp.refl (F H : Hp) (bs : List Addr) : Stp F H bs F H := ⟨Same.refl _, fun _ h => .inl h, fun _ _ h _ => h, fun _ h => h⟩
theorem Stp.trans {F H F1 H1 F2 H2 : Hp} {bs : List Addr} (a : Stp F H bs F1 H1) (b : Stp F1 H1 bs F2 H2) : Stp F H bs F2 H2 where
  ex := a.ex.trans b.ex
  nw := fun x h => by
    rcases b.nw x h with h | h
    · exact a.nw x h
    · refine .inr ?_
      cases q : H x with
      | none => rfl
      | some o => exact absurd h (a.there x (by rw [q]; exact fun z => nomatch z))
  keep := fun x o h n => b.keep x o (a.keep x o h n) n
  there := fun x h => b.there x (a.there x h)
theorem SRp.mono {K : PySem.W.Frag} {F F' : Hp} {bs : List Addr} (e : Same F F') : ∀ {v : V} {r : SV}, SRp K F bs v r → SRp K F' bs v r
  | _, .d _, h => Rp.mono e h
  | _, .box _, h => h
theorem SRp.grow {K : PySem.W.Frag} {F : Hp} {bs more : List Addr} : ∀ {v : V} {r : SV}, SRp K F bs v r → SRp K F (bs ++ more) v r
  | _, .d _, h => h
  | _, .box i, ⟨a, e, h⟩ => ⟨a, e, by
    have hl := (List.getElem?_eq_some_iff.mp h).1
    rw [List.getElem?_append_left hl]; exact h⟩
theorem EnvR.mono {K : PySem.W.Frag} {F F' : Hp} {bs : List Addr} {ρ : Env} {σ : L2.St} (e : Same F F') (h : EnvR K F bs ρ σ) : EnvR K F' bs ρ σ := ⟨h.len, fun i r q => by
  obtain ⟨v, h1, h2⟩ := h.at_ i r q
  exact ⟨v, h1, h2.mono e⟩⟩
theorem EnvR.grow {K : PySem.W.Frag} {F : Hp} {bs more : List Addr} {ρ : Env} {σ : L2.St} (h : EnvR K F bs ρ σ) : EnvR K F (bs ++ more) ρ σ := ⟨h.len, fun i r q => by
  obtain ⟨v, h1, h2⟩ := h.at_ i r q
  exact ⟨v, h1, h2.grow⟩⟩
theorem EnvR.set {K : PySem.W.Frag} {F : Hp} {bs : List Addr} {ρ : Env} {σ : L2.St} (h : EnvR K F bs ρ σ) (i : Nat) {v : V} {r : SV} (q : SRp K F bs v r) : EnvR K F bs (ρ.set i (some r)) (σ.set i (some v)) := ⟨by simpa using h.len, fun j r' e => by
  by_cases hj : i = j
  · subst hj
    by_cases hl : i < ρ.length
    · rw [List.getElem?_set_self hl] at e
      have e' : r = r' := Option.some.inj (Option.some.inj e)
      subst e'
      exact ⟨v, List.getElem?_set_self (by rw [← h.len]; exact hl), q⟩
    · rw [List.getElem?_eq_none (by simpa using hl)] at e; cases e
  · rw [List.getElem?_set_ne hj] at e
    obtain ⟨v', h1, h2⟩ := h.at_ j r' e
    exact ⟨v', by rw [List.getElem?_set_ne hj]; exact h1, h2⟩⟩
theorem EnvR.setNone {K : PySem.W.Frag} {F : Hp} {bs : List Addr} {ρ : Env} {σ : L2.St} (h : EnvR K F bs ρ σ) (i : Nat) : EnvR K F bs (ρ.set i none) (σ.set i none) := ⟨by simpa using h.len, fun j r' e => by
  by_cases hj : i = j
  · subst hj
    by_cases hl : i < ρ.length
    · rw [List.getElem?_set_self hl] at e; cases e
    · rw [List.getElem?_eq_none (by simpa using hl)] at e; cases e
  · rw [List.getElem?_set_ne hj] at e
    obtain ⟨v', h1, h2⟩ := h.at_ j r' e
    exact ⟨v', by rw [List.getElem?_set_ne hj]; exact h1, h2⟩⟩

/-! ### what must follow an evaluation -/
/-- an exception: its class by its name, what it bears -/
def XRp (K : PySem.W.Frag) (H : Hp) (c : Str) (x : D) (cls : Value) (dx : Option Addr) : Prop :=
  cls = .ref (He.ga K c) ∧ match x with
    | .none => dx = none
    | .int i => ∃ d, dx = some d ∧ H d = some (.xd [("at", .int i)])
    | _ => False
def Ok {α β : Type} (K : PySem.W.Frag) (W : WX) (σ : L2.St) (F H : Hp) (bs : List Addr) (rel : Hp → Hp → β → α → Prop) (Q : β → Hp → Prop) : R α → Prop
  | .ok r st' => ∀ v F' H', Stp F H bs F' H' → RepB K F' bs st' H' → rel F' H' v r → Q v H'
  | .ex c x st' => ∀ F' H' cls dx, Stp F H bs F' H' → RepB K F' bs st' H' → XRp K H' c x cls dx → W cls dx σ H'
  | .bad => False
section
variable {α β γ δ : Type} {K : PySem.W.Frag} {W : WX} {σ : L2.St} {F H F1 H1 : Hp} {bs : List Addr}
theorem Ok.step {rel : Hp → Hp → β → α → Prop} {Q : β → Hp → Prop} {x : R α} (s : Stp F H bs F1 H1) (h : Ok K W σ F H bs rel Q x) : Ok K W σ F1 H1 bs rel Q x := by
  cases x with
  | ok r st' => exact fun v F' H' s' b r => h v F' H' (s.trans s') b r
  | ex c x st' => exact fun F' H' cls dx s' b r => h F' H' cls dx (s.trans s') b r
  | bad => exact h
theorem Ok.bind {rel1 : Hp → Hp → δ → γ → Prop} {rel : Hp → Hp → β → α → Prop} {Q1 : δ → Hp → Prop} {Q : β → Hp → Prop} {x : R γ} {f : γ → Sto → R α} (h : Ok K W σ F H bs rel Q (x.bind f))
    (k : ∀ v r st1 F1 H1, x = .ok r st1 → Stp F H bs F1 H1 → RepB K F1 bs st1 H1 → rel1 F1 H1 v r → Ok K W σ F1 H1 bs rel Q (f r st1) → Q1 v H1) : Ok K W σ F H bs rel1 Q1 x := by
  cases x with
  | ok r st' => exact fun v F' H' s b q => k v r st' F' H' rfl s b q (Ok.step s h)
  | ex c x st' => exact h
  | bad => exact h
theorem Ok.ret {rel : Hp → Hp → β → α → Prop} {Q : β → Hp → Prop} {r : α} {st : Sto} {v : β} (h : Ok K W σ F H bs rel Q (.ok r st)) (b : RepB K F bs st H) (q : rel F H v r) : Q v H := h v F H (Stp.refl _ _ _) b q
end

/-! ### the judgements -/
/-- what a rule may lean on -/
structure Cfg (X : Cx) (W : WX) (k : Nat) : Prop where
  hr : Room k X.A
  tk : L2N.Takes X W
  calm : X.calm = true
  nd : X.N.Nodup
  po : PassesOwn (model X.prog X.w) X.A X.env X.xe
theorem Cfg.hu {X : Cx} {W : WX} {k : Nat} (C : Cfg X W k) : X.A.units + 64 < cLine := C.hr.units
abbrev relE (K : PySem.W.Frag) (bs : List Addr) : Hp → Hp → V → SV → Prop := fun F _ v r => SRp K F bs v r
abbrev relB : Hp → Hp → Bool → Bool → Prop := fun _ _ a b => a = b
abbrev relA (K : PySem.W.Frag) (bs : List Addr) : Hp → Hp → List V → List SV → Prop := fun F _ v r => SRpL K F bs v r
abbrev dE := Env → Sto → R SV
/-- an expression -/
def SE (X : Cx) (W : WX) (e : Expr) (f : dE) : Prop := ∃ t, PE X e t ∧ ∀ ρ st F bs σ H Q, RepB X.K F bs st H → EnvR X.K F bs ρ σ → Ok X.K W σ F H bs (relE X.K bs) Q (f ρ st) → t σ H Q
/-- a test -/
def ST (X : Cx) (W : WX) (e : Expr) (f : Env → Sto → R Bool) : Prop := ∃ t, PT X e t ∧ ∀ ρ st F bs σ H Q, RepB X.K F bs st H → EnvR X.K F bs ρ σ → Ok X.K W σ F H bs relB Q (f ρ st) → t σ H Q
/-- arguments -/
def SA (X : Cx) (W : WX) (es : List Expr) (f : Env → Sto → R (List SV)) : Prop := ∃ t, PA X es t ∧ ∀ ρ st F bs σ H Q, RepB X.K F bs st H → EnvR X.K F bs ρ σ → Ok X.K W σ F H bs (relA X.K bs) Q (f ρ st) → t σ H Q
/-- an expression that makes a new object -/
abbrev relF (K : PySem.W.Frag) (H0 : Hp) : Hp → Hp → V → D → Prop := fun F H v r => ∃ a, v = .ref a ∧ H0 a = none ∧ F a = none ∧ Top K F H a r
def SF (X : Cx) (W : WX) (e : Expr) (f : Env → Sto → R D) : Prop := ∃ t, PE X e t ∧ ∀ ρ st F bs σ H Q, RepB X.K F bs st H → EnvR X.K F bs ρ σ → Ok X.K W σ F H bs (relF X.K H) Q (f ρ st) → t σ H Q
end CB
end
section
set_option Elab.async false
set_option linter.all false
set_option autoImplicit false
set_option maxRecDepth 100000
set_option maxHeartbeats 4000000
namespace CB
open PySem PySem.Spec PyProof.Rows L2

/-! ### growth by what is frozen at once -/
structure Gro (F H F' H' : Hp) : Prop where
  ex : Same F F'
  nw : ∀ a, F' a ≠ none → F a ≠ none ∨ H a = none
  keep : Same H H'
  in_ : Same F' H'
theorem Gro.refl {F H : Hp} (e : Same F H) : Gro F H F H := ⟨Same.refl _, fun _ h => .inl h, Same.refl _, e⟩
theorem Gro.stp {F H F' H' : Hp} (g : Gro F H F' H') (bs : List Addr) : Stp F H bs F' H' := ⟨g.ex, g.nw, fun a o h _ => g.keep a o h, fun a h => by
  cases q : H a with
  | none => exact absurd q h
  | some o => rw [g.keep a o q]; exact fun z => nomatch z⟩
theorem some_ne {α : Type} {x : α} : (some x : Option α) ≠ none := fun z => nomatch z
section
variable {K : PySem.W.Frag} {F H F' H' : Hp} {bs : List Addr} {st : Sto} {a : Addr}
theorem Top.th {p : D} (h : Top K F H a p) : H a ≠ none := by
  cases p with
  | list ds => obtain ⟨xs, e, _⟩ := h; rw [e]; exact some_ne
  | dict kvs =>
    rcases h with ⟨_, _, _, e, _⟩ | ⟨_, _, _, e, _⟩ <;> (rw [e]; exact some_ne)
  | _ => exact h.elim
theorem Top.mono {p : D} (h : Top K F H a p) (e : Same F F') (k : ∀ o, H a = some o → H' a = some o) : Top K F' H' a p := by
  cases p with
  | list ds =>
    obtain ⟨xs, q, r⟩ := h
    exact ⟨xs, k _ q, r.mono e⟩
  | dict kvs =>
    rcases h with ⟨ks, ds, e1, q, r⟩ | ⟨ks, ds, e1, q, r⟩
    · exact .inl ⟨ks, ds, e1, k _ q, r.mono e⟩
    · exact .inr ⟨ks, ds, e1, k _ q, r.mono e⟩
  | _ => exact h.elim
theorem Bx.th {p : D} (h : Bx K F H a p) : H a ≠ none := by
  cases p with
  | list ds => exact Top.th h.2
  | dict kvs => exact Top.th h.2
  | _ => exact h
theorem RepB.there (b : RepB K F bs st H) (h : a ∈ bs) : H a ≠ none := by
  obtain ⟨i, hi, e⟩ := List.mem_iff_getElem.mp h
  have h1 : bs[i]? = Option.some a := by rw [List.getElem?_eq_getElem hi, e]
  have hl : i < st.length := by rw [← b.len]; exact hi
  exact (b.at_ i a _ h1 (List.getElem?_eq_getElem hl)).th
theorem Bx.gro {p : D} (h : Bx K F H a p) (g : Gro F H F' H') : Bx K F' H' a p := by
  have go : ∀ q, F a = none ∧ Top K F H a q → F' a = none ∧ Top K F' H' a q := fun q ⟨h1, h2⟩ => ⟨by
    cases z : F' a with
    | none => rfl
    | some o =>
      rcases g.nw a (by rw [z]; exact some_ne) with y | y
      · exact absurd h1 y
      · exact absurd y (Top.th h2), Top.mono h2 g.ex fun o e => g.keep a o e⟩
  cases p with
  | list ds => exact go _ h
  | dict kvs => exact go _ h
  | _ =>
    show H' a ≠ none
    have h' : H a ≠ none := h
    cases q : H a with
    | none => exact absurd q h'
    | some o => rw [g.keep a o q]; exact some_ne
theorem RepB.gro (b : RepB K F bs st H) (g : Gro F H F' H') : RepB K F' bs st H' := ⟨g.in_, b.len, b.nd, fun i a p h1 h2 => (b.at_ i a p h1 h2).gro g⟩
end

/-! ### a value seen: what a box holds now -/
def der (st : Sto) : SV → Option D
  | .d p => some p
  | .box i => match st[i]? with
    | some (.list ds) => some (.list ds)
    | some (.dict kvs) => some (.dict kvs)
    | _ => none
@[simp] theorem der_d (st : Sto) (p : D) : der st (.d p) = some p := rfl
theorem der_box {st : Sto} {i : Nat} {ds : List D} (h : st[i]? = some (.list ds)) : der st (.box i) = some (.list ds) := by
  simp only [der, h]
def Vw (K : PySem.W.Frag) (F H : Hp) : V → D → Prop
  | v, .list ds => ∃ a xs, v = .ref a ∧ Rd H a (.lst xs) ∧ RpL K F xs ds
  | v, .dict kvs => ∃ a, v = .ref a ∧ ((∃ ks ds, kvs = (ks.map fun q => keyD q.1).zip ds ∧ Rd H a (.dK ks) ∧ RpL K F (ks.map (·.2)) ds) ∨ (∃ ks ds, kvs = (ks.map fun q => keyTD q.1).zip ds ∧ H a = some (.dT ks) ∧ RpL K F (ks.map (·.2)) ds))
  | v, p => Rp K F v p
section
variable {K : PySem.W.Frag} {F H F' H' : Hp} {bs : List Addr} {st : Sto}
theorem Rp.vw (e : Same F H) {v : V} {p : D} (h : Rp K F v p) : Vw K F H v p := by
  cases h with
  | lst h r => exact ⟨_, _, rfl, same_rd e h, r⟩
  | dicK h r => exact ⟨_, rfl, .inl ⟨_, _, rfl, same_rd e h, r⟩⟩
  | dicT h r => exact ⟨_, rfl, .inr ⟨_, _, rfl, e _ _ h, r⟩⟩
  | non => exact .non
  | bl b => exact .bl b
  | int i => exact .int i
  | str x => exact .str x
  | tup h r => exact .tup h r
theorem vw_of (b : RepB K F bs st H) {v : V} {r : SV} {p : D} (h : SRp K F bs v r) (e : der st r = some p) : Vw K F H v p := by
  cases r with
  | d q =>
    have e' : q = p := Option.some.inj e
    subst e'
    exact Rp.vw b.ex h
  | box i =>
    obtain ⟨a, rfl, ha⟩ := h
    simp only [der] at e
    cases hs : st[i]? with
    | none => rw [hs] at e; cases e
    | some q =>
      rw [hs] at e
      have hb := b.at_ i a q ha hs
      cases q with
      | list ds =>
        have e' : PyData.list ds = p := Option.some.inj e
        subst e'
        obtain ⟨_, xs, hx, hr⟩ := hb
        exact ⟨a, xs, rfl, .of hx, hr⟩
      | dict kvs =>
        have e' : PyData.dict kvs = p := Option.some.inj e
        subst e'
        rcases hb.2 with ⟨ks, ds, e1, q, r⟩ | ⟨ks, ds, e1, q, r⟩
        · exact ⟨a, rfl, .inl ⟨ks, ds, e1, .of q, r⟩⟩
        · exact ⟨a, rfl, .inr ⟨ks, ds, e1, q, r⟩⟩
      | _ => cases e
/-- what is seen now, frozen as a whole: H itself the frozen heap -/
theorem Vw.rp (e : Same F H) {v : V} {p : D} (h : Vw K F H v p) : Rp K H v p := by
  cases p with
  | list ds => obtain ⟨a, xs, rfl, h1, h2⟩ := h; exact .lst h1 (h2.mono e)
  | dict kvs =>
    obtain ⟨a, rfl, ⟨ks, ds, rfl, h1, h2⟩ | ⟨ks, ds, rfl, h1, h2⟩⟩ := h
    · exact .dicK h1 (h2.mono e)
    · exact .dicT h1 (h2.mono e)
  | _ => exact Rp.mono e h
end

/-- a result that is data, frozen at once -/
def DPost (K : PySem.W.Frag) (F H : Hp) (p : D) (Q : VK) : Prop := ∀ v F' H', Gro F H F' H' → Rp K F' v p → Q v H'
theorem DPost.flat {K : PySem.W.Frag} {F H : Hp} {p : D} {Q : VK} {v : V} (e : Same F H) (h : DPost K F H p Q) (q : Rp K F v p) : Q v H := h v F H (Gro.refl e) q
theorem gro_new {F H : Hp} {a : Addr} {o : HO} (e : Same F H) (h : H a = none) : Gro F H (upd F a o) (upd H a o) where
  ex := fun b u q => by
    have : F a = none := by
      cases z : F a with
      | none => rfl
      | some w => rw [e a w z] at h; cases h
    rw [upd_ne (ne_of_none q this)]; exact q
  nw := fun b hb => by
    by_cases z : b = a
    · subst z; exact .inr h
    · rw [upd_ne z] at hb; exact .inl hb
  keep := fun b u q => by rw [upd_ne (ne_of_none q h)]; exact q
  in_ := fun b u q => by
    by_cases z : b = a
    · subst z; rw [upd_same] at q ⊢; exact q
    · rw [upd_ne z] at q ⊢; exact e b u q
theorem same_none {F H : Hp} {a : Addr} (e : Same F H) (h : H a = none) : F a = none := by
  cases z : F a with
  | none => rfl
  | some w => rw [e a w z] at h; cases h
theorem DPost.newL {K : PySem.W.Frag} {F H : Hp} {ds : List D} {Q : VK} {a : Addr} {xs : List V} (e : Same F H) (h : DPost K F H (.list ds) Q) (hn : H a = none) (q : RpL K F xs ds) : Q (.ref a) (upd H a (.lst xs)) :=
  h _ (upd F a (.lst xs)) _ (gro_new e hn) (.lst (Rd.of upd_same) (q.mono (gro_new (o := .lst xs) e hn).ex))
theorem DPost.newT {K : PySem.W.Frag} {F H : Hp} {ds : List D} {Q : VK} {a : Addr} {xs : List V} (e : Same F H) (h : DPost K F H (.tuple ds) Q) (hn : H a = none) (q : RpL K F xs ds) : Q (.ref a) (upd H a (.tup xs)) :=
  h _ (upd F a (.tup xs)) _ (gro_new e hn) (.tup (SqT.of upd_same) (q.mono (gro_new (o := .tup xs) e hn).ex))
/-- a result that is a new object, not frozen yet -/
def FPost (K : PySem.W.Frag) (F H : Hp) (p : D) (Q : VK) : Prop := ∀ a F' H', Gro F H F' H' → H a = none → F' a = none → Top K F' H' a p → Q (.ref a) H'
theorem FPost.of {K : PySem.W.Frag} {F H : Hp} {p : D} {Q : VK} (h : DPost K F H p Q) : FPost K F H p Q := fun a F' H' g hn hf ht => by
  obtain ⟨o, ho⟩ : ∃ o, H' a = some o := Option.ne_none_iff_exists'.mp (Top.th ht)
  have e1 : Same F' (upd F' a o) := fun b u q => by rw [upd_ne (ne_of_none q hf)]; exact q
  refine h (.ref a) (upd F' a o) H' ⟨g.ex.trans e1, fun b hb => ?_, g.keep, fun b u q => ?_⟩ ?_
  · by_cases z : b = a
    · subst z; exact .inr hn
    · rw [upd_ne z] at hb; exact g.nw b hb
  · by_cases z : b = a
    · subst z; rw [upd_same] at q; rw [← q]; exact ho
    · rw [upd_ne z] at q; exact g.in_ b u q
  · cases p with
    | list ds =>
      obtain ⟨xs, q, r⟩ := ht
      rw [ho] at q
      exact .lst (.of (by rw [upd_same, q])) (r.mono e1)
    | dict kvs =>
      rcases ht with ⟨ks, ds, rfl, q, r⟩ | ⟨ks, ds, rfl, q, r⟩
      · rw [ho] at q
        exact .dicK (.of (by rw [upd_same, q])) (r.mono e1)
      · rw [ho] at q
        exact .dicT (by rw [upd_same, q]) (r.mono e1)
    | _ => exact ht.elim
theorem FPost.newL {K : PySem.W.Frag} {F H : Hp} {ds : List D} {Q : VK} {a : Addr} {xs : List V} (e : Same F H) (h : FPost K F H (.list ds) Q) (hn : H a = none) (q : RpL K F xs ds) : Q (.ref a) (upd H a (.lst xs)) :=
  h a F _ ⟨Same.refl _, fun _ h => .inl h, (gro_new (o := .lst xs) e hn).keep, fun b u z => by rw [upd_ne (ne_of_none z (same_none e hn))]; exact e b u z⟩ hn (same_none e hn) ⟨xs, upd_same, q⟩
/-- .. as the end of an expression -/
theorem Ok.fresh {K : PySem.W.Frag} {W : WX} {σ : L2.St} {F H : Hp} {bs : List Addr} {st : Sto} {p : D} {Q : VK} (b : RepB K F bs st H) (h : Ok K W σ F H bs (relF K H) Q (.ok p st)) : FPost K F H p Q := fun a F' H' g hn hf ht =>
  h (.ref a) F' H' (g.stp bs) (b.gro g) ⟨a, rfl, hn, hf, ht⟩
theorem Ok.data {K : PySem.W.Frag} {W : WX} {σ : L2.St} {F H : Hp} {bs : List Addr} {st : Sto} {p : D} {Q : VK} (b : RepB K F bs st H) (h : Ok K W σ F H bs (relE K bs) Q (.ok (.d p) st)) : DPost K F H p Q := fun v F' H' g r =>
  h v F' H' (g.stp bs) (b.gro g) r

/-! ### names, constants -/
section
variable {X : Cx} {W : WX}
def dV (i : Nat) : dE := fun ρ st => match ρ[i]? with
  | some (some r) => .ok r st
  | _ => .bad
theorem se_var (i : Nat) {x : Str} {pos : Pos} (hN : X.N[i]? = some x := by rfl) (hv : Vis X.env.scope x := by first | exact Or.inl rfl | exact Or.inr (Or.inl rfl) | exact Or.inr (Or.inr rfl)) (hd : (x == ("__debug__" : Str)) = false := by decide)
    (hcd : (x == ("__classdict__" : Str)) = false := by decide) : SE X W (.Name x pos) (dV i) := by
  refine ⟨_, pe_var hN hv hd hcd, fun ρ st F bs σ H Q b e h => ?_⟩
  unfold dV at h
  cases q : ρ[i]? with
  | none => rw [q] at h; exact h.elim
  | some o =>
    cases o with
    | none => rw [q] at h; exact h.elim
    | some r =>
      rw [q] at h
      obtain ⟨v, h1, h2⟩ := e.at_ i r q
      exact ⟨v, h1, h.ret b h2⟩
def dC (p : D) : dE := fun _ st => .ok (.d p) st
theorem se_c {e : Expr} {v : V} {p : D} (h : PE X e (tC v)) (r : ∀ F, Rp X.K F v p) : SE X W e (dC p) := ⟨_, h, fun ρ st F bs σ H Q b e k => k.ret b (r F)⟩
theorem se_int {i : Int} {j pos} : SE X W (.Constant (.int i) j pos) (dC (.int i)) := se_c pe_int fun _ => .int i
theorem se_bl {c : Bool} {j pos} : SE X W (.Constant (.bool c) j pos) (dC (.bool c)) := se_c pe_bl fun _ => .bl c
theorem se_non {j pos} : SE X W (.Constant .none j pos) (dC .none) := se_c pe_non fun _ => .non
theorem se_str {x : Str} {j pos} : SE X W (.Constant (.str x) j pos) (dC (.str x)) := se_c pe_str fun _ => .str x
theorem se_gint {x : Str} {i : Int} {pos : Pos} (hm : ∃ t, X.mg x = some (.int i t)) (hg : Gl X x := by rfl) (hd : (x == ("__debug__" : Str)) = false := by decide) : SE X W (.Name x pos) (dC (.int i)) := by
  obtain ⟨t, hm⟩ := hm
  exact se_c (pe_glob hg hm (v := .int i) ⟨t, rfl⟩ hd) fun _ => .int i
theorem se_gstr {x z : Str} {pos : Pos} (hm : ∃ t, X.mg x = some (.str z t)) (hg : Gl X x := by rfl) (hd : (x == ("__debug__" : Str)) = false := by decide) : SE X W (.Name x pos) (dC (.str z)) := by
  obtain ⟨t, hm⟩ := hm
  exact se_c (pe_glob hg hm (v := .str z) ⟨t, rfl⟩ hd) fun _ => .str z

/-! ### operators by what they give of data -/
def OpD (X : Cx) (r : R2) (f : D → D → Option D) : Prop := ∀ (F H : Hp) (x y : V) (p q z : D) (Q : VK), Same F H → Vw X.K F H x p → Vw X.K F H y q → f p q = some z → DPost X.K F H z Q → r x y H Q
theorem OpD.or {r r' : R2} {f f' : D → D → Option D} (h : OpD X r f) (h' : OpD X r' f') : OpD X (fun x y H Q => r x y H Q ∨ r' x y H Q) (fun p q => (f p q).or (f' p q)) := fun F H x y p q z Q e hx hy hz k => by
  have hz : (f p q).or (f' p q) = some z := hz
  cases hf : f p q with
  | some u =>
    rw [hf] at hz
    exact .inl (h F H x y p q z Q e hx hy (hf.trans hz) k)
  | none =>
    rw [hf] at hz
    exact .inr (h' F H x y p q z Q e hx hy hz k)
def dOp2 (f : D → D → Option D) (a b : dE) : dE := fun ρ st => (a ρ st).bind fun x st1 => (b ρ st1).bind fun y st2 => match der st2 x, der st2 y with
  | some p, some q => (match f p q with
    | some z => .ok (.d z) st2
    | none => .bad)
  | _, _ => .bad
/-- the first one's value is still seen behind the second -/
theorem op2_core {K : PySem.W.Frag} {σ : L2.St} {F H : Hp} {bs : List Addr} {st : Sto} {x y : V} {r s : SV} {f : D → D → Option D} {Q : VK} (b : RepB K F bs st H) (hx : SRp K F bs x r) (hy : SRp K F bs y s)
    (h : Ok K W σ F H bs (relE K bs) Q (match der st r, der st s with
      | some p, some q => (match f p q with
        | some z => .ok (.d z) st
        | none => .bad)
      | _, _ => .bad)) : ∃ p q z, Vw K F H x p ∧ Vw K F H y q ∧ f p q = some z ∧ DPost K F H z Q := by
  cases h1 : der st r with
  | none => rw [h1] at h; exact h.elim
  | some p =>
    cases h2 : der st s with
    | none => rw [h1, h2] at h; exact h.elim
    | some q =>
      rw [h1, h2] at h
      cases h3 : f p q with
      | none => simp only [h3] at h; exact h.elim
      | some z =>
        simp only [h3] at h
        exact ⟨p, q, z, vw_of b hx h1, vw_of b hy h2, h3, Ok.data b h⟩
theorem se_2 {r : R2} {f : D → D → Option D} {a b e : Expr} {fa fb : dE} (hD : OpD X r f) (mk : ∀ ta tb, PE X a ta → PE X b tb → PE X e (tOp r ta tb)) (ha : SE X W a fa) (hb : SE X W b fb) : SE X W e (dOp2 f fa fb) := by
  obtain ⟨ta, pa, ka⟩ := ha
  obtain ⟨tb, pb, kb⟩ := hb
  refine ⟨_, mk ta tb pa pb, fun ρ st F bs σ H Q b e h => ?_⟩
  refine ka ρ st F bs σ H _ b e (Ok.bind h fun x r1 st1 F1 H1 _ s1 b1 q1 h => ?_)
  refine kb ρ st1 F1 bs σ H1 _ b1 (e.mono s1.ex) (Ok.bind h fun y r2 st2 F2 H2 _ s2 b2 q2 h => ?_)
  obtain ⟨p, q, z, vx, vy, hz, k⟩ := op2_core b2 (q1.mono s2.ex) q2 h
  exact hD F2 H2 x y p q z Q b2.ex vx vy hz k
theorem se_bin {op : Operator} {r : R2} {f : D → D → Option D} {a b : Expr} {fa fb : dE} {pos : Pos} (ho : OpR X (binaryOp op) r) (hD : OpD X r f) (ha : SE X W a fa) (hb : SE X W b fb) : SE X W (.BinOp a op b pos) (dOp2 f fa fb) := se_2 hD (fun _ _ pa pb => pe_op ho pa pb) ha hb
theorem se_cmp {op : CmpOp} {r : R2} {f : D → D → Option D} {a b : Expr} {fa fb : dE} {pos : Pos} (ho : OpR X (compareOp op) r) (hD : OpD X r f) (ha : SE X W a fa) (hb : SE X W b fb) (hm : behindInMarks op b = false := by first | exact nomark _ | rfl) : SE X W (.Compare a [op] [b] pos) (dOp2 f fa fb) := se_2 hD (fun _ _ pa pb => pe_cmpR ho pa pb hm) ha hb
/-- one operand -/
def UnD (X : Cx) (r : V → Hp → VK → Prop) (f : D → Option D) : Prop := ∀ (F H : Hp) (x : V) (p z : D) (Q : VK), Same F H → Vw X.K F H x p → f p = some z → DPost X.K F H z Q → r x H Q
def dOp1 (f : D → Option D) (a : dE) : dE := fun ρ st => (a ρ st).bind fun x st1 => match der st1 x with
  | some p => (match f p with
    | some z => .ok (.d z) st1
    | none => .bad)
  | none => .bad
theorem se_1 {r : V → Hp → VK → Prop} {f : D → Option D} {a e : Expr} {fa : dE} {t' : TE → TE} (hD : UnD X r f) (mk : ∀ ta, PE X a ta → PE X e (t' ta)) (ht : ∀ ta σ H Q, ta σ H (fun x H1 => r x H1 Q) → t' ta σ H Q) (ha : SE X W a fa) : SE X W e (dOp1 f fa) := by
  obtain ⟨ta, pa, ka⟩ := ha
  refine ⟨_, mk ta pa, fun ρ st F bs σ H Q b e h => ht _ _ _ _ ?_⟩
  refine ka ρ st F bs σ H _ b e (Ok.bind h fun x r1 st1 F1 H1 _ s1 b1 q1 h => ?_)
  cases h1 : der st1 r1 with
  | none => rw [h1] at h; exact h.elim
  | some p =>
    rw [h1] at h
    cases h3 : f p with
    | none => simp only [h3] at h; exact h.elim
    | some z =>
      simp only [h3] at h
      exact hD F1 H1 x p z Q b1.ex (vw_of b1 q1 h1) h3 (Ok.data b1 h)
theorem se_un {op : UnaryOp} {r : V → Hp → VK → Prop} {f : D → Option D} {a : Expr} {fa : dE} {pos : Pos} (ho : UnR X (unaryOp op) r) (hD : UnD X r f) (ha : SE X W a fa) : SE X W (.UnaryOp op a pos) (dOp1 f fa) := se_1 (t' := tUn r) hD (fun _ pa => pe_un ho pa) (fun _ _ _ _ h => h) ha
end
end CB
end
section
set_option Elab.async false
set_option linter.all false
set_option autoImplicit false
set_option maxRecDepth 100000
set_option maxHeartbeats 4000000
namespace CB
open PySem PySem.Spec PyProof.Rows L2

/-! ### operators -/
section
variable {X : Cx}
theorem Vw.reads {pins : List (Addr × Obj)} {σ : L2.St} {F H : Hp} {s : Shared} {x : V} {u : Value} {p : D} (I : Inv X pins σ H s) (e : Same F H) (h : Vw X.K F H x p) (hp : p.plain = true) (r : RelV x u) : ∃ as, Reads s.heap u p as := Rp.reads I (Same.refl H) p x u hp (h.rp e) r
/-- an answer that is a bool, by the data -/
def rD (K : PySem.W.Frag) (g : D → D → Option Bool) : R2 := fun x y H Q => ∃ F p q b, Same F H ∧ Vw K F H x p ∧ Vw K F H y q ∧ g p q = some b ∧ Q (.bl b) H
def oB (g : D → D → Option Bool) (p q : D) : Option D := (g p q).map PyData.bool
theorem opD_rD {g : D → D → Option Bool} : OpD X (rD X.K g) (oB g) := fun F H x y p q z Q e hx hy hz k => by
  unfold oB at hz
  cases hg : g p q with
  | none => rw [hg] at hz; cases hz
  | some b =>
    rw [hg] at hz
    have hz' : PyData.bool b = z := Option.some.inj hz
    subst hz'
    exact ⟨F, p, q, b, e, hx, hy, hg, k.flat e (.bl b)⟩
theorem opR_rD {f : Value → Value → Sem Value} {g : D → D → Option Bool}
    (h : ∀ (pins : List (Addr × Obj)) (s : Shared) (σ : L2.St) (F H : Hp) (x y : V) (v u : Value) (p q : D) (b : Bool) (Q : Value → Shared → Prop) (E : Value → Shared → Prop), Inv X pins σ H s → RelV x v → RelV y u → Same F H → Vw X.K F H x p → Vw X.K F H y q → g p q = some b → Q (.bool b) s →
      wpAny (model X.prog X.w) X.A (f v u) Q E s) : OpR X f (rD X.K g) := by
  intro pins s σ H x y v u Q I rx ry hq
  obtain ⟨F, p, q, b, e, hx, hy, hg, k⟩ := hq
  exact h pins s σ F H x y v u p q b _ _ I rx ry e hx hy hg ⟨.bl b, H, I, rfl, k⟩
/-- two data that can be ordered -/
def okCmp (p q : D) : Bool := PySem.W.alike p q && (p.plain && (q.plain && (decide (p.depth ≤ 60) && !(match p with | .none => true | _ => false))))
theorem okCmp_of {p q : D} (h : okCmp p q = true) : PySem.W.alike p q = true ∧ p.plain = true ∧ q.plain = true ∧ p.depth ≤ 60 ∧ p ≠ .none := by
  unfold okCmp at h
  simp only [Bool.and_eq_true, decide_eq_true_eq] at h
  obtain ⟨h1, h2, h3, h4, h5⟩ := h
  exact ⟨h1, h2, h3, h4, fun e => by subst e; cases h5⟩
def gLt (p q : D) : Option Bool := if okCmp p q = true then some (PySem.W.dataLt p q) else none
def gGt (p q : D) : Option Bool := if okCmp p q = true then some (PySem.W.dataLt q p) else none
def gLe (p q : D) : Option Bool := if okCmp p q = true then some (!PySem.W.dataLt q p) else none
def gGe (p q : D) : Option Bool := if okCmp p q = true then some (!PySem.W.dataLt p q) else none
theorem ite_some {c : Bool} {α : Type} {a b : α} (h : (if c = true then some a else none) = some b) : c = true ∧ a = b := by
  cases c with
  | true => exact ⟨rfl, Option.some.inj h⟩
  | false => cases h
theorem op_ltD (hu : X.A.units + 64 < cLine) : OpR X (compareOp .Lt) (rD X.K gLt) := opR_rD fun pins s σ F H x y v u p q b Q E I rx ry e hx hy hg k => by
  obtain ⟨hc, rfl⟩ := ite_some hg
  obtain ⟨h1, h2, h3, h4, h5⟩ := okCmp_of hc
  obtain ⟨as, ra⟩ := hx.reads I e h2 rx
  obtain ⟨bs, rb⟩ := hy.reads I e h3 ry
  exact PySem.W.lt_data ra rb h1 h5 (by omega) k
theorem op_gtD (hu : X.A.units + 64 < cLine) : OpR X (compareOp .Gt) (rD X.K gGt) := opR_rD fun pins s σ F H x y v u p q b Q E I rx ry e hx hy hg k => by
  obtain ⟨hc, rfl⟩ := ite_some hg
  obtain ⟨h1, h2, h3, h4, h5⟩ := okCmp_of hc
  obtain ⟨as, ra⟩ := hx.reads I e h2 rx
  obtain ⟨bs, rb⟩ := hy.reads I e h3 ry
  exact PySem.W.gt_data ra rb h1 h5 (by omega) k
theorem op_leD (hu : X.A.units + 64 < cLine) : OpR X (compareOp .LtE) (rD X.K gLe) := opR_rD fun pins s σ F H x y v u p q b Q E I rx ry e hx hy hg k => by
  obtain ⟨hc, rfl⟩ := ite_some hg
  obtain ⟨h1, h2, h3, h4, h5⟩ := okCmp_of hc
  obtain ⟨as, ra⟩ := hx.reads I e h2 rx
  obtain ⟨bs, rb⟩ := hy.reads I e h3 ry
  exact PySem.W.le_data ra rb h1 h5 (by omega) k
theorem op_geD (hu : X.A.units + 64 < cLine) : OpR X (compareOp .GtE) (rD X.K gGe) := opR_rD fun pins s σ F H x y v u p q b Q E I rx ry e hx hy hg k => by
  obtain ⟨hc, rfl⟩ := ite_some hg
  obtain ⟨h1, h2, h3, h4, h5⟩ := okCmp_of hc
  obtain ⟨as, ra⟩ := hx.reads I e h2 rx
  obtain ⟨bs, rb⟩ := hy.reads I e h3 ry
  exact PySem.W.ge_data ra rb h1 h5 (by omega) k
def okEq (p q : D) : Bool := p.plain && (q.plain && decide (min p.depth q.depth ≤ 60))
theorem okEq_of {p q : D} (h : okEq p q = true) : p.plain = true ∧ q.plain = true ∧ min p.depth q.depth ≤ 60 := by
  unfold okEq at h
  simp only [Bool.and_eq_true, decide_eq_true_eq] at h
  exact h
def gEq (p q : D) : Option Bool := if okEq p q = true then some (PyData.eqv p q) else none
def gNe (p q : D) : Option Bool := if okEq p q = true then some (!PyData.eqv p q) else none
theorem op_eqP (hu : X.A.units + 64 < cLine) : OpR X (compareOp .Eq) (rD X.K gEq) := opR_rD fun pins s σ F H x y v u p q b Q E I rx ry e hx hy hg k => by
  obtain ⟨hc, rfl⟩ := ite_some hg
  obtain ⟨h2, h3, h4⟩ := okEq_of hc
  obtain ⟨as, ra⟩ := hx.reads I e h2 rx
  obtain ⟨bs, rb⟩ := hy.reads I e h3 ry
  exact SeqAt.eq_plain ra rb h2 h3 (by omega) k
theorem op_neP (hu : X.A.units + 64 < cLine) : OpR X (compareOp .NotEq) (rD X.K gNe) := opR_rD fun pins s σ F H x y v u p q b Q E I rx ry e hx hy hg k => by
  obtain ⟨hc, rfl⟩ := ite_some hg
  obtain ⟨h2, h3, h4⟩ := okEq_of hc
  obtain ⟨as, ra⟩ := hx.reads I e h2 rx
  obtain ⟨bs, rb⟩ := hy.reads I e h3 ry
  exact SeqAt.ne_plain ra rb h2 h3 (by omega) k
/-- x in a list, a tuple, a text -/
def gIn (p q : D) : Option Bool := match q with
  | .list xs => if okEq p (.list xs) = true then some (xs.any fun z => PyData.eqv z p) else none
  | .tuple xs => if okEq p (.tuple xs) = true then some (xs.any fun z => PyData.eqv z p) else none
  | .str j => (match p with
    | .str i => some (!(Builtin.Str.occurrences j i 0 j.length 1).isEmpty)
    | _ => none)
  | _ => none
def gNotIn (p q : D) : Option Bool := (gIn p q).map (! ·)
theorem plain_list {xs : List D} (h : (PyData.list xs).plain = true) : PyData.plainAll xs = true := by simpa [PyData.plain] using h
theorem plain_tuple {xs : List D} (h : (PyData.tuple xs).plain = true) : PyData.plainAll xs = true := by simpa [PyData.plain] using h
theorem depth_list (xs : List D) : (PyData.list xs).depth = 1 + PyData.depthAll xs := by simp [PyData.depth] <;> omega
theorem depth_tuple (xs : List D) : (PyData.tuple xs).depth = 1 + PyData.depthAll xs := by simp [PyData.depth] <;> omega
theorem op_inP (hu : X.A.units + 64 < cLine) : OpR X (compareOp .In) (rD X.K gIn) := opR_rD fun pins s σ F H x y v u p q b Q E I rx ry e hx hy hg k => by
  cases q with
  | list xs =>
    obtain ⟨hc, rfl⟩ := ite_some hg
    obtain ⟨h2, h3, h4⟩ := okEq_of hc
    obtain ⟨as, ra⟩ := hx.reads I e h2 rx
    obtain ⟨bs, rb⟩ := hy.reads I e h3 ry
    rw [depth_list] at h4
    exact SeqAt.in_list_data rb ra (plain_list h3) h2 (by omega) k
  | tuple xs =>
    obtain ⟨hc, rfl⟩ := ite_some hg
    obtain ⟨h2, h3, h4⟩ := okEq_of hc
    obtain ⟨as, ra⟩ := hx.reads I e h2 rx
    obtain ⟨bs, rb⟩ := hy.reads I e h3 ry
    rw [depth_tuple] at h4
    exact SeqAt.in_tuple_data rb ra (plain_tuple h3) h2 (by omega) k
  | str j =>
    cases p with
    | str i =>
      have hb : (!(Builtin.Str.occurrences j i 0 j.length 1).isEmpty) = b := Option.some.inj hg
      subst hb
      cases (show Rp X.K F x (.str i) from hx)
      cases (show Rp X.K F y (.str j) from hy)
      have hh := op_in_str (X := X) pins s σ H (.str i) (.str j) v u (fun z H' => z = .bl (!(Builtin.Str.occurrences j i 0 j.length 1).isEmpty) ∧ H' = H) I rx ry ⟨i, j, rfl, rfl, rfl, rfl⟩
      obtain ⟨t, rfl⟩ := rx
      obtain ⟨t', rfl⟩ := ry
      exact PySem.P.in_str k
    | _ => cases hg
  | _ => cases hg
end
end CB
end
section
set_option Elab.async false
set_option linter.all false
set_option autoImplicit false
set_option maxRecDepth 100000
set_option maxHeartbeats 4000000
namespace CB
open PySem PySem.Spec PyProof.Rows L2

section
variable {X : Cx}
theorem gNotIn_some {p q : D} {b : Bool} (h : gNotIn p q = some b) : gIn p q = some (!b) := by
  unfold gNotIn at h
  cases hg : gIn p q with
  | none => rw [hg] at h; cases h
  | some c =>
    rw [hg] at h
    have h' : (!c) = b := Option.some.inj h
    subst h'
    rw [Bool.not_not]
theorem op_notInP (hu : X.A.units + 64 < cLine) : OpR X (compareOp .NotIn) (rD X.K gNotIn) := opR_rD fun pins s σ F H x y v u p q b Q E I rx ry e hx hy hg k => by
  have hg := gNotIn_some hg
  cases q with
  | list xs =>
    obtain ⟨hc, hb⟩ := ite_some hg
    obtain ⟨h2, h3, h4⟩ := okEq_of hc
    obtain ⟨as, ra⟩ := hx.reads I e h2 rx
    obtain ⟨bs, rb⟩ := hy.reads I e h3 ry
    rw [depth_list] at h4
    exact SeqAt.notIn_list_data rb ra (plain_list h3) h2 (by omega) (by rw [hb, Bool.not_not]; exact k)
  | tuple xs =>
    obtain ⟨hc, hb⟩ := ite_some hg
    obtain ⟨h2, h3, h4⟩ := okEq_of hc
    obtain ⟨as, ra⟩ := hx.reads I e h2 rx
    obtain ⟨bs, rb⟩ := hy.reads I e h3 ry
    rw [depth_tuple] at h4
    exact SeqAt.notIn_tuple_data rb ra (plain_tuple h3) h2 (by omega) (by rw [hb, Bool.not_not]; exact k)
  | str j =>
    cases p with
    | str i =>
      have hb : (!(Builtin.Str.occurrences j i 0 j.length 1).isEmpty) = !b := Option.some.inj hg
      cases (show Rp X.K F x (.str i) from hx)
      cases (show Rp X.K F y (.str j) from hy)
      obtain ⟨t, rfl⟩ := rx
      obtain ⟨t', rfl⟩ := ry
      exact PyProof.Rows.notIn_str (by rw [hb, Bool.not_not]; exact k)
    | _ => cases hg
  | _ => cases hg
/-- is: of None, of bools -/
def isNoneD : D → Bool
  | .none => true
  | _ => false
def gIs (p q : D) : Option Bool := match q with
  | .none => some (isNoneD p)
  | .bool b => (match p with
    | .bool a => some (decide (a = b))
    | _ => none)
  | _ => none
def gIsNot (p q : D) : Option Bool := match q with
  | .none => some (!isNoneD p)
  | .bool b => (match p with
    | .bool a => some (!decide (a = b))
    | _ => none)
  | _ => none
theorem Vw.isNone {K : PySem.W.Frag} {F H : Hp} {x : V} {p : D} (h : Vw K F H x p) : decide (x = .non) = isNoneD p := by
  cases p with
  | none => cases (show Rp K F x .none from h); rfl
  | bool b => cases (show Rp K F x (.bool b) from h); rfl
  | int b => cases (show Rp K F x (.int b) from h); rfl
  | str b => cases (show Rp K F x (.str b) from h); rfl
  | list b => obtain ⟨a, _, rfl, _⟩ := h; rfl
  | tuple b => cases (show Rp K F x (.tuple b) from h); rfl
  | dict b => obtain ⟨a, rfl, _⟩ := h; rfl
theorem op_isP : OpR X (compareOp .Is) (rD X.K gIs) := by
  intro pins s σ H x y v u Q I rx ry hq
  obtain ⟨F, p, q, b, e, hx, hy, hg, k⟩ := hq
  cases q with
  | none =>
    cases (show Rp X.K F y .none from hy)
    have hb : isNoneD p = b := Option.some.inj hg
    exact op_isN pins s σ H x _ v u Q I rx ry ⟨rfl, by rw [hx.isNone, hb]; exact k⟩
  | bool b' =>
    cases p with
    | bool a =>
      cases (show Rp X.K F y (.bool b') from hy)
      cases (show Rp X.K F x (.bool a) from hx)
      have hb : decide (a = b') = b := Option.some.inj hg
      exact op_isBl pins s σ H _ _ v u Q I rx ry ⟨a, b', rfl, rfl, by rw [hb]; exact k⟩
    | _ => cases hg
  | _ => cases hg
theorem op_isNotP : OpR X (compareOp .IsNot) (rD X.K gIsNot) := by
  intro pins s σ H x y v u Q I rx ry hq
  obtain ⟨F, p, q, b, e, hx, hy, hg, k⟩ := hq
  cases q with
  | none =>
    cases (show Rp X.K F y .none from hy)
    have hb : (!isNoneD p) = b := Option.some.inj hg
    exact op_notN pins s σ H x _ v u Q I rx ry ⟨rfl, by rw [hx.isNone, hb]; exact k⟩
  | bool b' =>
    cases p with
    | bool a =>
      cases (show Rp X.K F y (.bool b') from hy)
      cases (show Rp X.K F x (.bool a) from hx)
      have hb : (!decide (a = b')) = b := Option.some.inj hg
      exact op_notBl pins s σ H _ _ v u Q I rx ry ⟨a, b', rfl, rfl, by rw [hb]; exact k⟩
    | _ => cases hg
  | _ => cases hg

/-! ### arithmetic -/
def lim : Nat := 1000000
theorem lim_line : lim ≤ sizeLine := by decide
def oAdd : D → D → Option D
  | .int i, .int j => some (.int (i + j))
  | .str x, .str y => if x.length + y.length ≤ lim then some (.str (x ++ y)) else none
  | .tuple xs, .tuple ys => if xs.length + ys.length ≤ lim then some (.tuple (xs ++ ys)) else none
  | _, _ => none
def rAddU (K : PySem.W.Frag) : R2 := fun x y H Q => rI0 (fun i j => .int (i + j)) x y H Q ∨ (∃ i j, x = .str i ∧ y = .str j ∧ i.length + j.length ≤ sizeLine ∧ Q (.str (i ++ j)) H) ∨ rCatA K x y H Q
theorem op_addU : OpR X (binaryOp .Add) (rAddU X.K) := op_add.or (op_add_str.or op_catA)
theorem opD_addU : OpD X (rAddU X.K) oAdd := fun F H x y p q z Q e hx hy hz k => by
  unfold oAdd at hz
  split at hz
  · rename_i i j
    cases (show Rp X.K F x (.int i) from hx)
    cases (show Rp X.K F y (.int j) from hy)
    have hz' := Option.some.inj hz
    subst hz'
    exact .inl ⟨i, j, rfl, rfl, k.flat e (.int _)⟩
  · rename_i i j
    cases (show Rp X.K F x (.str i) from hx)
    cases (show Rp X.K F y (.str j) from hy)
    split at hz
    · rename_i hl
      have hz' := Option.some.inj hz
      subst hz'
      exact .inr (.inl ⟨i, j, rfl, rfl, Nat.le_trans hl lim_line, k.flat e (.str _)⟩)
    · cases hz
  · rename_i xs ys
    split at hz
    · rename_i hl
      have hz' := Option.some.inj hz
      subst hz'
      cases (show Rp X.K F x (.tuple xs) from hx) with
      | tup ha ra =>
        cases (show Rp X.K F y (.tuple ys) from hy) with
        | tup hb rb =>
          rename_i a vs b ws
          refine .inr (.inr ⟨a, b, vs, ws, rfl, rfl, same_t e ha, same_t e hb, by rw [ra.length, rb.length]; exact Nat.le_trans hl lim_line, fun h0 => ?_, fun h0 h1 => ?_, fun h0 h1 p hp => ?_⟩)
          · subst h0
            cases ra
            exact k.flat e (.tup hb rb)
          · subst h1
            cases rb
            rw [List.append_nil] at k
            exact k.flat e (.tup ha ra)
          · exact k.newT e hp (ra.append rb)
    · cases hz
  · cases hz
theorem se_add {W : WX} {a b : Expr} {fa fb : dE} {pos : Pos} (ha : SE X W a fa) (hb : SE X W b fb) : SE X W (.BinOp a .Add b pos) (dOp2 oAdd fa fb) := se_bin op_addU opD_addU ha hb
def oI (C : Int → Int → Bool) (g : Int → Int → Int) : D → D → Option D
  | .int i, .int j => if C i j = true then some (.int (g i j)) else none
  | _, _ => none
theorem opD_I {C : Int → Int → Bool} {C' : Int → Int → Prop} {g : Int → Int → Int} (hC : ∀ i j, C i j = true → C' i j) : OpD X (rI C' fun i j => .int (g i j)) (oI C g) := fun F H x y p q z Q e hx hy hz k => by
  unfold oI at hz
  split at hz
  · rename_i i j
    cases (show Rp X.K F x (.int i) from hx)
    cases (show Rp X.K F y (.int j) from hy)
    split at hz
    · rename_i hc
      have hz' := Option.some.inj hz
      subst hz'
      exact ⟨i, j, rfl, rfl, hC i j hc, k.flat e (.int _)⟩
    · cases hz
  · cases hz
def oI0 (g : Int → Int → Int) : D → D → Option D
  | .int i, .int j => some (.int (g i j))
  | _, _ => none
theorem opD_I0 {g : Int → Int → Int} : OpD X (rI0 fun i j => .int (g i j)) (oI0 g) := fun F H x y p q z Q e hx hy hz k => by
  unfold oI0 at hz
  split at hz
  · rename_i i j
    cases (show Rp X.K F x (.int i) from hx)
    cases (show Rp X.K F y (.int j) from hy)
    have hz' := Option.some.inj hz
    subst hz'
    exact ⟨i, j, rfl, rfl, k.flat e (.int _)⟩
  · cases hz
variable {W : WX} {a b : Expr} {fa fb : dE} {pos : Pos}
def oSub := oI0 fun i j => i - j
theorem se_sub (ha : SE X W a fa) (hb : SE X W b fb) : SE X W (.BinOp a .Sub b pos) (dOp2 oSub fa fb) := se_bin op_sub opD_I0 ha hb
/-- one factor below 2^64, or both below 2^400000 -/
def cMul (i j : Int) : Bool := decide (i.natAbs < 18446744073709551616) || (decide (j.natAbs < 18446744073709551616) || decide (i.natAbs.log2 + j.natAbs.log2 < 1000000))
theorem cMul_ok {i j : Int} (h : cMul i j = true) : CMul i j ∨ CMulW i j := by
  unfold cMul at h
  simp only [Bool.or_eq_true, decide_eq_true_eq] at h
  rcases h with h | h | h
  · exact .inl (.inl (by omega))
  · exact .inl (.inr (by omega))
  · exact .inr h
theorem op_mulAny : OpR X (binaryOp .Mult) (rI (fun i j => CMul i j ∨ CMulW i j) fun i j => .int (i * j)) := by
  intro pins s σ H x y v u Q I rx ry h
  obtain ⟨i, j, e1, e2, h | h, q⟩ := h
  · exact op_mul pins s σ H x y v u Q I rx ry ⟨i, j, e1, e2, h, q⟩
  · exact op_mulW pins s σ H x y v u Q I rx ry ⟨i, j, e1, e2, h, q⟩
def oMulI := oI cMul fun i j => i * j
theorem se_mulI (ha : SE X W a fa) (hb : SE X W b fb) : SE X W (.BinOp a .Mult b pos) (dOp2 oMulI fa fb) := se_bin op_mulAny (opD_I fun _ _ => cMul_ok) ha hb
/-- // and %: a divisor above 0 (// : below 2^8999) -/
def cDiv (_ j : Int) : Bool := decide (0 < j.toNat) && decide (j.natAbs.log2 < 9000)
def oDiv := oI cDiv fun i j => i / j
theorem se_div (ha : SE X W a fa) (hb : SE X W b fb) : SE X W (.BinOp a .FloorDiv b pos) (dOp2 oDiv fa fb) := se_bin op_fdivW (opD_I fun i j h => by
  unfold cDiv at h
  simp only [Bool.and_eq_true, decide_eq_true_eq] at h
  exact ⟨by omega, h.2⟩) ha hb
def oMod := oI (fun _ j => decide (0 < j.toNat)) fun i j => i % j
theorem se_mod (ha : SE X W a fa) (hb : SE X W b fb) : SE X W (.BinOp a .Mod b pos) (dOp2 oMod fa fb) := se_bin op_mod (opD_I fun i j h => by have := of_decide_eq_true h; omega) ha hb
def cPow (i j : Int) : Bool := decide (0 ≤ j) && (decide (j.toNat ≤ 1000000) && decide (i.natAbs < 18446744073709551616))
def oPow := oI cPow fun i j => i ^ j.toNat
theorem se_pow (ha : SE X W a fa) (hb : SE X W b fb) : SE X W (.BinOp a .Pow b pos) (dOp2 oPow fa fb) := se_bin op_pow (opD_I fun i j h => by
  unfold cPow at h
  simp only [Bool.and_eq_true, decide_eq_true_eq] at h
  exact ⟨h.1, by omega, by omega⟩) ha hb
def oNeg : D → Option D
  | .int i => some (.int (-i))
  | _ => none
theorem unD_neg : UnD X (rU fun i => .int (-i)) oNeg := fun F H x p z Q e hx hz k => by
  unfold oNeg at hz
  split at hz
  · rename_i i
    cases (show Rp X.K F x (.int i) from hx)
    have hz' := Option.some.inj hz
    subst hz'
    exact ⟨i, rfl, k.flat e (.int _)⟩
  · cases hz
theorem se_neg (ha : SE X W a fa) : SE X W (.UnaryOp .USub a pos) (dOp1 oNeg fa) := se_un un_neg unD_neg ha

/-! ### lists put together: new ones -/
/-- a two-place operation that makes a new list -/
def OpF (X : Cx) (r : R2) (f : D → D → Option D) : Prop := ∀ (F H : Hp) (x y : V) (p q z : D) (Q : VK), Same F H → Vw X.K F H x p → Vw X.K F H y q → f p q = some z → FPost X.K F H z Q → r x y H Q
theorem OpF.d {r : R2} {f : D → D → Option D} (h : OpF X r f) : OpD X r f := fun F H x y p q z Q e hx hy hz k => h F H x y p q z Q e hx hy hz (.of k)
def nOp2 (f : D → D → Option D) (a b : dE) : Env → Sto → R D := fun ρ st => (a ρ st).bind fun x st1 => (b ρ st1).bind fun y st2 => match der st2 x, der st2 y with
  | some p, some q => (match f p q with
    | some z => .ok z st2
    | none => .bad)
  | _, _ => .bad
theorem sf_2 {r : R2} {f : D → D → Option D} {e : Expr} (hD : OpF X r f) (mk : ∀ ta tb, PE X a ta → PE X b tb → PE X e (tOp r ta tb)) (ha : SE X W a fa) (hb : SE X W b fb) : SF X W e (nOp2 f fa fb) := by
  obtain ⟨ta, pa, ka⟩ := ha
  obtain ⟨tb, pb, kb⟩ := hb
  refine ⟨_, mk ta tb pa pb, fun ρ st F bs σ H Q b e h => ?_⟩
  refine ka ρ st F bs σ H _ b e (Ok.bind h fun x r1 st1 F1 H1 _ s1 b1 q1 h => ?_)
  refine kb ρ st1 F1 bs σ H1 _ b1 (e.mono s1.ex) (Ok.bind h fun y r2 st2 F2 H2 _ s2 b2 q2 h => ?_)
  cases h1 : der st2 r1 with
  | none => rw [h1] at h; exact h.elim
  | some p =>
    cases h2 : der st2 r2 with
    | none => rw [h1, h2] at h; exact h.elim
    | some q =>
      rw [h1, h2] at h
      cases h3 : f p q with
      | none => simp only [h3] at h; exact h.elim
      | some z =>
        simp only [h3] at h
        refine hD F2 H2 x y p q z Q b2.ex (vw_of b2 (q1.mono s2.ex) h1) (vw_of b2 q2 h2) h3 fun a F' H' g hn hf ht => ?_
        refine h (.ref a) F' H' (g.stp bs) (b2.gro g) ⟨a, rfl, ?_, hf, ht⟩
        cases z : H a with
        | none => rfl
        | some o => exact absurd hn ((s1.trans s2).there a (by rw [z]; exact some_ne))
/-- a new object is frozen -/
theorem freeze {K : PySem.W.Frag} {F H F1 H1 : Hp} {bs : List Addr} {st st1 : Sto} {a : Addr} {p : D} (b : RepB K F bs st H) (b1 : RepB K F1 bs st1 H1) (s1 : Stp F H bs F1 H1) (hn : H a = none) (hf : F1 a = none) (ht : Top K F1 H1 a p) :
    ∃ F2, Stp F H bs F2 H1 ∧ RepB K F2 bs st1 H1 ∧ Rp K F2 (.ref a) p := by
  obtain ⟨o, ho⟩ : ∃ o, H1 a = some o := Option.ne_none_iff_exists'.mp (Top.th ht)
  have e1 : Same F1 (upd F1 a o) := fun b u q => by rw [upd_ne (ne_of_none q hf)]; exact q
  have nin : a ∉ bs := fun z => b.there z hn
  refine ⟨upd F1 a o, ⟨s1.ex.trans e1, fun c hc => ?_, s1.keep, s1.there⟩, ⟨fun b u q => ?_, b1.len, b1.nd, fun i c p h1 h2 => ?_⟩, ?_⟩
  · by_cases z : c = a
    · subst z; exact .inr hn
    · rw [upd_ne z] at hc; exact s1.nw c hc
  · by_cases z : b = a
    · subst z; rw [upd_same] at q; rw [← q]; exact ho
    · rw [upd_ne z] at q; exact b1.ex b u q
  · have hx := b1.at_ i c p h1 h2
    have hc : c ≠ a := fun z => nin (z ▸ List.mem_of_getElem? h1)
    cases p with
    | list ds => exact ⟨by rw [upd_ne hc]; exact hx.1, Top.mono hx.2 e1 fun o e => e⟩
    | dict kvs => exact ⟨by rw [upd_ne hc]; exact hx.1, Top.mono hx.2 e1 fun o e => e⟩
    | _ => exact hx
  · cases p with
    | list ds =>
      obtain ⟨xs, q, r⟩ := ht
      rw [ho] at q
      exact .lst (.of (by rw [upd_same, q])) (r.mono e1)
    | dict kvs =>
      rcases ht with ⟨ks, ds, rfl, q, r⟩ | ⟨ks, ds, rfl, q, r⟩
      · rw [ho] at q
        exact .dicK (.of (by rw [upd_same, q])) (r.mono e1)
      · rw [ho] at q
        exact .dicT (by rw [upd_same, q]) (r.mono e1)
    | _ => exact ht.elim
/-- a new object, frozen at once -/
def dNew (f : Env → Sto → R D) : dE := fun ρ st => (f ρ st).bind fun p st1 => .ok (.d p) st1
theorem se_new {e : Expr} {f : Env → Sto → R D} (h : SF X W e f) : SE X W e (dNew f) := by
  obtain ⟨t, pe, k⟩ := h
  refine ⟨t, pe, fun ρ st F bs σ H Q b e h => k ρ st F bs σ H Q b e ?_⟩
  unfold dNew at h
  cases hr : f ρ st with
  | bad => rw [hr] at h; exact h.elim
  | ex c x st1 => rw [hr] at h; exact h
  | ok p st1 =>
    rw [hr] at h
    intro v F1 H1 s1 b1 q1
    obtain ⟨a, rfl, hn, hf, ht⟩ := q1
    obtain ⟨F2, g, b2, r⟩ := freeze b b1 s1 hn hf ht
    exact h (.ref a) F2 H1 g b2 r
end
end CB
end
section
set_option Elab.async false
set_option linter.all false
set_option autoImplicit false
set_option maxRecDepth 100000
set_option maxHeartbeats 4000000
namespace CB
open PySem PySem.Spec PyProof.Rows L2
section
variable {X : Cx} {W : WX} {a b c e : Expr} {fa fb fc : dE} {pos : Pos}

/-! ### truth -/
def gTru : D → Option Bool
  | .none => some false
  | .bool b => some b
  | .int i => some (i != 0)
  | .str y => if y.length ≤ lim then some ((y.length : Int) != 0) else none
  | .list xs => some (!xs.isEmpty)
  | .tuple xs => some (!xs.isEmpty)
  | _ => none
theorem RpL.empty {K : PySem.W.Frag} {F : Hp} {xs : List V} {ds : List D} (h : RpL K F xs ds) : xs.isEmpty = ds.isEmpty := by
  cases h <;> rfl
theorem tru_of {K : PySem.W.Frag} {F H : Hp} {x : V} {p : D} {k : Bool} (e : Same F H) (h : Vw K F H x p) (hg : gTru p = some k) : TruV K x H k := by
  cases p with
  | none => cases (show Rp K F x .none from h); exact (Option.some.inj hg).symm
  | bool b => cases (show Rp K F x (.bool b) from h); exact (Option.some.inj hg).symm
  | int b => cases (show Rp K F x (.int b) from h); exact (Option.some.inj hg).symm
  | str y =>
    cases (show Rp K F x (.str y) from h)
    simp only [gTru] at hg
    split at hg
    · rename_i hl
      exact ⟨Nat.le_trans hl lim_line, (Option.some.inj hg).symm⟩
    · cases hg
  | list ds =>
    obtain ⟨a, xs, rfl, h1, h2⟩ := h
    exact .inl ⟨xs, .inl h1, by rw [h2.empty]; exact (Option.some.inj hg).symm⟩
  | tuple ds =>
    cases (show Rp K F x (.tuple ds) from h) with
    | tup h1 h2 => exact .inr (.inl ⟨_, same_t e h1, by rw [h2.empty]; exact (Option.some.inj hg).symm⟩)
  | dict kvs => cases hg
/-- a value's truth in the state -/
def truS (st : Sto) (r : SV) : Option Bool := match der st r with
  | some p => gTru p
  | none => none
theorem truS_of {K : PySem.W.Frag} {F H : Hp} {bs : List Addr} {st : Sto} {v : V} {r : SV} {k : Bool} (b : RepB K F bs st H) (q : SRp K F bs v r) (h : truS st r = some k) : TruV K v H k := by
  unfold truS at h
  cases h1 : der st r with
  | none => rw [h1] at h; cases h
  | some p =>
    rw [h1] at h
    exact tru_of b.ex (vw_of b q h1) h
def dTru (f : dE) : Env → Sto → R Bool := fun ρ st => (f ρ st).bind fun x st1 => match truS st1 x with
  | some k => .ok k st1
  | none => .bad
theorem st_val (ha : SE X W a fa) (he : ∀ whole, isTrue a X.env whole = (do let v ← whole; standAt a.pos; holding [v] (truthy v)) := by intro _; rfl) : ST X W a (dTru fa) := by
  obtain ⟨ta, pa, ka⟩ := ha
  refine ⟨_, pt_truth pa he, fun ρ st F bs σ H Q b e h => ?_⟩
  refine ka ρ st F bs σ H _ b e (Ok.bind h fun x r1 st1 F1 H1 _ s1 b1 q1 h => ?_)
  cases h1 : truS st1 r1 with
  | none => rw [h1] at h; exact h.elim
  | some k =>
    rw [h1] at h
    exact ⟨k, truS_of b1 q1 h1, h.ret b1 rfl⟩
/-- a comparison as a test -/
def dTest (f : dE) : Env → Sto → R Bool := fun ρ st => (f ρ st).bind fun x st1 => match x with
  | .d (.bool k) => .ok k st1
  | _ => .bad
theorem st_of {t : TE} (hp : PT X e (tTest t)) {f : dE} (k : ∀ ρ st F bs σ H Q, RepB X.K F bs st H → EnvR X.K F bs ρ σ → Ok X.K W σ F H bs (relE X.K bs) Q (f ρ st) → t σ H Q) : ST X W e (dTest f) := by
  refine ⟨_, hp, fun ρ st F bs σ H Q b e h => ?_⟩
  refine k ρ st F bs σ H _ b e (Ok.bind h fun x r1 st1 F1 H1 _ s1 b1 q1 h => ?_)
  cases r1 with
  | box i => exact h.elim
  | d p =>
    cases p with
    | bool k =>
      cases q1
      exact ⟨k, rfl, h.ret b1 rfl⟩
    | _ => exact h.elim
theorem st_cmp {op : CmpOp} {r : R2} {f : D → D → Option D} (ho : OpR X (compareOp op) r) (hD : OpD X r f) (ha : SE X W a fa) (hb : SE X W b fb) (hm : behindInMarks op b = false := by first | exact nomark _ | rfl) : ST X W (.Compare a [op] [b] pos) (dTest (dOp2 f fa fb)) := by
  obtain ⟨ta, pa, ka⟩ := ha
  obtain ⟨tb, pb, kb⟩ := hb
  refine st_of (pt_cmpR ho pa pb hm) fun ρ st F bs σ H Q b e h => ?_
  refine ka ρ st F bs σ H _ b e (Ok.bind h fun x r1 st1 F1 H1 _ s1 b1 q1 h => ?_)
  refine kb ρ st1 F1 bs σ H1 _ b1 (e.mono s1.ex) (Ok.bind h fun y r2 st2 F2 H2 _ s2 b2 q2 h => ?_)
  obtain ⟨p, q, z, vx, vy, hz, k⟩ := op2_core b2 (q1.mono s2.ex) q2 h
  exact hD F2 H2 x y p q z Q b2.ex vx vy hz k
/-- a op b op' c -/
def dChain (g g' : D → D → Option Bool) (fa fb fc : dE) : dE := fun ρ st => (fa ρ st).bind fun x st1 => (fb ρ st1).bind fun y st2 => match der st2 x, der st2 y with
  | some p, some q => (match g p q with
    | some true => (fc ρ st2).bind fun z st3 => (match der st3 y, der st3 z with
      | some q, some r => (match g' q r with
        | some k => .ok (.d (.bool k)) st3
        | none => .bad)
      | _, _ => .bad)
    | some false => .ok (.d (.bool false)) st2
    | none => .bad)
  | _, _ => .bad
theorem chain_core {g g' : D → D → Option Bool} (ha : SE X W a fa) (hb : SE X W b fb) (hc : SE X W c fc) : ∃ ta tb tc, PE X a ta ∧ PE X b tb ∧ PE X c tc ∧ ∀ ρ st F bs σ H Q, RepB X.K F bs st H → EnvR X.K F bs ρ σ → Ok X.K W σ F H bs (relE X.K bs) Q (dChain g g' fa fb fc ρ st) → tChain (rD X.K g) (rD X.K g') ta tb tc σ H Q := by
  obtain ⟨ta, pa, ka⟩ := ha
  obtain ⟨tb, pb, kb⟩ := hb
  obtain ⟨tc, pc, kc⟩ := hc
  refine ⟨ta, tb, tc, pa, pb, pc, fun ρ st F bs σ H Q b e h => ?_⟩
  refine ka ρ st F bs σ H _ b e (Ok.bind h fun x r1 st1 F1 H1 _ s1 b1 q1 h => ?_)
  refine kb ρ st1 F1 bs σ H1 _ b1 (e.mono s1.ex) (Ok.bind h fun y r2 st2 F2 H2 _ s2 b2 q2 h => ?_)
  cases h1 : der st2 r1 with
  | none => rw [h1] at h; exact h.elim
  | some p =>
    cases h2 : der st2 r2 with
    | none => rw [h1, h2] at h; exact h.elim
    | some q =>
      rw [h1, h2] at h
      cases h3 : g p q with
      | none => simp only [h3] at h; exact h.elim
      | some k =>
        refine ⟨F2, p, q, k, b2.ex, vw_of b2 (q1.mono s2.ex) h1, vw_of b2 q2 h2, h3, k, rfl, ?_⟩
        cases k with
        | false =>
          simp only [h3] at h
          rw [if_neg Bool.false_ne_true]
          exact h.ret b2 (Rp.bl false)
        | true =>
          simp only [h3] at h
          rw [if_pos rfl]
          refine kc ρ st2 F2 bs σ H2 _ b2 ((e.mono s1.ex).mono s2.ex) (Ok.bind h fun z r3 st3 F3 H3 _ s3 b3 q3 h => ?_)
          cases h4 : der st3 r2 with
          | none => rw [h4] at h; exact h.elim
          | some q' =>
            cases h5 : der st3 r3 with
            | none => rw [h4, h5] at h; exact h.elim
            | some r =>
              rw [h4, h5] at h
              cases h6 : g' q' r with
              | none => simp only [h6] at h; exact h.elim
              | some k' =>
                simp only [h6] at h
                exact ⟨F3, q', r, k', b3.ex, vw_of b3 (q2.mono s3.ex) h4, vw_of b3 q3 h5, h6, h.ret b3 (Rp.bl k')⟩
theorem se_chain {op op' : CmpOp} {g g' : D → D → Option Bool} (ho : OpR X (compareOp op) (rD X.K g)) (ho' : OpR X (compareOp op') (rD X.K g')) (ha : SE X W a fa) (hb : SE X W b fb) (hc : SE X W c fc)
    (hm : lastMarks [op, op'] [b, c] = false := by with_unfolding_all rfl) : SE X W (.Compare a [op, op'] [b, c] pos) (dChain g g' fa fb fc) := by
  obtain ⟨ta, tb, tc, pa, pb, pc, k⟩ := chain_core (g := g) (g' := g') ha hb hc
  exact ⟨_, pe_chain ho ho' pa pb pc hm, k⟩
theorem st_chain {op op' : CmpOp} {g g' : D → D → Option Bool} (ho : OpR X (compareOp op) (rD X.K g)) (ho' : OpR X (compareOp op') (rD X.K g')) (ha : SE X W a fa) (hb : SE X W b fb) (hc : SE X W c fc)
    (hm : lastMarks [op, op'] [b, c] = false := by with_unfolding_all rfl) : ST X W (.Compare a [op, op'] [b, c] pos) (dTest (dChain g g' fa fb fc)) := by
  obtain ⟨ta, tb, tc, pa, pb, pc, k⟩ := chain_core (g := g) (g' := g') ha hb hc
  exact st_of (pt_chain ho ho' pa pb pc hm) k

/-! ### and, or, not -/
/-- a test whatever its whole is -/
def SW (X : Cx) (W : WX) (e : Expr) (f : Env → Sto → R Bool) : Prop := ∃ t, PW X e t ∧ ∀ ρ st F bs σ H Q, RepB X.K F bs st H → EnvR X.K F bs ρ σ → Ok X.K W σ F H bs relB Q (f ρ st) → t σ H Q
theorem SW.st {f : Env → Sto → R Bool} (h : SW X W e f) : ST X W e f := let ⟨t, p, k⟩ := h; ⟨t, p.pt, k⟩
variable {ga gb : Env → Sto → R Bool} {rest : List Expr}
theorem sw_and1 (h : ST X W a ga) : SW X W (.BoolOp .And [a] pos) ga := let ⟨t, p, k⟩ := h; ⟨t, pw_and1 p, k⟩
theorem sw_or1 (h : ST X W a ga) : SW X W (.BoolOp .Or [a] pos) ga := let ⟨t, p, k⟩ := h; ⟨t, pw_or1 p, k⟩
def tdAnd (ga gb : Env → Sto → R Bool) : Env → Sto → R Bool := fun ρ st => (ga ρ st).bind fun k st1 => if k = true then gb ρ st1 else .ok false st1
def tdOr (ga gb : Env → Sto → R Bool) : Env → Sto → R Bool := fun ρ st => (ga ρ st).bind fun k st1 => if k = true then .ok true st1 else gb ρ st1
def tdNot (ga : Env → Sto → R Bool) : Env → Sto → R Bool := fun ρ st => (ga ρ st).bind fun k st1 => .ok (!k) st1
theorem sw_and (ha : ST X W a ga) (hb : SW X W (.BoolOp .And (b :: rest) pos) gb) : SW X W (.BoolOp .And (a :: b :: rest) pos) (tdAnd ga gb) := by
  obtain ⟨ta, pa, ka⟩ := ha
  obtain ⟨tb, pb, kb⟩ := hb
  refine ⟨_, pw_and pa pb, fun ρ st F bs σ H Q b e h => ?_⟩
  refine ka ρ st F bs σ H _ b e (Ok.bind h fun x r1 st1 F1 H1 _ s1 b1 q1 h => ?_)
  cases (show x = r1 from q1)
  cases x with
  | true =>
    rw [if_pos rfl] at h ⊢
    exact kb ρ st1 F1 bs σ H1 _ b1 (e.mono s1.ex) h
  | false =>
    rw [if_neg Bool.false_ne_true] at h ⊢
    exact h.ret b1 rfl
theorem sw_or (ha : ST X W a ga) (hb : SW X W (.BoolOp .Or (b :: rest) pos) gb) : SW X W (.BoolOp .Or (a :: b :: rest) pos) (tdOr ga gb) := by
  obtain ⟨ta, pa, ka⟩ := ha
  obtain ⟨tb, pb, kb⟩ := hb
  refine ⟨_, pw_or pa pb, fun ρ st F bs σ H Q b e h => ?_⟩
  refine ka ρ st F bs σ H _ b e (Ok.bind h fun x r1 st1 F1 H1 _ s1 b1 q1 h => ?_)
  cases (show x = r1 from q1)
  cases x with
  | false =>
    rw [if_neg Bool.false_ne_true] at h ⊢
    exact kb ρ st1 F1 bs σ H1 _ b1 (e.mono s1.ex) h
  | true =>
    rw [if_pos rfl] at h ⊢
    exact h.ret b1 rfl
theorem st_not (ha : ST X W a ga) : ST X W (.UnaryOp .Not a pos) (tdNot ga) := by
  obtain ⟨ta, pa, ka⟩ := ha
  refine ⟨_, pt_not pa, fun ρ st F bs σ H Q b e h => ?_⟩
  refine ka ρ st F bs σ H _ b e (Ok.bind h fun x r1 st1 F1 H1 _ s1 b1 q1 h => ?_)
  cases (show x = r1 from q1)
  exact h.ret b1 rfl
/-- .. as values -/
theorem se_one {op : BoolOp} (h : SE X W a fa) : SE X W (.BoolOp op [a] pos) fa := let ⟨t, p, k⟩ := h; ⟨t, pe_one p, k⟩
def dAnd (fa fb : dE) : dE := fun ρ st => (fa ρ st).bind fun x st1 => match truS st1 x with
  | some true => fb ρ st1
  | some false => .ok x st1
  | none => .bad
def dOr (fa fb : dE) : dE := fun ρ st => (fa ρ st).bind fun x st1 => match truS st1 x with
  | some true => .ok x st1
  | some false => fb ρ st1
  | none => .bad
theorem se_and (ha : SE X W a fa) (hb : SE X W (.BoolOp .And (b :: rest) pos) fb) : SE X W (.BoolOp .And (a :: b :: rest) pos) (dAnd fa fb) := by
  obtain ⟨ta, pa, ka⟩ := ha
  obtain ⟨tb, pb, kb⟩ := hb
  refine ⟨_, pe_andT pa pb, fun ρ st F bs σ H Q b e h => ?_⟩
  refine ka ρ st F bs σ H _ b e (Ok.bind h fun x r1 st1 F1 H1 _ s1 b1 q1 h => ?_)
  cases h1 : truS st1 r1 with
  | none => rw [h1] at h; exact h.elim
  | some k =>
    refine ⟨k, truS_of b1 q1 h1, ?_⟩
    rw [h1] at h
    cases k with
    | true => rw [if_pos rfl]; exact kb ρ st1 F1 bs σ H1 _ b1 (e.mono s1.ex) h
    | false => rw [if_neg Bool.false_ne_true]; exact h.ret b1 q1
theorem se_or (ha : SE X W a fa) (hb : SE X W (.BoolOp .Or (b :: rest) pos) fb) : SE X W (.BoolOp .Or (a :: b :: rest) pos) (dOr fa fb) := by
  obtain ⟨ta, pa, ka⟩ := ha
  obtain ⟨tb, pb, kb⟩ := hb
  refine ⟨_, pe_orT pa pb, fun ρ st F bs σ H Q b e h => ?_⟩
  refine ka ρ st F bs σ H _ b e (Ok.bind h fun x r1 st1 F1 H1 _ s1 b1 q1 h => ?_)
  cases h1 : truS st1 r1 with
  | none => rw [h1] at h; exact h.elim
  | some k =>
    refine ⟨k, truS_of b1 q1 h1, ?_⟩
    rw [h1] at h
    cases k with
    | false => rw [if_neg Bool.false_ne_true]; exact kb ρ st1 F1 bs σ H1 _ b1 (e.mono s1.ex) h
    | true => rw [if_pos rfl]; exact h.ret b1 q1
def dNot (fa : dE) : dE := fun ρ st => (fa ρ st).bind fun x st1 => match truS st1 x with
  | some k => .ok (.d (.bool (!k))) st1
  | none => .bad
theorem se_not (ha : SE X W a fa) : SE X W (.UnaryOp .Not a pos) (dNot fa) := by
  obtain ⟨ta, pa, ka⟩ := ha
  refine ⟨_, pe_notT pa, fun ρ st F bs σ H Q b e h => ?_⟩
  refine ka ρ st F bs σ H _ b e (Ok.bind h fun x r1 st1 F1 H1 _ s1 b1 q1 h => ?_)
  cases h1 : truS st1 r1 with
  | none => rw [h1] at h; exact h.elim
  | some k =>
    rw [h1] at h
    exact ⟨k, truS_of b1 q1 h1, h.ret b1 (Rp.bl _)⟩
/-- a if t else b -/
def dIf (g : Env → Sto → R Bool) (fa fb : dE) : dE := fun ρ st => (g ρ st).bind fun k st1 => if k = true then fa ρ st1 else fb ρ st1
theorem se_if {g : Env → Sto → R Bool} (hc : ST X W c g) (ha : SE X W a fa) (hb : SE X W b fb) : SE X W (.IfExp c a b pos) (dIf g fa fb) := by
  obtain ⟨tc, pc, kc⟩ := hc
  obtain ⟨ta, pa, ka⟩ := ha
  obtain ⟨tb, pb, kb⟩ := hb
  refine ⟨_, pe_ifExp pc pa pb, fun ρ st F bs σ H Q b e h => ?_⟩
  refine kc ρ st F bs σ H _ b e (Ok.bind h fun x r1 st1 F1 H1 _ s1 b1 q1 h => ?_)
  cases (show x = r1 from q1)
  cases x with
  | true =>
    rw [if_pos rfl] at h ⊢
    exact ka ρ st1 F1 bs σ H1 _ b1 (e.mono s1.ex) h
  | false =>
    rw [if_neg Bool.false_ne_true] at h ⊢
    exact kb ρ st1 F1 bs σ H1 _ b1 (e.mono s1.ex) h

/-! ### arguments, displays -/
variable {es : List Expr} {gs : Env → Sto → R (List SV)}
def aNil : Env → Sto → R (List SV) := fun _ st => .ok [] st
def aCons (f : dE) (g : Env → Sto → R (List SV)) : Env → Sto → R (List SV) := fun ρ st => (f ρ st).bind fun x st1 => (g ρ st1).bind fun xs st2 => .ok (x :: xs) st2
theorem sa_nil : SA X W [] aNil := ⟨_, pa_nil, fun ρ st F bs σ H Q b e h => h.ret b .nil⟩
theorem sa_cons (ha : SE X W a fa) (hr : SA X W es gs) (hs : starEach (a :: es) X.env = (false, eval a X.env) :: starEach es X.env := by rfl) : SA X W (a :: es) (aCons fa gs) := by
  obtain ⟨ta, pa, ka⟩ := ha
  obtain ⟨tr, pr, kr⟩ := hr
  refine ⟨_, pa_cons pa pr hs, fun ρ st F bs σ H Q b e h => ?_⟩
  refine ka ρ st F bs σ H _ b e (Ok.bind h fun x r1 st1 F1 H1 _ s1 b1 q1 h => ?_)
  refine kr ρ st1 F1 bs σ H1 _ b1 (e.mono s1.ex) (Ok.bind h fun y r2 st2 F2 H2 _ s2 b2 q2 h => ?_)
  exact h.ret b2 (.cons (q1.mono s2.ex) q2)
/-- all are data -/
def unD : List SV → Option (List D)
  | [] => some []
  | .d p :: r => (unD r).map (p :: ·)
  | .box _ :: _ => none
theorem unD_rp {K : PySem.W.Frag} {F : Hp} {bs : List Addr} : ∀ {vs : List V} {rs : List SV} {ds : List D}, SRpL K F bs vs rs → unD rs = some ds → RpL K F vs ds
  | _, _, _, .nil, h => by cases h; exact .nil
  | _, .d p :: r, ds, .cons q t, h => by
    unfold unD at h
    cases hr : unD r with
    | none => rw [hr] at h; cases h
    | some es =>
      rw [hr] at h
      have h' : p :: es = ds := Option.some.inj h
      subst h'
      exact .cons q (unD_rp t hr)
  | _, .box _ :: _, _, .cons _ _, h => by cases h
def dTup (g : Env → Sto → R (List SV)) : dE := fun ρ st => (g ρ st).bind fun rs st1 => match unD rs with
  | some ds => if ds.length ≤ lim then .ok (.d (.tuple ds)) st1 else .bad
  | none => .bad
def nLst (g : Env → Sto → R (List SV)) : Env → Sto → R D := fun ρ st => (g ρ st).bind fun rs st1 => match unD rs with
  | some ds => if ds.length ≤ lim then .ok (.list ds) st1 else .bad
  | none => .bad
theorem se_tup {k} (h : SA X W es gs) : SE X W (.Tuple es k pos) (dTup gs) := by
  obtain ⟨t, p, k⟩ := h
  refine ⟨_, pe_tup p, fun ρ st F bs σ H Q b e h => ?_⟩
  refine k ρ st F bs σ H _ b e (Ok.bind h fun x r1 st1 F1 H1 _ s1 b1 q1 h => ?_)
  cases h1 : unD r1 with
  | none => rw [h1] at h; exact h.elim
  | some ds =>
    simp only [h1] at h
    have rl := unD_rp q1 h1
    by_cases hl : ds.length ≤ lim
    · rw [if_pos hl] at h
      exact ⟨by rw [rl.length]; exact Nat.le_trans hl lim_line, fun p hp => (Ok.data b1 h).newT b1.ex hp rl⟩
    · rw [if_neg hl] at h; exact h.elim
theorem sf_lst (h : SA X W es gs) : SF X W (.List es pos) (nLst gs) := by
  obtain ⟨t, p, k⟩ := h
  refine ⟨_, pe_lst p, fun ρ st F bs σ H Q b e h => ?_⟩
  refine k ρ st F bs σ H _ b e (Ok.bind h fun x r1 st1 F1 H1 _ s1 b1 q1 h => ?_)
  cases h1 : unD r1 with
  | none => rw [h1] at h; exact h.elim
  | some ds =>
    simp only [h1] at h
    have rl := unD_rp q1 h1
    by_cases hl : ds.length ≤ lim
    · rw [if_pos hl] at h
      refine ⟨by rw [rl.length]; exact Nat.le_trans hl lim_line, fun p hp => ?_⟩
      refine FPost.newL (ds := ds) b1.ex (fun a F' H' g hn hf ht => h (.ref a) F' H' (g.stp bs) (b1.gro g) ⟨a, rfl, ?_, hf, ht⟩) hp rl
      cases z : H a with
      | none => rfl
      | some o => exact absurd hn (s1.there a (by rw [z]; exact some_ne))
    · rw [if_neg hl] at h; exact h.elim

/-! ### a[i], a[i:j] -/
theorem RpL.atI {K : PySem.W.Frag} {F : Hp} {vs : List V} {ds : List D} {i : Int} {d : D} (h : RpL K F vs ds) (e : L2.atI ds i = some d) : ∃ v, L2.atI vs i = some v ∧ Rp K F v d := by
  unfold L2.atI at e ⊢
  rw [h.length]
  cases hx : ixN ds.length i with
  | none => rw [hx] at e; cases e
  | some j =>
    rw [hx] at e
    exact h.getD e
def oIx : D → D → Option D
  | .list xs, .int i => atI xs i
  | .tuple xs, .int i => atI xs i
  | .str z, .int i => if z.length ≤ lim then (atI z.cps.toList i).map fun c => .str ⟨#[c]⟩ else none
  | _, _ => none
theorem opD_ix : OpD X (rIx X.K) oIx := fun F H x y p q z Q e hx hy hz k => by
  unfold oIx at hz
  split at hz
  · rename_i xs i
    obtain ⟨a, vs, rfl, h1, h2⟩ := hx
    cases (show Rp X.K F y (.int i) from hy)
    obtain ⟨v, hv, rv⟩ := h2.atI hz
    exact .inl ⟨a, vs, i, v, rfl, rfl, .inl h1, hv, k.flat e rv⟩
  · rename_i xs i
    cases (show Rp X.K F x (.tuple xs) from hx) with
    | tup h1 h2 =>
      cases (show Rp X.K F y (.int i) from hy)
      obtain ⟨v, hv, rv⟩ := h2.atI hz
      exact .inr (.inl ⟨_, _, i, v, rfl, rfl, same_t e h1, hv, k.flat e rv⟩)
  · rename_i s i
    cases (show Rp X.K F x (.str s) from hx)
    cases (show Rp X.K F y (.int i) from hy)
    split at hz
    · rename_i hl
      cases hc : atI s.cps.toList i with
      | none => rw [hc] at hz; cases hz
      | some c =>
        rw [hc] at hz
        have hz' := Option.some.inj hz
        subst hz'
        exact .inr (.inr ⟨s, i, c, rfl, rfl, Nat.le_trans hl lim_line, hc, k.flat e (.str _)⟩)
    · cases hz
  · cases hz
theorem se_ix (ha : SE X W a fa) (hb : SE X W b fb) (hs : PlainIx b := by exact fun _ _ => rfl) : SE X W (.Subscript a b pos) (dOp2 oIx fa fb) := se_2 opD_ix (fun _ _ pa pb => pe_ix ix_seq pa pb hs) ha hb
/-- the part of a list between two places -/
def cutD (xs : List D) (lo hi : Option Int) : List D := (xs.drop (HT.sIx xs.length 0 lo)).take (HT.sIx xs.length xs.length hi - HT.sIx xs.length 0 lo)
theorem RpL.cut {K : PySem.W.Frag} {F : Hp} {vs : List V} {ds : List D} (h : RpL K F vs ds) (lo hi : Option Int) : RpL K F (cutV vs lo hi) (cutD ds lo hi) := by
  unfold cutV cutD
  rw [h.length]
  exact (h.drop _).take _
/-- a slice's part -/
def SO (X : Cx) (W : WX) (e : Option Expr) (f : Env → Sto → R (Option Int)) : Prop := ∃ t, PO X e t ∧ ∀ ρ st F bs σ H Q, RepB X.K F bs st H → EnvR X.K F bs ρ σ → Ok X.K W σ F H bs (fun _ _ a b => a = b) Q (f ρ st) → t σ H Q
def pNo : Env → Sto → R (Option Int) := fun _ st => .ok none st
def pAt (f : dE) : Env → Sto → R (Option Int) := fun ρ st => (f ρ st).bind fun x st1 => match x with
  | .d (.int i) => .ok (some i) st1
  | _ => .bad
theorem so_no : SO X W none pNo := ⟨_, po_none, fun ρ st F bs σ H Q b e h => h.ret b rfl⟩
theorem so_at (h : SE X W a fa) : SO X W (some a) (pAt fa) := by
  obtain ⟨t, p, k⟩ := h
  refine ⟨_, po_some p, fun ρ st F bs σ H Q b e h => ?_⟩
  refine k ρ st F bs σ H _ b e (Ok.bind h fun x r1 st1 F1 H1 _ s1 b1 q1 h => ?_)
  cases r1 with
  | box i => exact h.elim
  | d p =>
    cases p with
    | int i =>
      cases q1
      exact ⟨i, rfl, h.ret b1 rfl⟩
    | _ => exact h.elim
def dSl (f : dE) (l u : Env → Sto → R (Option Int)) : Env → Sto → R D := fun ρ st => (f ρ st).bind fun x st1 => (l ρ st1).bind fun lo st2 => (u ρ st2).bind fun hi st3 => match der st3 x with
  | some (.list xs) => .ok (.list (cutD xs lo hi)) st3
  | _ => .bad
variable {lo hi : Option Expr} {fl fh : Env → Sto → R (Option Int)} {p2 : Pos}
/-- xs[i:j] of a list: a new one -/
theorem sf_slL (ha : SE X W a fa) (hl : SO X W lo fl) (hh : SO X W hi fh) : SF X W (.Subscript a (.Slice lo hi none p2) pos) (dSl fa fl fh) := by
  obtain ⟨t, p, k⟩ := ha
  obtain ⟨tl, pl, kl⟩ := hl
  obtain ⟨th, ph, kh⟩ := hh
  refine ⟨_, pe_slice sl_list p pl ph, fun ρ st F bs σ H Q b e h => ?_⟩
  refine k ρ st F bs σ H _ b e (Ok.bind h fun x r1 st1 F1 H1 _ s1 b1 q1 h => ?_)
  refine kl ρ st1 F1 bs σ H1 _ b1 (e.mono s1.ex) (Ok.bind h fun y r2 st2 F2 H2 _ s2 b2 q2 h => ?_)
  refine kh ρ st2 F2 bs σ H2 _ b2 ((e.mono s1.ex).mono s2.ex) (Ok.bind h fun z r3 st3 F3 H3 _ s3 b3 q3 h => ?_)
  cases (show y = r2 from q2)
  cases (show z = r3 from q3)
  cases h1 : der st3 r1 with
  | none => rw [h1] at h; exact h.elim
  | some p =>
    rw [h1] at h
    cases p with
    | list xs =>
      obtain ⟨a, vs, rfl, hr, hq⟩ := vw_of b3 ((q1.mono s2.ex).mono s3.ex) h1
      refine ⟨a, vs, rfl, .inl hr, fun p hp => ?_⟩
      refine FPost.newL b3.ex (fun a F' H' g hn hf ht => h (.ref a) F' H' (g.stp bs) (b3.gro g) ⟨a, rfl, ?_, hf, ht⟩) hp (hq.cut y z)
      cases z : H a with
      | none => rfl
      | some o => exact absurd hn (((s1.trans s2).trans s3).there a (by rw [z]; exact some_ne))
    | _ => exact h.elim
/-- t[i:j] of a tuple -/
def dSlT (f : dE) (l u : Env → Sto → R (Option Int)) : dE := fun ρ st => (f ρ st).bind fun x st1 => (l ρ st1).bind fun lo st2 => (u ρ st2).bind fun hi st3 => match x with
  | .d (.tuple xs) => .ok (.d (.tuple (cutD xs lo hi))) st3
  | _ => .bad
theorem se_slT (ha : SE X W a fa) (hl : SO X W lo fl) (hh : SO X W hi fh) : SE X W (.Subscript a (.Slice lo hi none p2) pos) (dSlT fa fl fh) := by
  obtain ⟨t, p, k⟩ := ha
  obtain ⟨tl, pl, kl⟩ := hl
  obtain ⟨th, ph, kh⟩ := hh
  refine ⟨_, pe_slice sl_tupA p pl ph, fun ρ st F bs σ H Q b e h => ?_⟩
  refine k ρ st F bs σ H _ b e (Ok.bind h fun x r1 st1 F1 H1 _ s1 b1 q1 h => ?_)
  refine kl ρ st1 F1 bs σ H1 _ b1 (e.mono s1.ex) (Ok.bind h fun y r2 st2 F2 H2 _ s2 b2 q2 h => ?_)
  refine kh ρ st2 F2 bs σ H2 _ b2 ((e.mono s1.ex).mono s2.ex) (Ok.bind h fun z r3 st3 F3 H3 _ s3 b3 q3 h => ?_)
  cases (show y = r2 from q2)
  cases (show z = r3 from q3)
  cases r1 with
  | box i => exact h.elim
  | d p =>
    cases p with
    | tuple xs =>
      have q1' : Rp X.K F3 x (.tuple xs) := (SRp.mono s3.ex (SRp.mono s2.ex q1) : SRp X.K F3 bs x (.d (.tuple xs)))
      cases q1' with
      | tup ht hq =>
        rename_i a vs
        refine ⟨a, vs, rfl, same_t b3.ex ht, fun hw => ?_, fun _ p hp => (Ok.data b3 h).newT b3.ex hp (hq.cut y z)⟩
        have e1 : cutD xs y z = xs := by
          unfold cutD
          rw [← hq.length, hw.1, hw.2, hq.length]
          simp
        replace h : Ok X.K W σ F3 H3 bs (relE X.K bs) Q (.ok (.d (.tuple (cutD xs y z))) st3) := h
        rw [e1] at h
        exact h.ret b3 (Rp.tup ht hq)
    | _ => exact h.elim
/-- xs[::-1] -/
def nRev (f : dE) : Env → Sto → R D := fun ρ st => (f ρ st).bind fun x st1 => match der st1 x with
  | some (.list xs) => .ok (.list xs.reverse) st1
  | _ => .bad
theorem sf_rev {k : Nat} {p1 p2 p3 : Pos} (ha : SE X W a fa) : SF X W (.Subscript a (.Slice none none (some (.UnaryOp .USub (.Constant (.int 1) k p1) p2)) p3) pos) (nRev fa) := by
  obtain ⟨t, p, k⟩ := ha
  refine ⟨_, pe_revL p, fun ρ st F bs σ H Q b e h => ?_⟩
  refine k ρ st F bs σ H _ b e (Ok.bind h fun x r1 st1 F1 H1 _ s1 b1 q1 h => ?_)
  cases h1 : der st1 r1 with
  | none => rw [h1] at h; exact h.elim
  | some p =>
    rw [h1] at h
    cases p with
    | list xs =>
      obtain ⟨a, vs, rfl, hr, hq⟩ := vw_of b1 q1 h1
      refine ⟨a, vs, rfl, .inl hr, fun p hp => ?_⟩
      refine FPost.newL b1.ex (fun a F' H' g hn hf ht => h (.ref a) F' H' (g.stp bs) (b1.gro g) ⟨a, rfl, ?_, hf, ht⟩) hp hq.reverse
      cases z : H a with
      | none => rfl
      | some o => exact absurd hn (s1.there a (by rw [z]; exact some_ne))
    | _ => exact h.elim

/-! ### list + list, list * int -/
def rCatR : R2 := fun x y H Q => ∃ l b xs zs, x = .ref l ∧ y = .ref b ∧ Rd H l (.lst xs) ∧ Rd H b (.lst zs) ∧ xs.length + zs.length ≤ sizeLine ∧ ∀ p, H p = none → Q (.ref p) (upd H p (.lst (xs ++ zs)))
theorem op_catR : OpR X (binaryOp .Add) rCatR := by
  intro pins s σ H x y v u Q I rx ry h
  obtain ⟨l, b, xs, zs, rfl, rfl, hH, hB, hz, q⟩ := h
  cases rx
  cases ry
  obtain ⟨z, its, n, r, e⟩ := hH.ok I.hok
  obtain ⟨z2, its2, n2, r2, e2⟩ := hB.ok I.hok
  have hl := r.length
  have hl2 := r2.length
  refine PySem.P.add_list e e2 ?_ (by rw [List.size_toArray, List.size_toArray]; omega)
  have ea : its.toArray ++ its2.toArray = (its ++ its2).toArray := by simp
  rw [ea]
  exact ⟨.ref _, _, I.lnew (t' := s.toks) (r.append r2) (by rw [List.length_append]; omega), rfl, q _ I.fresh⟩
def oCat : D → D → Option D
  | .list xs, .list ys => if xs.length + ys.length ≤ lim then some (.list (xs ++ ys)) else none
  | _, _ => none
theorem opF_cat : OpF X rCatR oCat := fun F H x y p q z Q e hx hy hz k => by
  unfold oCat at hz
  split at hz
  · rename_i xs ys
    split at hz
    · rename_i hl
      have hz' := Option.some.inj hz
      subst hz'
      obtain ⟨a, vs, rfl, h1, h2⟩ := hx
      obtain ⟨b, ws, rfl, h3, h4⟩ := hy
      exact ⟨a, b, vs, ws, rfl, rfl, h1, h3, by rw [h2.length, h4.length]; exact Nat.le_trans hl lim_line, fun p hp => k.newL e hp (h2.append h4)⟩
    · cases hz
  · cases hz
theorem sf_cat (ha : SE X W a fa) (hb : SE X W b fb) : SF X W (.BinOp a .Add b pos) (nOp2 oCat fa fb) := sf_2 opF_cat (fun _ _ pa pb => pe_op op_catR pa pb) ha hb
def rRepR : R2 := fun x y H Q => ∃ l k xs, x = .ref l ∧ y = .int k ∧ Rd H l (.lst xs) ∧ -(2 ^ 63) ≤ k ∧ k < 2 ^ 63 ∧ xs.length * k.toNat ≤ sizeLine ∧
  ∀ p, H p = none → Q (.ref p) (upd H p (.lst (List.replicate k.toNat xs).flatten))
theorem op_repR : OpR X (binaryOp .Mult) rRepR := by
  intro pins s σ H x y v u Q I rx ry h
  obtain ⟨l, k, xs, rfl, rfl, hH, h1, h2, hz, q⟩ := h
  cases rx
  obtain ⟨t, rfl⟩ := ry
  obtain ⟨z, its, n, r, e⟩ := hH.ok I.hok
  have hl := r.length
  have hlen : its.toArray.size * k.toNat ≤ sizeLine := by rw [List.size_toArray, ← hl]; exact hz
  have hcap : ¬ its.toArray.size * k.toNat > (2 ^ 63 - 1) / 8 := by
    have : (sizeLine : Nat) ≤ (2 ^ 63 - 1) / 8 := by decide
    omega
  have hfit : ¬ (!Builtin.List.listFitsIndex k) = true := by
    rw [fitsIndex_both h1 h2]
    exact Bool.false_ne_true
  have hlong : ¬ Builtin.List.listTooLong (its.toArray.size * k.toNat) = true := by
    rw [notLongL hlen]
    exact Bool.false_ne_true
  have hnew : List.foldl (fun x1 x2 => x1 ++ x2) #[] (List.replicate (if its.toArray.isEmpty = true then 0 else k.toNat) its.toArray) = (List.replicate k.toNat its).flatten.toArray := by
    have f0 : ∀ m : Nat, List.foldl (fun x1 x2 => x1 ++ x2) #[] (List.replicate m its.toArray) = (List.replicate m its).flatten.toArray := fun m => by
      have := foldl_rep its m []
      rw [List.nil_append] at this
      exact this
    rw [f0]
    cases its with
    | nil => simp
    | cons a r' => rw [if_neg (by simp)]
  refine wpAny_binaryOp_repeat_ref (T := "list") (U := "int") (by decide) ⟨_, e, rfl⟩ (fun s' => typeIs_int s' k t) noFill_list_mul F.fills_int_mul F.slot_int_rmul repeat_list F.slot_int_index.lookup
    (call_meets F.slot_int_rmul (typeIs_int s k t) F.entry_int_rmul (F.args_int_rmul_2 _ _) (int___rmul___int_list k t l its.toArray n)
      ⟨e, rfl, ⟨_, e, rfl⟩, call_meets F.slot_list_mul ⟨_, e, rfl⟩ F.entry_list_mul (F.args_list_mul_2 _ _) (AutoListH.list___mul___list_int_3 l its.toArray n k t hfit hcap hlong) ⟨e, ?_⟩⟩)
  rw [hnew]
  exact ⟨.ref _, _, I.lnew (t' := s.toks) (r.rep k.toNat) (by rw [PyProof.Rows.lm_len_rep_flat, Nat.mul_comm]; exact hz), rfl, q _ I.fresh⟩
def oRep : D → D → Option D
  | .list xs, .int k => if k.natAbs ≤ 1000000 ∧ xs.length * k.toNat ≤ lim then some (.list (List.replicate k.toNat xs).flatten) else none
  | _, _ => none
theorem opF_rep : OpF X rRepR oRep := fun F H x y p q z Q e hx hy hz k => by
  unfold oRep at hz
  split at hz
  · rename_i xs i
    split at hz
    · rename_i hl
      have hz' := Option.some.inj hz
      subst hz'
      obtain ⟨a, vs, rfl, h1, h2⟩ := hx
      cases (show Rp X.K F y (.int i) from hy)
      exact ⟨a, i, vs, rfl, rfl, h1, by omega, by omega, by rw [h2.length]; exact Nat.le_trans hl.2 lim_line, fun p hp => k.newL e hp (h2.rep _)⟩
    · cases hz
  · cases hz
theorem sf_rep (ha : SE X W a fa) (hb : SE X W b fb) : SF X W (.BinOp a .Mult b pos) (nOp2 oRep fa fb) := sf_2 opF_rep (fun _ _ pa pb => pe_op op_repR pa pb) ha hb
end
end CB
end
section
set_option Elab.async false
set_option linter.all false
set_option autoImplicit false
set_option maxRecDepth 100000
set_option maxHeartbeats 4000000
/-! list(reversed(xs)), at the library's level: as list(range) and tuple(reversed) go there -/
namespace RTL
open PySem PySem.Spec PyProof.Rows RT
section
variable {prog : Program} {w : World} {A : Around} {E : Value → Shared → Prop} {s : Shared}
theorem extend_rev {R : Result → Shared → Prop} {it l : Addr} {items : Array Value} (hh : A.handled = none) (hit : s.heap.IsRevIter it l ((items.size : Int) - 1)) (hl : s.heap.IsList l items) (hne : l ≠ it) (hn : items.size ≤ sizeLine)
    (S : Addr) (res : Value) (c₀ : Nat) (hS : s.heap.get? S = some { cls := .type "list", data := .seq #[] c₀ }) (hSi : S ≠ it) (hSl : S ≠ l)
    (hR : ∀ (h' : Heap) (tk : Nat) (acc' : Array Value) (c' : Nat), (∀ b o, b ≠ S → b ≠ it → s.heap.get? b = some o → h'.get? b = some o) → h'.get? S = some { cls := .type "list", dict := none, data := .seq acc' c', slots := #[] } →
      ItemsOf (fun i v => items[items.size - 1 - i]? = some v) acc' items.size → R (.ok (.ret res)) { s with heap := h', toks := tk }) :
    wpAny (model prog w) A.in1 (Builtin.List.listExtendWith (.ref S) (.ref it) res)
      (fun fin s' => match fin with | .done f => R (.ok f) s' | .again c' => c'.quiet = true ∧ codeAny (model prog w) A c' R s') (fun e s' => R (.error e) s') s := by
  have W := (Walks.listRev (prog := prog) (w := w) (A := A.in1) hh it l hne items).toS
  have hSf : S ∉ [it, l] := by simp only [List.mem_cons, List.not_mem_nil, or_false, not_or]; exact ⟨hSi, hSl⟩
  have hT : s.TypeIs (.ref it) "list_reverseiterator" := hit.typeIs
  have h1 : Builtin.List.listSameRef (.ref S) (.ref it) = false := by simp [Builtin.List.listSameRef, hSi]
  unfold Builtin.List.listExtendWith
  refine wpAny_bind (wpAny_typeOf hT ?_)
  rw [if_neg (by rw [h1]; decide)]
  refine wpAny_bind (wpAny_pyIter_revIter hit ?_)
  refine wpAny_bind (wpAny_holding ?_)
  unfold Builtin.List.listLengthHint
  refine wpAny_bind (wpAny_specialOf hT nolen_lri ?_)
  show wpAny _ A.in1 (specialOf (Value.ref it) (Str.ofString "__length_hint__") >>= _) _ _ _
  refine wpAny_bind (wpAny_specialOf hT hint_lri ?_)
  generalize hid : ("list_reverseiterator.__length_hint__" : String) = id0
  wp_delta
  rw [show splitId id0 = some ("list_reverseiterator", "__length_hint__") from by subst hid; decide +kernel]
  subst hid
  refine wpAny_bind (wpAny_isInstance (b := true) hT (by rw [isSubtype_type]; kernel_rfl) ?_)
  refine wpAny_pure ?_
  rw [if_neg (by decide)]
  have e0 : ((items.size : Nat) : Int) - 1 - ((0 : Nat) : Int) = (items.size : Int) - 1 := by omega
  refine wpAny_pure ⟨plainId_quiet F.plain_extend_loop _, codeAny_extend_loopS W hn _ hSf _ items.size 0 _ _ _ rfl (Nat.zero_le _) ⟨Nat.zero_le _, by rw [e0]; exact hit, hl⟩ hS (ItemsOf.nil _) fun s' acc' c' hm hS' hacc => ?_⟩
  rw [Moved.eq_with hm]
  refine hR s'.heap s'.toks acc' c' (fun b o hb hb2 e => hm.heap b o (fun hmem => ?_) e) hS' hacc
  rcases List.mem_cons.mp hmem with e' | hmem
  · exact hb e'
  · exact hb2 (List.mem_singleton.mp hmem)
theorem list_init_rev {R : Result → Shared → Prop} {it l : Addr} {items : Array Value} (hh : A.handled = none) (hit : s.heap.IsRevIter it l ((items.size : Int) - 1)) (hl : s.heap.IsList l items) (hne : l ≠ it) (hn : items.size ≤ sizeLine)
    (S : Addr) (hS : s.heap.get? S = some { cls := .type "list", data := .seq #[] }) (hSi : S ≠ it) (hSl : S ≠ l)
    (hR : ∀ (h' : Heap) (tk : Nat) (acc' : Array Value) (c' : Nat), (∀ b o, b ≠ S → b ≠ it → s.heap.get? b = some o → h'.get? b = some o) → h'.get? S = some { cls := .type "list", dict := none, data := .seq acc' c', slots := #[] } →
      ItemsOf (fun i v => items[items.size - 1 - i]? = some v) acc' items.size → R (.ok (.ret .none)) { s with heap := h', toks := tk }) :
    wpAny (model prog w) A.in1 (Builtin.«list.__init__» ⟨[.ref S, .ref it], []⟩)
      (fun fin s' => match fin with | .done f => R (.ok f) s' | .again c' => c'.quiet = true ∧ codeAny (model prog w) A c' R s') (fun e s' => R (.error e) s') s := by
  show wpAny _ A.in1 (do let old ← Builtin.List.listItems (.ref S); Builtin.List.listUpdate (.ref S) (fun _ => #[]); letGo old.toList.reverse; Builtin.List.listExtendWith (.ref S) (.ref it) .none) _ _ s
  refine wpAny_bind ?_
  unfold Builtin.List.listItems
  refine wpAny_bind (wpAny_seqItems hS rfl (wpAny_pure ?_))
  show wpAny _ A.in1 (updateSeq S (fun _ => #[]) >>= fun _ => letGo (#[] : Array Value).toList.reverse >>= fun _ => Builtin.List.listExtendWith (.ref S) (.ref it) .none) _ _ s
  refine wpAny_bind (wpAny_updateSeq hS rfl ?_)
  have hS₂ := Heap.get?_update_self (Obj.mapSeq (fun _ => (#[] : Array Value))) hS rfl
  have oth : ∀ b o, b ≠ S → s.heap.get? b = some o → (s.heap.update S (Obj.mapSeq (fun _ => (#[] : Array Value)))).get? b = some o :=
    fun b o hb e => (Heap.get?_update_other _ _ (Ne.symm hb)).trans e
  refine wpAny_bind (wpAny_letGo ?_)
  refine extend_rev (s := { s with heap := s.heap.update S (Obj.mapSeq (fun _ => (#[] : Array Value))) }) hh (hit.at fun o e => oth it o (Ne.symm hSi) e) (hl.at fun o e => oth l o (Ne.symm hSl) e) hne hn S .none _ hS₂ hSi hSl fun h' tk acc' c' hk hS' hacc => ?_
  exact hR h' tk acc' c' (fun b o hb hb2 e => hk b o hb hb2 (oth b o hb e)) hS' hacc
theorem call_list_rev {Q : Value → Shared → Prop} {it l : Addr} {items : Array Value} (hh : A.handled = none) (hit : s.heap.IsRevIter it l ((items.size : Int) - 1)) (hl : s.heap.IsList l items) (hne : l ≠ it) (hn : items.size ≤ sizeLine)
    (hQ : ∀ (h' : Heap) (tk : Nat) (acc' : Array Value) (c' : Nat), (∀ b o, b ≠ it → s.heap.get? b = some o → h'.get? b = some o) → h'.get? s.heap.objs.size = some { cls := .type "list", dict := none, data := .seq acc' c', slots := #[] } →
      ItemsOf (fun i v => items[items.size - 1 - i]? = some v) acc' items.size → Q (.ref s.heap.objs.size) { s with heap := h', toks := tk }) :
    wpAny (model prog w) A (call (.type "list") [.ref it]) Q E s := by
  obtain ⟨oi, hoi, _⟩ := id hit
  obtain ⟨ol, hol, _⟩ := id hl
  refine callType_codes (Q₁ := fun obj s₁ => obj = .ref s.heap.objs.size ∧ s₁ = { s with heap := s.heap.push { cls := .type "list", data := .seq #[] } }) F.called_list (F.typeCall_list_1 _) F.entry_list_init
    (code_list_new _ ⟨rfl, rfl⟩) fun obj s₁ h₁ => ?_
  obtain ⟨rfl, rfl⟩ := h₁
  have hS : (s.heap.push { cls := .type "list", data := .seq #[] }).get? s.heap.objs.size = some { cls := .type "list", data := .seq #[] } := Heap.get?_push_size _ rfl
  refine ⟨⟨_, hS, rfl⟩, F.args_list_init_2 _ _, list_init_rev (A := A.in1) (s := { s with heap := s.heap.push { cls := .type "list", data := .seq #[] } }) hh (hit.at fun o e => Heap.get?_push_of_some _ e) (hl.push _) hne hn _ hS (Nat.ne_of_gt (Heap.lt_size hoi)) (Nat.ne_of_gt (Heap.lt_size hol)) fun h' tk acc' c' hk hS' hacc => ?_⟩
  exact ⟨rfl, hQ h' tk acc' c' (fun b o hb e => hk b o (Nat.ne_of_lt (Heap.lt_size e)) hb (Heap.get?_push_of_some _ e)) hS' hacc⟩
end
end RTL
namespace CB
open PySem PySem.Spec PyProof.Rows L2
section
variable {X : Cx} {W : WX}
/-- list(reversed(x)), x a list: a new list -/
def tLstRev (te : TE) : TE := fun σ H Q => te σ H fun v H1 => ∃ (a : Addr) (xs : List V), v = .ref a ∧ Rd H1 a (.lst xs) ∧ ∀ q, H1 q = none → Q (.ref q) (upd H1 q (.lst xs.reverse))
theorem pe_lstRev {e : Expr} {te : TE} {p p2 pos pos2 : Pos} (hc : X.calm = true) (hg : Gl X "list") (hm : X.mg "list" = none) (hg2 : Gl X "reversed") (hm2 : X.mg "reversed" = none) (he : PE X e te)
    (hs : starEach [e] X.env = (false, eval e X.env) :: starEach [] X.env := by rfl)
    (hs2 : starEach [.Call (.Name "reversed" p2) [e] [] pos2] X.env = (false, eval (.Call (.Name "reversed" p2) [e] [] pos2) X.env) :: starEach [] X.env := by rfl) :
    PE X (.Call (.Name "list" p) [.Call (.Name "reversed" p2) [e] [] pos2] [] pos) (tLstRev te) := by
  refine ⟨fun pins s σ H Q I h => ?_⟩
  refine Call_ (ld_blt I hg hm boot_list (PyProof.Rows.callWith_type1 (args_cons (Call_ (ld_blt I hg2 hm2 PyProof.Rows.boot_reversed (PyProof.Rows.callWith_type1 (args_cons (thn (he.run pins s σ H _ I h) fun u s1 ⟨v, H1, I1, r1, q1⟩ => args_nil ?_) hs) hs rfl))) hs2) hs2 rfl))
  obtain ⟨a, xs, ev, hq, q⟩ := q1
  subst ev
  obtain rfl : u = Value.ref a := r1
  obtain ⟨its, rv, p', hz⟩ := I1.list (.inl hq)
  refine call_reversed_list p'.isList (args_nil ?_)
  have k0 : ∀ b o, s1.heap.get? b = some o → (s1.heap.push (revObj a ((its.toArray.size : Int) - 1))).get? b = some o := fun b o e => Heap.get?_push_of_some _ e
  have I2 : Inv X pins σ H1 { s1 with heap := s1.heap.push (revObj a ((its.toArray.size : Int) - 1)) } := I1.kept (t' := s1.toks) k0
  have fp := I1.fpOk (H' := H1) (b := s1.heap.objs.size) (Nat.le_refl _) (I1.hok.fresh (Nat.le_refl _))
  have hl := p'.isList
  obtain ⟨ol, hol, _⟩ := id hl
  have hne : a ≠ s1.heap.objs.size := Nat.ne_of_lt (Heap.lt_size hol)
  have hn : its.toArray.size ≤ sizeLine := by rw [List.size_toArray, ← rv.length]; exact hz
  refine RTL.call_list_rev (s := { s1 with heap := s1.heap.push (revObj a ((its.toArray.size : Int) - 1)) }) (I1.ok.hd hc) ⟨_, Heap.get?_push_size _ rfl, rfl, rfl⟩ (hl.push _) hne hn fun h' tk acc c' hk hS hi => ?_
  have hsz : (s1.heap.push (revObj a ((its.toArray.size : Int) - 1))).objs.size = s1.heap.objs.size + 1 := Heap.size_push _ _
  have hD : H1 (s1.heap.push (revObj a ((its.toArray.size : Int) - 1))).objs.size = none := I1.hok.fresh (by rw [hsz]; omega)
  have I3 : Inv X pins σ (upd H1 (s1.heap.push (revObj a ((its.toArray.size : Int) - 1))).objs.size (.lst xs.reverse)) { s1 with heap := h', toks := tk } :=
    I2.turnedNew (t' := tk) (ch := [s1.heap.objs.size]) (fun b o hb e => hk b o (fun z => hb (by rw [z]; exact List.mem_singleton.mpr rfl)) e) (fun b hb => by
      have e : b = s1.heap.objs.size := List.mem_singleton.mp hb
      rw [e]; exact fp) (Nat.le_refl _) ⟨by rw [List.length_reverse]; exact hz, acc.toList, c', RT.vals_rev rv hi, by simpa using hS⟩
  exact ⟨.ref _, _, I3, rfl, q _ hD⟩
def nLstRev (f : dE) : Env → Sto → R D := nRev f
theorem sf_lstRev {a : Expr} {fa : dE} {k : Nat} {p p2 pos pos2 : Pos} (C : Cfg X W k) (hm : X.mg "list" = none) (hm2 : X.mg "reversed" = none) (ha : SE X W a fa) (hg : Gl X "list" := by rfl) (hg2 : Gl X "reversed" := by rfl)
    (hs : starEach [a] X.env = (false, eval a X.env) :: starEach [] X.env := by rfl)
    (hs2 : starEach [.Call (.Name "reversed" p2) [a] [] pos2] X.env = (false, eval (.Call (.Name "reversed" p2) [a] [] pos2) X.env) :: starEach [] X.env := by rfl) : SF X W (.Call (.Name "list" p) [.Call (.Name "reversed" p2) [a] [] pos2] [] pos) (nRev fa) := by
  obtain ⟨t, pe, k⟩ := ha
  refine ⟨_, pe_lstRev C.calm hg hm hg2 hm2 pe hs hs2, fun ρ st F bs σ H Q b e h => ?_⟩
  refine k ρ st F bs σ H _ b e (Ok.bind h fun x r1 st1 F1 H1 _ s1 b1 q1 h => ?_)
  cases h1 : der st1 r1 with
  | none => rw [h1] at h; exact h.elim
  | some p =>
    rw [h1] at h
    cases p with
    | list xs =>
      obtain ⟨a, vs, rfl, hr, hq⟩ := vw_of b1 q1 h1
      refine ⟨a, vs, rfl, hr, fun p hp => ?_⟩
      refine FPost.newL b1.ex (fun a F' H' g hn hf ht => h (.ref a) F' H' (g.stp bs) (b1.gro g) ⟨a, rfl, ?_, hf, ht⟩) hp hq.reverse
      cases z : H a with
      | none => rfl
      | some o => exact absurd hn (s1.there a (by rw [z]; exact some_ne))
    | _ => exact h.elim
end
end CB
end
section
set_option Elab.async false
set_option linter.all false
set_option autoImplicit false
set_option maxRecDepth 100000
set_option maxHeartbeats 4000000
/-! calls of built-in functions, by the data of their arguments -/
namespace CB
open PySem PySem.Spec PyProof.Rows L2
def VwL (K : PySem.W.Frag) (F H : Hp) : List V → List D → Prop := Paired (Vw K F H)
def derL (st : Sto) : List SV → Option (List D)
  | [] => some []
  | r :: rs => (der st r).bind fun p => (derL st rs).map (p :: ·)
theorem vwL_of {K : PySem.W.Frag} {F H : Hp} {bs : List Addr} {st : Sto} (b : RepB K F bs st H) : ∀ {vs : List V} {rs : List SV} {ds : List D}, SRpL K F bs vs rs → derL st rs = some ds → VwL K F H vs ds
  | _, _, _, .nil, e => by cases e; exact .nil
  | _, r :: rs, ds, .cons h t, e => by
    unfold derL at e
    cases h1 : der st r with
    | none => rw [h1] at e; cases e
    | some p =>
      rw [h1] at e
      cases h2 : derL st rs with
      | none => rw [h2] at e; cases e
      | some qs =>
        rw [h2] at e
        have e' : p :: qs = ds := Option.some.inj e
        subst e'
        exact .cons (vw_of b h h1) (vwL_of b t h2)
def CalD (X : Cx) (r : List V → Hp → VK → Prop) (g : List D → Option D) : Prop := ∀ (F H : Hp) (xs : List V) (ds : List D) (z : D) (Q : VK), Same F H → VwL X.K F H xs ds → g ds = some z → DPost X.K F H z Q → r xs H Q
def CalF (X : Cx) (r : List V → Hp → VK → Prop) (g : List D → Option D) : Prop := ∀ (F H : Hp) (xs : List V) (ds : List D) (z : D) (Q : VK), Same F H → VwL X.K F H xs ds → g ds = some z → FPost X.K F H z Q → r xs H Q
def dCal (g : List D → Option D) (as : Env → Sto → R (List SV)) : dE := fun ρ st => (as ρ st).bind fun rs st1 => match derL st1 rs with
  | some ds => (match g ds with
    | some z => .ok (.d z) st1
    | none => .bad)
  | none => .bad
def nCal (g : List D → Option D) (as : Env → Sto → R (List SV)) : Env → Sto → R D := fun ρ st => (as ρ st).bind fun rs st1 => match derL st1 rs with
  | some ds => (match g ds with
    | some z => .ok z st1
    | none => .bad)
  | none => .bad
section
variable {X : Cx} {W : WX} {es : List Expr} {gs : Env → Sto → R (List SV)} {e : Expr} {pos p : Pos}
theorem se_cal {r : List V → Hp → VK → Prop} {g : List D → Option D} (hD : CalD X r g) (mk : ∀ t, PA X es t → PE X e (tCB r t)) (ha : SA X W es gs) : SE X W e (dCal g gs) := by
  obtain ⟨t, pt, k⟩ := ha
  refine ⟨_, mk t pt, fun ρ st F bs σ H Q b e h => ?_⟩
  refine k ρ st F bs σ H _ b e (Ok.bind h fun x r1 st1 F1 H1 _ s1 b1 q1 h => ?_)
  cases h1 : derL st1 r1 with
  | none => rw [h1] at h; exact h.elim
  | some ds =>
    rw [h1] at h
    cases h3 : g ds with
    | none => simp only [h3] at h; exact h.elim
    | some z =>
      simp only [h3] at h
      exact hD F1 H1 x ds z Q b1.ex (vwL_of b1 q1 h1) h3 (Ok.data b1 h)
theorem sf_cal {r : List V → Hp → VK → Prop} {g : List D → Option D} (hD : CalF X r g) (mk : ∀ t, PA X es t → PE X e (tCB r t)) (ha : SA X W es gs) : SF X W e (nCal g gs) := by
  obtain ⟨t, pt, k⟩ := ha
  refine ⟨_, mk t pt, fun ρ st F bs σ H Q b e h => ?_⟩
  refine k ρ st F bs σ H _ b e (Ok.bind h fun x r1 st1 F1 H1 _ s1 b1 q1 h => ?_)
  cases h1 : derL st1 r1 with
  | none => rw [h1] at h; exact h.elim
  | some ds =>
    rw [h1] at h
    cases h3 : g ds with
    | none => simp only [h3] at h; exact h.elim
    | some z =>
      simp only [h3] at h
      refine hD F1 H1 x ds z Q b1.ex (vwL_of b1 q1 h1) h3 fun a F' H' g hn hf ht => ?_
      refine h (.ref a) F' H' (g.stp bs) (b1.gro g) ⟨a, rfl, ?_, hf, ht⟩
      cases z : H a with
      | none => rfl
      | some o => exact absurd hn (s1.there a (by rw [z]; exact some_ne))

/-- an answer that is a value without parts, proved at the model's level -/
def rA (K : PySem.W.Frag) (g : List D → Option D) : List V → Hp → VK → Prop := fun xs H Q => ∃ F ds z, Same F H ∧ VwL K F H xs ds ∧ g ds = some z ∧ DPost K F H z Q
theorem calD_rA {g : List D → Option D} : CalD X (rA X.K g) g := fun F H xs ds z Q e hx hg k => ⟨F, ds, z, e, hx, hg, k⟩
def rAF (K : PySem.W.Frag) (g : List D → Option D) : List V → Hp → VK → Prop := fun xs H Q => ∃ F ds z, Same F H ∧ VwL K F H xs ds ∧ g ds = some z ∧ FPost K F H z Q
theorem calF_rAF {g : List D → Option D} : CalF X (rAF X.K g) g := fun F H xs ds z Q e hx hg k => ⟨F, ds, z, e, hx, hg, k⟩
theorem vwL1 {K : PySem.W.Frag} {F H : Hp} {xs : List V} {d : D} (h : VwL K F H xs [d]) : ∃ x, xs = [x] ∧ Vw K F H x d := by
  cases h with
  | cons a t => cases t; exact ⟨_, rfl, a⟩
theorem vwL2 {K : PySem.W.Frag} {F H : Hp} {xs : List V} {d d2 : D} (h : VwL K F H xs [d, d2]) : ∃ x y, xs = [x, y] ∧ Vw K F H x d ∧ Vw K F H y d2 := by
  cases h with
  | cons a t => cases t with
    | cons b t => cases t; exact ⟨_, _, rfl, a, b⟩
/-- one argument -/
def g1 (f : D → Option D) : List D → Option D
  | [p] => f p
  | _ => none
def g2 (f : D → D → Option D) : List D → Option D
  | [p, q] => f p q
  | _ => none
theorem calD1 {r : List V → Hp → VK → Prop} {f : D → Option D} (h : ∀ (F H : Hp) (x : V) (p z : D) (Q : VK), Same F H → Vw X.K F H x p → f p = some z → DPost X.K F H z Q → r [x] H Q) : CalD X r (g1 f) := fun F H xs ds z Q e hx hg k => by
  unfold g1 at hg
  split at hg
  · obtain ⟨x, rfl, hv⟩ := vwL1 hx
    exact h F H x _ z Q e hv hg k
  · cases hg
theorem calF1 {r : List V → Hp → VK → Prop} {f : D → Option D} (h : ∀ (F H : Hp) (x : V) (p z : D) (Q : VK), Same F H → Vw X.K F H x p → f p = some z → FPost X.K F H z Q → r [x] H Q) : CalF X r (g1 f) := fun F H xs ds z Q e hx hg k => by
  unfold g1 at hg
  split at hg
  · obtain ⟨x, rfl, hv⟩ := vwL1 hx
    exact h F H x _ z Q e hv hg k
  · cases hg
theorem calD2 {r : List V → Hp → VK → Prop} {f : D → D → Option D} (h : ∀ (F H : Hp) (x y : V) (p q z : D) (Q : VK), Same F H → Vw X.K F H x p → Vw X.K F H y q → f p q = some z → DPost X.K F H z Q → r [x, y] H Q) : CalD X r (g2 f) := fun F H xs ds z Q e hx hg k => by
  unfold g2 at hg
  split at hg
  · obtain ⟨x, y, rfl, hv, hw⟩ := vwL2 hx
    exact h F H x y _ _ z Q e hv hw hg k
  · cases hg
theorem Vw.tup {K : PySem.W.Frag} {F H : Hp} {x : V} {ds : List D} (e : Same F H) (h : Vw K F H x (.tuple ds)) : ∃ a xs, x = .ref a ∧ SqT K H a xs ∧ RpL K F xs ds := by
  cases (show Rp K F x (.tuple ds) from h) with
  | tup h1 r => exact ⟨_, _, rfl, same_t e h1, r⟩
/-- len -/
def fLen : D → Option D
  | .list xs => some (.int xs.length)
  | .tuple xs => some (.int xs.length)
  | .str x => if x.length ≤ lim then some (.int x.length) else none
  | _ => none
theorem calD_len : CalD X (fun xs H Q => ∃ x n, xs = [x] ∧ LenV X.K x H n ∧ Q (.int n) H) (g1 fLen) := calD1 fun F H x p z Q e hv hf k => by
  unfold fLen at hf
  split at hf
  · cases hf
    obtain ⟨a, vs, rfl, hr, hq⟩ := hv
    exact ⟨_, _, rfl, .inl ⟨vs, .inl hr, rfl⟩, by rw [hq.length]; exact k.flat e (.int _)⟩
  · cases hf
    obtain ⟨a, vs, rfl, hr, hq⟩ := hv.tup e
    exact ⟨_, _, rfl, .inr ⟨vs, hr, rfl⟩, by rw [hq.length]; exact k.flat e (.int _)⟩
  · split at hf
    · rename_i hl
      cases hf
      cases (show Rp X.K F x (.str _) from hv)
      exact ⟨_, _, rfl, ⟨Nat.le_trans hl lim_line, rfl⟩, k.flat e (.int _)⟩
    · cases hf
  · cases hf
theorem se_len {a : Expr} {es : List Expr} (hm : X.mg "len" = none) (ha : SA X W (a :: es) gs) (hg : Gl X "len" := by rfl) (he : starEach (a :: es) X.env = (false, eval a X.env) :: starEach es X.env := by rfl) (hpl : (backTo pos (starEach es X.env)).any (·.1) = false := by rfl) :
    SE X W (.Call (.Name "len" p) (a :: es) [] pos) (dCal (g1 fLen) gs) := se_cal calD_len (fun t pt => pe_callB call_len hg hm PySem.boot_len pt (he := he) (hpl := hpl)) ha
def fAbs : D → Option D
  | .int i => some (.int (if i < 0 then -i else i))
  | _ => none
theorem se_abs {a : Expr} {es : List Expr} (hm : X.mg "abs" = none) (ha : SA X W (a :: es) gs) (hg : Gl X "abs" := by rfl) (he : starEach (a :: es) X.env = (false, eval a X.env) :: starEach es X.env := by rfl) (hpl : (backTo pos (starEach es X.env)).any (·.1) = false := by rfl) :
    SE X W (.Call (.Name "abs" p) (a :: es) [] pos) (dCal (g1 fAbs) gs) := se_cal (calD1 fun F H x p z Q e hv hf k => by
  unfold fAbs at hf
  split at hf
  · cases hf
    cases (show Rp X.K F x (.int _) from hv)
    exact ⟨_, rfl, k.flat e (.int _)⟩
  · cases hf) (fun t pt => pe_callB call_abs hg hm PyProof.Rows.boot_abs pt (he := he) (hpl := hpl)) ha
def fInt : D → Option D
  | .int i => some (.int i)
  | .bool b => some (.int (if b then 1 else 0))
  | _ => none
theorem se_intOf {a : Expr} {es : List Expr} (hm : X.mg "int" = none) (ha : SA X W (a :: es) gs) (hg : Gl X "int" := by rfl) (he : starEach (a :: es) X.env = (false, eval a X.env) :: starEach es X.env := by rfl) (hpl : (backTo pos (starEach es X.env)).any (·.1) = false := by rfl) :
    SE X W (.Call (.Name "int" p) (a :: es) [] pos) (dCal (g1 fInt) gs) := se_cal (calD1 fun F H x p z Q e hv hf k => by
  unfold fInt at hf
  split at hf
  · cases hf
    cases (show Rp X.K F x (.int _) from hv)
    exact .inl ⟨_, rfl, k.flat e (.int _)⟩
  · cases hf
    cases (show Rp X.K F x (.bool _) from hv)
    exact .inr ⟨_, rfl, k.flat e (.int _)⟩
  · cases hf) (fun t pt => pe_callTy call_int1 hg hm PyProof.Rows.boot_int pt (he := he) (hpl := hpl)) ha
def fStr : D → Option D
  | .int i => if i.natAbs.log2 < 1920 then some (.str (toString i)) else none
  | _ => none
theorem se_strOf {a : Expr} {es : List Expr} (hm : X.mg "str" = none) (ha : SA X W (a :: es) gs) (hg : Gl X "str" := by rfl) (he : starEach (a :: es) X.env = (false, eval a X.env) :: starEach es X.env := by rfl) (hpl : (backTo pos (starEach es X.env)).any (·.1) = false := by rfl) :
    SE X W (.Call (.Name "str" p) (a :: es) [] pos) (dCal (g1 fStr) gs) := se_cal (calD1 fun F H x p z Q e hv hf k => by
  unfold fStr at hf
  split at hf
  · split at hf
    · rename_i hl
      cases hf
      cases (show Rp X.K F x (.int _) from hv)
      exact ⟨_, rfl, hl, k.flat e (.str _)⟩
    · cases hf
  · cases hf) (fun t pt => pe_callTy call_str_int hg hm PyProof.Rows.boot_str pt (he := he) (hpl := hpl)) ha
/-- all ints -/
def intsD : List D → Option (List Int)
  | [] => some []
  | .int i :: r => (intsD r).map (i :: ·)
  | _ :: _ => none
theorem intsD_eq : ∀ {ds : List D} {ns : List Int}, intsD ds = some ns → ds = ns.map PyData.int
  | [], _, h => by cases h; rfl
  | .int i :: r, ns, h => by
    unfold intsD at h
    cases hr : intsD r with
    | none => rw [hr] at h; cases h
    | some ms =>
      rw [hr] at h
      have h' : i :: ms = ns := Option.some.inj h
      subst h'
      rw [intsD_eq hr]; rfl
  | .none :: _, _, h => by cases h
  | .bool _ :: _, _, h => by cases h
  | .str _ :: _, _, h => by cases h
  | .list _ :: _, _, h => by cases h
  | .tuple _ :: _, _, h => by cases h
  | .dict _ :: _, _, h => by cases h
@[simp] theorem intsD_ints (ns : List Int) : intsD (ns.map PyData.int) = some ns := by
  induction ns with
  | nil => rfl
  | cons n ns ih => show (intsD (ns.map PyData.int)).map (n :: ·) = _; rw [ih]; rfl
def fSum : D → Option D
  | .list xs => (intsD xs).map fun ns => .int ns.sum
  | _ => none
theorem se_sum {a : Expr} {es : List Expr} {k : Nat} (C : Cfg X W k) (hm : X.mg "sum" = none) (ha : SA X W (a :: es) gs) (hg : Gl X "sum" := by rfl) (he : starEach (a :: es) X.env = (false, eval a X.env) :: starEach es X.env := by rfl) (hpl : (backTo pos (starEach es X.env)).any (·.1) = false := by rfl) :
    SE X W (.Call (.Name "sum" p) (a :: es) [] pos) (dCal (g1 fSum) gs) := se_cal (calD1 fun F H x p z Q e hv hf k => by
  unfold fSum at hf
  split at hf
  · rename_i ds
    cases hn : intsD ds with
    | none => rw [hn] at hf; cases hf
    | some ns =>
      rw [hn] at hf
      cases hf
      obtain ⟨a, vs, rfl, hr, hq⟩ := hv
      rw [intsD_eq hn] at hq
      have hv := hq.ofInts
      subst hv
      exact ⟨a, ns, rfl, .inl hr, k.flat e (.int _)⟩
  · cases hf) (fun t pt => pe_callB (cr_sum C.calm) hg hm PyProof.Rows.boot_sum pt (he := he) (hpl := hpl)) ha
/-- max, min: of two ints, of a list of data alike -/
def okMM (ds : List D) : Bool := (ds.all fun x => ds.all fun y => PySem.W.alike x y) && (ds.all (fun x => !(match x with | .none => true | _ => false)) && (PySem.PyData.plainAll ds && decide (PySem.PyData.depthAll ds ≤ 60)))
theorem okMM_of {ds : List D} (h : okMM ds = true) : PySem.W.AlikeAll ds ∧ PySem.PyData.plainAll ds = true ∧ PySem.PyData.depthAll ds ≤ 60 := by
  unfold okMM at h
  simp only [Bool.and_eq_true, List.all_eq_true, decide_eq_true_eq] at h
  obtain ⟨h1, h2, h3, h4⟩ := h
  refine ⟨⟨h1, fun x hx e => ?_⟩, h3, h4⟩
  have := h2 x hx
  subst e
  cases this
def fMaxL : D → Option D
  | .list (x :: xs) => if okMM (x :: xs) = true then some (PySem.W.maxD x xs) else none
  | _ => none
def fMinL : D → Option D
  | .list (x :: xs) => if okMM (x :: xs) = true then some (PySem.W.minD x xs) else none
  | _ => none
def fMax2 : D → D → Option D
  | .int i, .int j => some (.int (if j > i then j else i))
  | _, _ => none
def fMin2 : D → D → Option D
  | .int i, .int j => some (.int (if j < i then j else i))
  | _, _ => none
theorem plainAll_mem : ∀ {ds : List D} {d : D}, PySem.PyData.plainAll ds = true → d ∈ ds → d.plain = true
  | x :: xs, d, h, m => by
    have h' : x.plain = true ∧ PySem.PyData.plainAll xs = true := by simpa [PySem.PyData.plainAll] using h
    rcases List.mem_cons.mp m with e | m
    · subst e; exact h'.1
    · exact plainAll_mem h'.2 m
theorem vals_getR : ∀ {xs : List V} {us : List Value} {i : Nat} {u : Value}, Vals xs us → us[i]? = some u → ∃ x, xs[i]? = some x ∧ RelV x u
  | _, _, _, _, .nil, h => by simp at h
  | _, _, 0, _, .cons r _, h => by simp at h; subst h; exact ⟨_, rfl, r⟩
  | _, _, i + 1, u, .cons _ t, h => by
    obtain ⟨x, h1, h2⟩ := vals_getR (i := i) (u := u) t (by simpa using h)
    exact ⟨x, by simpa using h1, h2⟩
theorem cr_maxD (hc : X.calm = true) (hu : X.A.units + 64 < cLine) : CallR X (.builtin "max") (rA X.K (g1 fMaxL)) := by
  intro pins s σ H xs us Q I r h
  obtain ⟨F, ds, z, e, hx, hg, k⟩ := h
  unfold g1 at hg
  split at hg
  · obtain ⟨x, rfl, hv⟩ := vwL1 hx
    unfold fMaxL at hg
    split at hg
    · rename_i d0 ds
      obtain ⟨hok, rfl⟩ := ite_some hg
      obtain ⟨hal, hp, hd⟩ := okMM_of hok
      obtain ⟨a, vs, rfl, hr, hq⟩ := hv
      obtain ⟨its, rv, hl, _⟩ := I.list (.inl hr)
      rw [Vals.ref1 r]
      obtain ⟨as, hrd⟩ := RpL.reads I e _ vs its hp hq rv
      refine PySem.W.max_list_data (I.ok.hd hc) hl.isList hrd hal (by omega) fun i v h' tk bs hv hr' hk => ?_
      obtain ⟨x', hx', rx'⟩ := vals_getR rv (by simpa using hv)
      obtain ⟨d, hd', rd⟩ := hq.get hx'
      have I2 : Inv X pins σ H { s with heap := h', toks := tk } := I.kept hk
      have hpd : d.plain = true := plainAll_mem hp (List.mem_of_getElem? hd')
      obtain ⟨cs, hrd2⟩ := Rp.reads I2 e d x' v hpd rd rx'
      have eq := PySem.SeqAt.plain_unique d _ v cs bs hpd hrd2 hr'
      rw [← eq] at k
      exact ⟨x', H, I2, rx', k.flat e rd⟩
    · cases hg
  · cases hg
theorem cr_minD (hc : X.calm = true) (hu : X.A.units + 64 < cLine) : CallR X (.builtin "min") (rA X.K (g1 fMinL)) := by
  intro pins s σ H xs us Q I r h
  obtain ⟨F, ds, z, e, hx, hg, k⟩ := h
  unfold g1 at hg
  split at hg
  · obtain ⟨x, rfl, hv⟩ := vwL1 hx
    unfold fMinL at hg
    split at hg
    · rename_i d0 ds
      obtain ⟨hok, rfl⟩ := ite_some hg
      obtain ⟨hal, hp, hd⟩ := okMM_of hok
      obtain ⟨a, vs, rfl, hr, hq⟩ := hv
      obtain ⟨its, rv, hl, _⟩ := I.list (.inl hr)
      rw [Vals.ref1 r]
      obtain ⟨as, hrd⟩ := RpL.reads I e _ vs its hp hq rv
      refine PySem.W.min_list_data (I.ok.hd hc) hl.isList hrd hal (by omega) fun i v h' tk bs hv hr' hk => ?_
      obtain ⟨x', hx', rx'⟩ := vals_getR rv (by simpa using hv)
      obtain ⟨d, hd', rd⟩ := hq.get hx'
      have I2 : Inv X pins σ H { s with heap := h', toks := tk } := I.kept hk
      have hpd : d.plain = true := plainAll_mem hp (List.mem_of_getElem? hd')
      obtain ⟨cs, hrd2⟩ := Rp.reads I2 e d x' v hpd rd rx'
      have eq := PySem.SeqAt.plain_unique d _ v cs bs hpd hrd2 hr'
      rw [← eq] at k
      exact ⟨x', H, I2, rx', k.flat e rd⟩
    · cases hg
  · cases hg
theorem se_maxL {a : Expr} {es : List Expr} {k : Nat} (C : Cfg X W k) (hm : X.mg "max" = none) (ha : SA X W (a :: es) gs) (hg : Gl X "max" := by rfl) (he : starEach (a :: es) X.env = (false, eval a X.env) :: starEach es X.env := by rfl) (hpl : (backTo pos (starEach es X.env)).any (·.1) = false := by rfl) :
    SE X W (.Call (.Name "max" p) (a :: es) [] pos) (dCal (g1 fMaxL) gs) := se_cal calD_rA (fun t pt => pe_callB (cr_maxD C.calm C.hu) hg hm PyProof.Rows.boot_max pt (he := he) (hpl := hpl)) ha
theorem se_minL {a : Expr} {es : List Expr} {k : Nat} (C : Cfg X W k) (hm : X.mg "min" = none) (ha : SA X W (a :: es) gs) (hg : Gl X "min" := by rfl) (he : starEach (a :: es) X.env = (false, eval a X.env) :: starEach es X.env := by rfl) (hpl : (backTo pos (starEach es X.env)).any (·.1) = false := by rfl) :
    SE X W (.Call (.Name "min" p) (a :: es) [] pos) (dCal (g1 fMinL) gs) := se_cal calD_rA (fun t pt => pe_callB (cr_minD C.calm C.hu) hg hm PyProof.Rows.boot_min pt (he := he) (hpl := hpl)) ha
theorem se_max2 {a : Expr} {es : List Expr} {k : Nat} (C : Cfg X W k) (hm : X.mg "max" = none) (ha : SA X W (a :: es) gs) (hg : Gl X "max" := by rfl) (he : starEach (a :: es) X.env = (false, eval a X.env) :: starEach es X.env := by rfl) (hpl : (backTo pos (starEach es X.env)).any (·.1) = false := by rfl) :
    SE X W (.Call (.Name "max" p) (a :: es) [] pos) (dCal (g2 fMax2) gs) := se_cal (calD2 fun F H x y p q z Q e hv hw hf k => by
  unfold fMax2 at hf
  split at hf
  · cases hf
    cases (show Rp X.K F x (.int _) from hv)
    cases (show Rp X.K F y (.int _) from hw)
    exact ⟨_, _, rfl, k.flat e (.int _)⟩
  · cases hf) (fun t pt => pe_callB (call_max2 C.calm) hg hm PyProof.Rows.boot_max pt (he := he) (hpl := hpl)) ha
theorem se_min2 {a : Expr} {es : List Expr} {k : Nat} (C : Cfg X W k) (hm : X.mg "min" = none) (ha : SA X W (a :: es) gs) (hg : Gl X "min" := by rfl) (he : starEach (a :: es) X.env = (false, eval a X.env) :: starEach es X.env := by rfl) (hpl : (backTo pos (starEach es X.env)).any (·.1) = false := by rfl) :
    SE X W (.Call (.Name "min" p) (a :: es) [] pos) (dCal (g2 fMin2) gs) := se_cal (calD2 fun F H x y p q z Q e hv hw hf k => by
  unfold fMin2 at hf
  split at hf
  · cases hf
    cases (show Rp X.K F x (.int _) from hv)
    cases (show Rp X.K F y (.int _) from hw)
    exact ⟨_, _, rfl, k.flat e (.int _)⟩
  · cases hf) (fun t pt => pe_callB (call_min2 C.calm) hg hm PyProof.Rows.boot_min pt (he := he) (hpl := hpl)) ha
/-- list(x) of a list, a tuple -/
def fList : D → Option D
  | .list xs => some (.list xs)
  | .tuple xs => some (.list xs)
  | _ => none
theorem sf_listOf {a : Expr} {es : List Expr} (hm : X.mg "list" = none) (ha : SA X W (a :: es) gs) (hg : Gl X "list" := by rfl) (he : starEach (a :: es) X.env = (false, eval a X.env) :: starEach es X.env := by rfl) (hpl : (backTo pos (starEach es X.env)).any (·.1) = false := by rfl) :
    SF X W (.Call (.Name "list" p) (a :: es) [] pos) (nCal (g1 fList) gs) := sf_cal (calF1 fun F H x p z Q e hv hf k => by
  unfold fList at hf
  split at hf
  · cases hf
    obtain ⟨a, vs, rfl, hr, hq⟩ := hv
    exact ⟨a, vs, rfl, .inl (.inl hr), fun l hl => k.newL e hl hq⟩
  · cases hf
    obtain ⟨a, vs, rfl, hr, hq⟩ := hv.tup e
    exact ⟨a, vs, rfl, .inr hr, fun l hl => k.newL e hl hq⟩
  · cases hf) (fun t pt => pe_callTy call_list_of hg hm PyProof.Rows.boot_list pt (he := he) (hpl := hpl)) ha
def fTuple : D → Option D
  | .list xs => some (.tuple xs)
  | .tuple xs => some (.tuple xs)
  | _ => none
theorem se_tupleOf {a : Expr} {es : List Expr} (hm : X.mg "tuple" = none) (ha : SA X W (a :: es) gs) (hg : Gl X "tuple" := by rfl) (he : starEach (a :: es) X.env = (false, eval a X.env) :: starEach es X.env := by rfl) (hpl : (backTo pos (starEach es X.env)).any (·.1) = false := by rfl) :
    SE X W (.Call (.Name "tuple" p) (a :: es) [] pos) (dCal (g1 fTuple) gs) := se_cal (calD1 fun F H x p z Q e hv hf k => by
  unfold fTuple at hf
  split at hf
  · cases hf
    obtain ⟨a, vs, rfl, hr, hq⟩ := hv
    exact ⟨a, vs, rfl, .inl ⟨.inl hr, fun l hl => k.newT e hl hq⟩⟩
  · cases hf
    cases (show Rp X.K F x (.tuple _) from hv) with
    | tup h r => exact ⟨_, _, rfl, .inr ⟨same_t e h, k.flat e (.tup h r)⟩⟩
  · cases hf) (fun t pt => pe_callTy call_tuple_of hg hm PyProof.Rows.boot_tuple pt (he := he) (hpl := hpl)) ha
/-- all, any: of a list of bools -/
def boolsD : List D → Option (List Bool)
  | [] => some []
  | .bool i :: r => (boolsD r).map (i :: ·)
  | _ :: _ => none
theorem boolsD_eq : ∀ {ds : List D} {ns : List Bool}, boolsD ds = some ns → ds = ns.map PyData.bool
  | [], _, h => by cases h; rfl
  | .bool i :: r, ns, h => by
    unfold boolsD at h
    cases hr : boolsD r with
    | none => rw [hr] at h; cases h
    | some ms =>
      rw [hr] at h
      have h' : i :: ms = ns := Option.some.inj h
      subst h'
      rw [boolsD_eq hr]; rfl
  | .none :: _, _, h => by cases h
  | .int _ :: _, _, h => by cases h
  | .str _ :: _, _, h => by cases h
  | .list _ :: _, _, h => by cases h
  | .tuple _ :: _, _, h => by cases h
  | .dict _ :: _, _, h => by cases h
@[simp] theorem boolsD_bools (ns : List Bool) : boolsD (ns.map PyData.bool) = some ns := by
  induction ns with
  | nil => rfl
  | cons n ns ih => show (boolsD (ns.map PyData.bool)).map (n :: ·) = _; rw [ih]; rfl
def fAll : D → Option D
  | .list xs => (boolsD xs).map fun ns => .bool (ns.all id)
  | _ => none
def fAny : D → Option D
  | .list xs => (boolsD xs).map fun ns => .bool (ns.any id)
  | _ => none
theorem se_all {a : Expr} {es : List Expr} {k : Nat} (C : Cfg X W k) (hm : X.mg "all" = none) (ha : SA X W (a :: es) gs) (hg : Gl X "all" := by rfl) (he : starEach (a :: es) X.env = (false, eval a X.env) :: starEach es X.env := by rfl) (hpl : (backTo pos (starEach es X.env)).any (·.1) = false := by rfl) :
    SE X W (.Call (.Name "all" p) (a :: es) [] pos) (dCal (g1 fAll) gs) := se_cal (calD1 fun F H x p z Q e hv hf k => by
  unfold fAll at hf
  split at hf
  · rename_i ds
    cases hn : boolsD ds with
    | none => rw [hn] at hf; cases hf
    | some ns =>
      rw [hn] at hf
      cases hf
      obtain ⟨a, vs, rfl, hr, hq⟩ := hv
      rw [boolsD_eq hn] at hq
      have hv := hq.ofBools
      subst hv
      exact ⟨a, ns, rfl, .inl hr, k.flat e (.bl _)⟩
  · cases hf) (fun t pt => pe_callB (cr_all C.calm) hg hm PyProof.Rows.boot_all pt (he := he) (hpl := hpl)) ha
theorem se_any {a : Expr} {es : List Expr} {k : Nat} (C : Cfg X W k) (hm : X.mg "any" = none) (ha : SA X W (a :: es) gs) (hg : Gl X "any" := by rfl) (he : starEach (a :: es) X.env = (false, eval a X.env) :: starEach es X.env := by rfl) (hpl : (backTo pos (starEach es X.env)).any (·.1) = false := by rfl) :
    SE X W (.Call (.Name "any" p) (a :: es) [] pos) (dCal (g1 fAny) gs) := se_cal (calD1 fun F H x p z Q e hv hf k => by
  unfold fAny at hf
  split at hf
  · rename_i ds
    cases hn : boolsD ds with
    | none => rw [hn] at hf; cases hf
    | some ns =>
      rw [hn] at hf
      cases hf
      obtain ⟨a, vs, rfl, hr, hq⟩ := hv
      rw [boolsD_eq hn] at hq
      have hv := hq.ofBools
      subst hv
      exact ⟨a, ns, rfl, .inl hr, k.flat e (.bl _)⟩
  · cases hf) (fun t pt => pe_callB (cr_any C.calm) hg hm PyProof.Rows.boot_any pt (he := he) (hpl := hpl)) ha

/-! ### isinstance(x, T), T built in -/
def tyD : D → String
  | .none => "NoneType"
  | .bool _ => "bool"
  | .int _ => "int"
  | .str _ => "str"
  | .list _ => "list"
  | .tuple _ => "tuple"
  | .dict _ => "dict"
def isiD (T : String) (p : D) : Bool := tyD p == T || (tyD p == "bool" && T == "int")
theorem kit_tab : ∀ a ∈ ["NoneType", "bool", "int", "str", "list", "tuple", "dict"], ∀ b ∈ ["bool", "int", "str", "list", "tuple", "dict"], kitB a b = some (a == b || (a == "bool" && b == "int")) := by decide +kernel
theorem kit_tyD {T : String} (hT : T ∈ ["bool", "int", "str", "list", "tuple", "dict"]) (p : D) : kitB (tyD p) T = some (isiD T p) := by
  refine kit_tab _ ?_ _ hT
  cases p <;> simp [tyD]
theorem rd_tyx {K : PySem.W.Frag} {H : Hp} {a : Addr} {xs : List V} (h : Rd H a (.lst xs)) : TyX K H (.ref a) (.type "list") := by
  rcases h with h | ⟨o, h⟩
  · exact .base (.lst h)
  · exact .base (.frz h)
theorem Vw.ty {K : PySem.W.Frag} {F H : Hp} {x : V} {p : D} (e : Same F H) (h : Vw K F H x p) : TyX K H x (.type (tyD p)) := by
  cases p with
  | none => cases (show Rp K F x .none from h); exact .base .non
  | bool b => cases (show Rp K F x (.bool b) from h); exact .base (.bl _)
  | int b => cases (show Rp K F x (.int b) from h); exact .base (.int _)
  | str b => cases (show Rp K F x (.str b) from h); exact .base (.str _)
  | list b => obtain ⟨a, xs, rfl, hr, _⟩ := h; exact rd_tyx hr
  | tuple b =>
    obtain ⟨a, xs, rfl, hr, _⟩ := h.tup e
    rcases hr with (hr | ⟨o, hr⟩) | ⟨o, _, _, hr, hc, _⟩
    · exact .base (.tup hr)
    · exact .fTuple hr
    · exact .kTuple hr hc
  | dict b =>
    obtain ⟨a, rfl, ⟨_, _, _, hr, _⟩ | ⟨_, _, _, hr, _⟩⟩ := h
    · rcases hr with hr | ⟨o, hr⟩
      · exact .base (.dK hr)
      · exact .fDict hr
    · exact .base (.dT hr)
def dIsi (T : String) (f : dE) : dE := dOp1 (fun p => some (.bool (isiD T p))) f
theorem se_isi {a : Expr} {fa : dE} {T : String} {x : Str} {p2 : Pos} (hm : X.mg "isinstance" = none) (hm2 : X.mg x = none) (ha : SE X W a fa) (hv : bootBuiltins x = some (.type T)) (hT : T ∈ ["bool", "int", "str", "list", "tuple", "dict"] := by decide) (hg : Gl X "isinstance" := by rfl) (hg2 : Gl X x := by rfl)
    (hn : x ≠ "__name__" := by decide) (hd : (x == ("__debug__" : Str)) = false := by decide)
    (he : starEach [a, .Name x p2] X.env = (false, eval a X.env) :: starEach [.Name x p2] X.env := by rfl) (he2 : starEach [.Name x p2] X.env = (false, eval (.Name x p2) X.env) :: starEach [] X.env := by rfl) (hpl : (backTo pos (starEach [.Name x p2] X.env)).any (·.1) = false := by rfl) :
    SE X W (.Call (.Name "isinstance" p) [a, .Name x p2] [] pos) (dIsi T fa) := by
  obtain ⟨t, pt, k⟩ := ha
  refine ⟨_, pe_callB call_isi hg hm PyProof.Rows.boot_isinstance (pa_cons pt (pa_cons (pe_bltn (v := .ty T) hg2 hm2 hv rfl hn hd) pa_nil he2) he) (he := he) (hpl := hpl), fun ρ st F bs σ H Q b e h => ?_⟩
  refine k ρ st F bs σ H _ b e (Ok.bind h fun x r1 st1 F1 H1 _ s1 b1 q1 h => ?_)
  cases h1 : der st1 r1 with
  | none => rw [h1] at h; exact h.elim
  | some p =>
    rw [h1] at h
    exact ⟨_, _, _, _, _, rfl, .ty T, (vw_of b1 q1 h1).ty b1.ex, kit_ty (kit_tyD hT p), (Ok.data b1 h).flat b1.ex (.bl _)⟩
end
end CB
end
section
set_option Elab.async false
set_option linter.all false
set_option autoImplicit false
set_option maxRecDepth 100000
set_option maxHeartbeats 4000000
namespace CB
open PySem PySem.Spec PyProof.Rows L2
/-! ### sorted -/
def isTupC : D → Bool
  | .tuple (_ :: _) => true
  | _ => false
def notTN : D → Bool
  | .tuple _ => false
  | .none => false
  | _ => true
def okSort (ds : List D) : Bool := (ds.all fun x => ds.all fun y => PySem.W.alike x y) && ((ds.all isTupC || ds.all notTN) && (PySem.PyData.plainAll ds && (decide (PySem.PyData.depthAll ds ≤ 60) && decide (ds.length ≤ lim))))
theorem okSort_of {ds : List D} (h : okSort ds = true) : PySem.W.AllAlike ds ∧ PySem.W.Sortable ds ∧ PySem.PyData.plainAll ds = true ∧ PySem.PyData.depthAll ds ≤ 60 ∧ ds.length ≤ lim := by
  unfold okSort at h
  simp only [Bool.and_eq_true, Bool.or_eq_true, List.all_eq_true, decide_eq_true_eq] at h
  obtain ⟨h1, h2, h3, h4, h5⟩ := h
  refine ⟨fun d hd d' hd' => h1 d hd d' hd', ?_, h3, h4, h5⟩
  rcases h2 with h2 | h2
  · refine .inl fun d hd => ?_
    have := h2 d hd
    cases d with
    | tuple xs => cases xs with
      | nil => cases this
      | cons x r => exact ⟨x, r, rfl⟩
    | _ => cases this
  · refine .inr fun d hd => ?_
    have := h2 d hd
    cases d with
    | none => cases this
    | tuple xs => cases this
    | _ => exact ⟨fun e => (nomatch e), fun xs e => (nomatch e)⟩
def sortD (ds : List D) : List D := ds.mergeSort (PySem.W.dataLe false id)
def fSorted : D → Option D
  | .list ds => if okSort ds = true then some (.list (sortD ds)) else none
  | _ => none
def relVD (u : Value) (p : V × D) : Prop := RelV p.1 u
theorem each_zip {K : PySem.W.Frag} {F : Hp} : ∀ {vs : List V} {ds : List D} {us : List Value}, RpL K F vs ds → Vals vs us → PySem.W.EachIs relVD us (vs.zip ds)
  | [], _, _, .nil, .nil => .nil
  | _ :: _, _, _, .cons h t, .cons r s => .cons r (each_zip t s)
theorem vals_each : ∀ {ps : List (V × D)} {us : List Value}, PySem.W.EachIs relVD us ps → Vals (ps.map (·.1)) us
  | _, _, .nil => .nil
  | _, _, .cons h t => .cons h (vals_each t)
theorem each_reads {X : Cx} {pins : List (Addr × Obj)} {σ : L2.St} {F H : Hp} {s : Shared} (I : Inv X pins σ H s) (e : Same F H) : ∀ {vs : List V} {ds : List D} {us : List Value}, PySem.PyData.plainAll ds = true → RpL X.K F vs ds → Vals vs us → PySem.W.EachIs (fun v (b : V × D) => ∃ as, Reads s.heap v (Prod.snd b) as) us (vs.zip ds)
  | [], _, _, _, .nil, .nil => .nil
  | _ :: _, _, _, hp, .cons h t, .cons r q => by
    have h' := hp
    rw [show PySem.PyData.plainAll (_ :: _) = (PySem.PyData.plain _ && PySem.PyData.plainAll _) from rfl, Bool.and_eq_true] at h'
    exact .cons (Rp.reads I e _ _ _ h'.1 h r) (each_reads I e h'.2 t q)
theorem zip_rp {K : PySem.W.Frag} {F : Hp} : ∀ {vs : List V} {ds : List D}, RpL K F vs ds → ∀ p, p ∈ vs.zip ds → Rp K F p.1 p.2
  | _, _, .nil, p, h => by simp at h
  | _, _, .cons h t, p, m => by
    rw [List.zip_cons_cons] at m
    rcases List.mem_cons.mp m with rfl | m
    · exact h
    · exact zip_rp t p m
theorem rp_pairs {K : PySem.W.Frag} {F : Hp} : ∀ {ps : List (V × D)}, (∀ p, p ∈ ps → Rp K F p.1 p.2) → RpL K F (ps.map (·.1)) (ps.map (·.2))
  | [], _ => .nil
  | p :: ps, h => .cons (h p List.mem_cons_self) (rp_pairs fun q hq => h q (List.mem_cons_of_mem _ hq))
theorem depth_mem : ∀ {ds : List D} {d : D}, d ∈ ds → d.depth ≤ PySem.PyData.depthAll ds
  | x :: xs, d, h => by
    rw [show PySem.PyData.depthAll (x :: xs) = max x.depth (PySem.PyData.depthAll xs) from rfl]
    rcases List.mem_cons.mp h with rfl | h
    · exact Nat.le_max_left _ _
    · exact Nat.le_trans (depth_mem h) (Nat.le_max_right _ _)
section
variable {X : Cx} {W : WX} {es : List Expr} {gs : Env → Sto → R (List SV)} {e : Expr} {pos p : Pos}
theorem cr_sortedD (hu : X.A.units + 64 < cLine) : CallR X (.builtin "sorted") (rAF X.K (g1 fSorted)) := by
  intro pins s σ H xs us Q I r h
  obtain ⟨F, ds, z, e, hx, hg, k⟩ := h
  unfold g1 at hg
  split at hg
  · obtain ⟨x, rfl, hv⟩ := vwL1 hx
    unfold fSorted at hg
    split at hg
    · rename_i ds
      obtain ⟨hok, rfl⟩ := ite_some hg
      obtain ⟨hal, hsb, hp, hd, hlen⟩ := okSort_of hok
      obtain ⟨a, vs, rfl, hr, hq⟩ := hv
      obtain ⟨its, rv, hl, _⟩ := I.list (.inl hr)
      rw [Vals.ref1 r]
      have hz : (vs.zip ds).map Prod.snd = ds := List.map_snd_zip (by rw [hq.length]; exact Nat.le_refl _)
      have hzl : (vs.zip ds).length = ds.length := by rw [List.length_zip, hq.length, Nat.min_self]
      refine PySem.W.sorted_data (enc := Prod.snd) hl.isList (each_zip hq rv) (each_reads I e hp hq rv) (by rw [hz]; exact hal) (by rw [hz]; exact hsb) (by rw [hzl]; exact Nat.le_trans hlen lim_line) (fun b hb => ?_) fun out ho eo => ?_
      · have : b.2 ∈ ds := by rw [← hz]; exact List.mem_map_of_mem hb
        have := depth_mem this
        omega
      · obtain ⟨ep, he'⟩ := PyProof.Rows.sortedAll_at s.heap its (List.toArray out)
        have hv := vals_each eo
        have hn : (((vs.zip ds).mergeSort (PySem.W.dataLe false Prod.snd)).map (·.1)).length ≤ sizeLine := by
          rw [List.length_map, List.length_mergeSort, hzl]
          exact Nat.le_trans hlen lim_line
        have hD : H (s.heap.objs.size + 1) = none := I.hok.fresh (Nat.le_succ _)
        refine ⟨.ref _, _, I.laid (t' := s.toks) (o := .lst (((vs.zip ds).mergeSort (PySem.W.dataLe false Prod.snd)).map (·.1))) (fun _ _ => PyProof.Rows.sortedAll_old) (Nat.le_succ _) ⟨hn, out, ep, hv, he'⟩, rfl, ?_⟩
        refine k.newL e hD ?_
        have hs : sortD ds = ((vs.zip ds).mergeSort (PySem.W.dataLe false Prod.snd)).map (·.2) := by
          unfold sortD
          have hm := List.map_mergeSort (r := PySem.W.dataLe false Prod.snd) (s := PySem.W.dataLe false id) (f := Prod.snd) (l := vs.zip ds) (fun a _ b _ => rfl)
          rw [hz] at hm
          exact hm.symm
        rw [hs]
        exact rp_pairs fun p hp => zip_rp hq p (List.mem_mergeSort.mp hp)
    · cases hg
  · cases hg
theorem sf_sorted {a : Expr} {es : List Expr} {k : Nat} (C : Cfg X W k) (hm : X.mg "sorted" = none) (ha : SA X W (a :: es) gs) (hg : Gl X "sorted" := by rfl) (he : starEach (a :: es) X.env = (false, eval a X.env) :: starEach es X.env := by rfl) (hpl : (backTo pos (starEach es X.env)).any (·.1) = false := by rfl) :
    SF X W (.Call (.Name "sorted" p) (a :: es) [] pos) (nCal (g1 fSorted) gs) := sf_cal calF_rAF (fun t pt => pe_callB (cr_sortedD C.hu) hg hm PyProof.Rows.boot_sorted pt (he := he) (hpl := hpl)) ha
end

/-! ### canonical transformers -/
def canE (K : PySem.W.Frag) (W : WX) (f : dE) : TE := fun σ H Q => ∃ ρ st F bs, RepB K F bs st H ∧ EnvR K F bs ρ σ ∧ Ok K W σ F H bs (relE K bs) Q (f ρ st)
def canF (K : PySem.W.Frag) (W : WX) (f : Env → Sto → R D) : TE := fun σ H Q => ∃ ρ st F bs, RepB K F bs st H ∧ EnvR K F bs ρ σ ∧ Ok K W σ F H bs (relF K H) Q (f ρ st)
def canT (K : PySem.W.Frag) (W : WX) (f : Env → Sto → R Bool) : TT := fun σ H Q => ∃ ρ st F bs, RepB K F bs st H ∧ EnvR K F bs ρ σ ∧ Ok K W σ F H bs relB Q (f ρ st)
section
variable {X : Cx} {W : WX} {e : Expr}
theorem SE.can {f : dE} (h : SE X W e f) : PE X e (canE X.K W f) := by
  obtain ⟨t, p, k⟩ := h
  exact ⟨fun pins s σ H Q I ⟨ρ, st, F, bs, b, en, o⟩ => p.run pins s σ H Q I (k ρ st F bs σ H Q b en o)⟩
theorem ST.can {f : Env → Sto → R Bool} (h : ST X W e f) : PT X e (canT X.K W f) := by
  obtain ⟨t, p, k⟩ := h
  exact ⟨fun pins s σ H Q I ⟨ρ, st, F, bs, b, en, o⟩ => p.run pins s σ H Q I (k ρ st F bs σ H Q b en o)⟩
end

/-! ### targets -/
def Only (sl : List Nat) (σ σ' : L2.St) : Prop := σ'.length = σ.length ∧ ∀ j, j ∉ sl → σ'[j]? = σ[j]?
theorem Only.refl (sl : List Nat) (σ : L2.St) : Only sl σ σ := ⟨rfl, fun _ _ => rfl⟩
theorem Only.trans {sl sm : List Nat} {a b c : L2.St} (h : Only sl a b) (k : Only sm b c) : Only (sl ++ sm) a c := ⟨k.1.trans h.1, fun j hj => by
  rw [List.mem_append, not_or] at hj
  rw [k.2 j hj.2, h.2 j hj.1]⟩
theorem only_set {σ : L2.St} (i : Nat) (v : Option V) : Only [i] σ (σ.set i v) := ⟨by simp, fun j hj => by
  rw [List.getElem?_set_ne]
  exact fun e => hj (by rw [e]; exact List.mem_singleton.mpr rfl)⟩
theorem wipe_only {σ σ' : L2.St} {vs sl : List Nat} (h : Only sl (wipe σ vs) σ') (hs : ∀ j, j ∈ sl → j ∈ vs) : wipe σ' vs = wipe σ vs := by
  apply List.ext_getElem?
  intro j
  by_cases hj : j ∈ vs
  · -- both none, or out of range
    have key : ∀ (τ : L2.St) (ws : List Nat), j ∈ ws → (wipe τ ws)[j]? = if j < τ.length then some none else none := by
      intro τ ws
      induction ws with
      | nil => intro h; cases h
      | cons w ws ih =>
        intro hm
        show ((wipe τ ws).set w none)[j]? = _
        by_cases e : w = j
        · subst e
          by_cases hl : w < τ.length
          · rw [if_pos hl, List.getElem?_set_self (by rw [wipe_length]; exact hl)]
          · rw [if_neg hl, List.getElem?_eq_none (by rw [List.length_set, wipe_length]; omega)]
        · rw [List.getElem?_set_ne e]
          rcases List.mem_cons.mp hm with h1 | h1
          · exact absurd h1.symm e
          · exact ih h1
    rw [key _ _ hj, key _ _ hj, h.1, wipe_length]
  · rw [wipe_out hj, wipe_out hj, h.2 j (fun hm => hj (hs j hm)), wipe_out hj]
def wipeE (ρ : Env) : List Nat → Env
  | [] => ρ
  | v :: vs => (wipeE ρ vs).set v none
theorem EnvR.wipe {K : PySem.W.Frag} {F : Hp} {bs : List Addr} {ρ : Env} {σ : L2.St} (h : EnvR K F bs ρ σ) : ∀ vs : List Nat, EnvR K F bs (wipeE ρ vs) (wipe σ vs)
  | [] => h
  | v :: vs => (EnvR.wipe h vs).setNone v
abbrev dG := D → Env → Option Env
def SG (X : Cx) (tg : Expr) (g : dG) (sl : List Nat) : Prop := ∃ t, PG X tg t ∧ ∀ v d ρ ρ' F bs σ H (Q : L2.St → Hp → Prop), Same F H → Rp X.K F v d → EnvR X.K F bs ρ σ → g d ρ = some ρ' → (∀ σ', Only sl σ σ' → EnvR X.K F bs ρ' σ' → Q σ' H) → t v σ H Q
def SGs (X : Cx) (tg : List Expr) (g : List D → Env → Option Env) (sl : List Nat) : Prop := ∃ t, PGs X tg t ∧ ∀ v d ρ ρ' F bs σ H (Q : L2.St → Hp → Prop), Same F H → RpL X.K F v d → EnvR X.K F bs ρ σ → g d ρ = some ρ' → (∀ σ', Only sl σ σ' → EnvR X.K F bs ρ' σ' → Q σ' H) → t v σ H Q
def canG (K : PySem.W.Frag) (g : dG) (sl : List Nat) : TG := fun v σ H Q => ∃ d ρ ρ' F bs, Same F H ∧ Rp K F v d ∧ EnvR K F bs ρ σ ∧ g d ρ = some ρ' ∧ ∀ σ', Only sl σ σ' → EnvR K F bs ρ' σ' → Q σ' H
theorem SG.can {X : Cx} {tg : Expr} {g : dG} {sl : List Nat} (h : SG X tg g sl) : PG X tg (canG X.K g sl) := by
  obtain ⟨t, p, k⟩ := h
  exact ⟨fun pins s σ H v u Q I r ⟨d, ρ, ρ', F, bs, e, rp, en, hg, q⟩ => p.run pins s σ H v u Q I r (k v d ρ ρ' F bs σ H Q e rp en hg q)⟩
def gN (i : Nat) : dG := fun d ρ => some (ρ.set i (some (.d d)))
def gNilD : List D → Env → Option Env
  | [], ρ => some ρ
  | _, _ => none
def gConsD (g : dG) (r : List D → Env → Option Env) : List D → Env → Option Env
  | d :: ds, ρ => (g d ρ).bind fun ρ1 => r ds ρ1
  | [], _ => none
def gT (n : Nat) (r : List D → Env → Option Env) : dG
  | .tuple ds, ρ => if ds.length = n then r ds ρ else none
  | _, _ => none
section
variable {X : Cx}
theorem sg_name (i : Nat) {x : Str} {pos : Pos} (hN : X.N.Nodup) (hi : X.N[i]? = some x := by rfl) (hx : Loc X.env.scope x := by first | exact Or.inl rfl | exact Or.inr rfl) (hf : X.fn x = true ∨ X.env.scope.names.lookup x = some .local := by first | exact .inl rfl | exact .inr rfl) : SG X (.Name x pos) (gN i) [i] :=
  ⟨_, pg_name hN hi hx hf, fun v d ρ ρ' F bs σ H Q e rp en hg q => by
    cases hg
    exact q _ (only_set i _) (en.set i (r := .d d) rp)⟩
theorem sgs_nil : SGs X [] gNilD [] := ⟨_, pgs_nil, fun v d ρ ρ' F bs σ H Q e rp en hg q => by
  cases rp with
  | nil => cases hg; exact ⟨rfl, q _ (Only.refl _ _) en⟩
  | cons _ _ => cases hg⟩
theorem sgs_cons {e : Expr} {es : List Expr} {g : dG} {r : List D → Env → Option Env} {sl sm : List Nat} (h1 : SG X e g sl) (h2 : SGs X es r sm) (hs : (assignEach (e :: es) X.env).map (·.2) = assign e X.env :: (assignEach es X.env).map (·.2) := by rfl) : SGs X (e :: es) (gConsD g r) (sl ++ sm) := by
  obtain ⟨t, p, k⟩ := h1
  obtain ⟨u, q, l⟩ := h2
  refine ⟨_, pgs_cons p q hs, fun v d ρ ρ' F bs σ H Q e rp en hg kk => ?_⟩
  cases rp with
  | nil => cases hg
  | @cons v0 vs0 d0 ds0 r1 r2 =>
    unfold gConsD at hg
    cases hg1 : g d0 ρ with
    | none => simp only [hg1] at hg; cases hg
    | some ρ1 =>
      simp only [hg1] at hg
      have hg : r ds0 ρ1 = some ρ' := hg
      refine ⟨_, _, rfl, k _ _ ρ ρ1 F bs σ H _ e r1 en hg1 fun σ1 o1 en1 => ?_⟩
      exact l _ _ ρ1 ρ' F bs σ1 H _ e r2 en1 hg fun σ2 o2 en2 => kk σ2 (o1.trans o2) en2
theorem sg_tup {es : List Expr} {r : List D → Env → Option Env} {sl : List Nat} {k : Nat} {pos : Pos} (n : Nat) (hc : X.calm = true) (h : SGs X es r sl) (hn : (assignEach es X.env).length = n := by rfl) (hst : (assignEach es X.env).findIdx? (·.1) = none := by rfl) : SG X (.Tuple es k pos) (gT n r) sl := by
  obtain ⟨t, p, kk⟩ := h
  refine ⟨_, pg_tup hc p hn hst, fun v d ρ ρ' F bs σ H Q e rp en hg q => ?_⟩
  cases rp with
  | tup h1 h2 =>
    unfold gT at hg
    simp only at hg
    split at hg
    · rename_i hl
      exact ⟨_, _, rfl, same_t e h1, by rw [h2.length]; exact hl, kk _ _ ρ ρ' F bs σ H _ e h2 en hg q⟩
    · cases hg
  | _ => cases hg
end

/-! ### what is walked -/
structure ITV where
  items : List D
  chk : Sto → Bool
def ItOk (K : PySem.W.Frag) (bs : List Addr) (F : Hp) (J : It) (I : ITV) : Prop := ∀ (i : Nat) (F1 H1 : Hp) (more : List Addr) (st1 : Sto), Same F F1 → RepB K F1 (bs ++ more) st1 H1 → I.chk st1 = true →
  (∀ d, I.items[i]? = some d → J.go i H1 ∧ ∀ x H2, J.yld i H1 x H2 → ∃ F2, Gro F1 H1 F2 H2 ∧ Rp K F2 x d) ∧ (I.items.length ≤ i → J.stop i H1)
def SI (X : Cx) (W : WX) (tg iter : Expr) (f : Env → Sto → R ITV) : Prop := ∃ wi, PI X tg iter wi ∧ ∀ ρ st F bs σ H (Q : It → Hp → Prop), RepB X.K F bs st H → EnvR X.K F bs ρ σ → Ok X.K W σ F H bs (fun F' _ J I => ItOk X.K bs F' J I) Q (f ρ st) → wi σ H Q
noncomputable def chkBox (i : Nat) (ds : List D) (st : Sto) : Bool := @decide (st[i]? = some (PyData.list ds)) (Classical.propDecidable _)
theorem chkBox_of {i : Nat} {ds : List D} {st : Sto} (h : chkBox i ds st = true) : st[i]? = some (PyData.list ds) := by
  unfold chkBox at h
  exact @of_decide_eq_true _ (Classical.propDecidable _) h
theorem chkBox_yes {i : Nat} {ds : List D} {st : Sto} (h : st[i]? = some (PyData.list ds)) : chkBox i ds st = true := by
  unfold chkBox
  exact @decide_eq_true _ (Classical.propDecidable _) h
/-- a list (frozen, or a box that is left alone) -/
noncomputable def iL (f : dE) : Env → Sto → R ITV := fun ρ st => (f ρ st).bind fun x st1 => match x with
  | .d (.list ds) => .ok ⟨ds, fun _ => true⟩ st1
  | .box i => (match st1[i]? with
    | some (.list ds) => .ok ⟨ds, chkBox i ds⟩ st1
    | _ => .bad)
  | _ => .bad
def iT (f : dE) : Env → Sto → R ITV := fun ρ st => (f ρ st).bind fun x st1 => match x with
  | .d (.tuple ds) => .ok ⟨ds, fun _ => true⟩ st1
  | _ => .bad
/-- where a list stands, for the walk -/
theorem walk_list {K : PySem.W.Frag} {F : Hp} {bs : List Addr} {v : V} {x : SV} {st : Sto} {I : ITV} (h : SRp K F bs v x) (hI : (match x with
    | .d (.list ds) => R.ok (ITV.mk ds fun _ => true) st
    | .box i => (match st[i]? with
      | some (.list ds) => .ok ⟨ds, chkBox i ds⟩ st
      | _ => .bad)
    | _ => .bad) = .ok I st) : ∃ a, v = .ref a ∧ ∀ (F1 H1 : Hp) (more : List Addr) (st1 : Sto), Same F F1 → RepB K F1 (bs ++ more) st1 H1 → I.chk st1 = true → ∃ vs, Rd H1 a (.lst vs) ∧ RpL K F1 vs I.items := by
  cases x with
  | d p =>
    cases p with
    | list ds =>
      cases hI
      cases (show Rp K F v (.list ds) from h) with
      | lst h1 h2 => exact ⟨_, rfl, fun F1 H1 more st1 e b hc => ⟨_, same_rd (e.trans b.ex) h1, h2.mono e⟩⟩
    | _ => cases hI
  | box i =>
    obtain ⟨a, rfl, ha⟩ := h
    refine ⟨a, rfl, fun F1 H1 more st1 e b hc => ?_⟩
    simp only at hI
    split at hI
    · rename_i ds hs
      cases hI
      have ha' : (bs ++ more)[i]? = some a := by
        have hl := (List.getElem?_eq_some_iff.mp ha).1
        rw [List.getElem?_append_left hl]; exact ha
      obtain ⟨_, xs, hx, hr⟩ := b.at_ i a _ ha' (chkBox_of hc)
      exact ⟨xs, .of hx, hr⟩
    · cases hI
section
variable {X : Cx} {W : WX} {a b tg : Expr} {fa fb : dE} {pos p : Pos}
theorem si_list (h : SE X W a fa) : SI X W tg a (iL fa) := by
  obtain ⟨t, pt, k⟩ := h
  refine ⟨_, pi_list pt, fun ρ st F bs σ H Q b e h => ?_⟩
  refine k ρ st F bs σ H _ b e (Ok.bind h fun x r1 st1 F1 H1 _ s1 b1 q1 h => ?_)
  cases hI : (match r1 with
    | .d (.list ds) => R.ok (ITV.mk ds fun _ => true) st1
    | .box i => (match st1[i]? with
      | some (.list ds) => .ok ⟨ds, chkBox i ds⟩ st1
      | _ => .bad)
    | _ => .bad) with
  | bad => rw [hI] at h; exact h.elim
  | ex c x st2 => exfalso; split at hI <;> first | cases hI | (split at hI <;> cases hI)
  | ok I st2 =>
    have est : st2 = st1 := by split at hI <;> first | (cases hI; rfl) | (split at hI <;> first | (cases hI; rfl) | cases hI) | cases hI
    subst est
    rw [hI] at h
    obtain ⟨a, rfl, w⟩ := walk_list q1 hI
    have hc : I.chk st2 = true := by
      split at hI
      · cases hI; rfl
      · split at hI
        · rename_i he
          cases hI
          exact chkBox_yes he
        · cases hI
      · cases hI
    obtain ⟨vs, h1, _⟩ := w F1 H1 [] st2 (Same.refl _) (by rw [List.append_nil]; exact b1) hc
    refine ⟨a, rfl, ⟨vs, .inl h1⟩, h.ret b1 fun i F2 H2 more st3 e2 b2 hc2 => ?_⟩
    obtain ⟨ws, h3, h4⟩ := w F2 H2 more st3 e2 b2 hc2
    refine ⟨fun d hd => ?_, fun hi => ⟨ws, .inl h3, by rw [h4.length]; exact hi⟩⟩
    obtain ⟨v, hv, rv⟩ := h4.getD hd
    refine ⟨⟨ws, v, .inl h3, hv⟩, fun x H3 y => ?_⟩
    obtain ⟨rfl, hy⟩ := y
    have := hy ws (.inl h3)
    rw [hv] at this
    cases this
    exact ⟨F2, Gro.refl b2.ex, rv⟩
theorem si_tup (h : SE X W a fa) : SI X W tg a (iT fa) := by
  obtain ⟨t, pt, k⟩ := h
  refine ⟨_, pi_tup pt, fun ρ st F bs σ H Q b e h => ?_⟩
  refine k ρ st F bs σ H _ b e (Ok.bind h fun x r1 st1 F1 H1 _ s1 b1 q1 h => ?_)
  cases r1 with
  | box i => exact h.elim
  | d p =>
    cases p with
    | tuple ds =>
      cases (show Rp X.K F1 x (.tuple ds) from q1) with
      | tup h1 h2 =>
        rename_i a vs
        refine ⟨a, rfl, ⟨vs, same_t b1.ex h1⟩, h.ret b1 fun i F2 H2 more st3 e2 b2 hc2 => ?_⟩
        have h3 := same_t (e2.trans b2.ex) h1
        have h4 := h2.mono e2
        refine ⟨fun d hd => ?_, fun hi => ⟨vs, h3, by rw [h4.length]; exact hi⟩⟩
        obtain ⟨v, hv, rv⟩ := h4.getD hd
        refine ⟨⟨vs, v, h3, hv⟩, fun x H3 y => ?_⟩
        obtain ⟨rfl, hy⟩ := y
        have := hy vs h3
        rw [hv] at this
        cases this
        exact ⟨F2, Gro.refl b2.ex, rv⟩
    | _ => exact h.elim
/-- range(n), range(m, n) -/
def rangeD (lo : Int) (n : Nat) : List D := (List.range n).map fun i => PyData.int (lo + (i : Nat))
theorem rangeD_get {lo : Int} {n i : Nat} {d : D} (h : (rangeD lo n)[i]? = some d) : i < n ∧ d = .int (lo + (i : Nat)) := by
  unfold rangeD at h
  rw [List.getElem?_map] at h
  by_cases hi : i < n
  · rw [List.getElem?_range hi] at h
    exact ⟨hi, (Option.some.inj h).symm⟩
  · rw [List.getElem?_eq_none (by simpa using hi)] at h; cases h
theorem itOk_range {K : PySem.W.Frag} {bs : List Addr} {F : Hp} {lo : Int} {n : Nat} : ItOk K bs F (Itr lo n) ⟨rangeD lo n, fun _ => true⟩ := fun i F2 H2 more st3 e2 b2 hc2 => by
  refine ⟨fun d hd => ?_, fun hi => ?_⟩
  · obtain ⟨hi, rfl⟩ := rangeD_get hd
    refine ⟨hi, fun x H3 y => ?_⟩
    obtain ⟨rfl, rfl⟩ := y
    exact ⟨F2, Gro.refl b2.ex, .int _⟩
  · show n ≤ i
    simpa [rangeD] using hi
def iR1 (g : Env → Sto → R (List SV)) : Env → Sto → R ITV := fun ρ st => (g ρ st).bind fun xs st1 => match xs with
  | [.d (.int j)] => if j.natAbs ≤ 1000000000 then .ok ⟨rangeD 0 j.toNat, fun _ => true⟩ st1 else .bad
  | _ => .bad
def iR2 (g : Env → Sto → R (List SV)) : Env → Sto → R ITV := fun ρ st => (g ρ st).bind fun xs st1 => match xs with
  | [.d (.int i), .d (.int j)] => if i.natAbs ≤ 1000000000 ∧ j.natAbs ≤ 1000000000 then .ok ⟨rangeD i (j - i).toNat, fun _ => true⟩ st1 else .bad
  | _ => .bad
variable {gs : Env → Sto → R (List SV)}
theorem si_range1 (hm : X.mg "range" = none) (h : SA X W [a] gs) (hg : Gl X "range" := by rfl) (hs : starEach [a] X.env = [(false, eval a X.env)] := by rfl) : SI X W tg (.Call (.Name "range" p) [a] [] pos) (iR1 gs) := by
  obtain ⟨t, pt, k⟩ := h
  refine ⟨_, pi_range1 hg hm pt hs, fun ρ st F bs σ H Q b e h => ?_⟩
  refine k ρ st F bs σ H _ b e (Ok.bind h fun x r1 st1 F1 H1 _ s1 b1 q1 h => ?_)
  split at h
  · cases q1 with
    | cons q t =>
      cases t
      cases (show Rp X.K F1 _ (.int _) from q)
      split at h
      · rename_i hj
        exact ⟨_, rfl, by omega, by omega, h.ret b1 itOk_range⟩
      · exact h.elim
  · exact h.elim
theorem si_range2 {b : Expr} (hm : X.mg "range" = none) (h : SA X W [a, b] gs) (hg : Gl X "range" := by rfl) (hs : starEach [a, b] X.env = [(false, eval a X.env), (false, eval b X.env)] := by rfl) (hs2 : starEach [b] X.env = [(false, eval b X.env)] := by rfl) : SI X W tg (.Call (.Name "range" p) [a, b] [] pos) (iR2 gs) := by
  obtain ⟨t, pt, k⟩ := h
  refine ⟨_, pi_range2 hg hm pt hs hs2, fun ρ st F bs σ H Q b e h => ?_⟩
  refine k ρ st F bs σ H _ b e (Ok.bind h fun x r1 st1 F1 H1 _ s1 b1 q1 h => ?_)
  split at h
  · cases q1 with
    | cons q t =>
      cases t with
      | cons q2 t =>
        cases t
        cases (show Rp X.K F1 _ (.int _) from q)
        cases (show Rp X.K F1 _ (.int _) from q2)
        split at h
        · rename_i hj
          exact ⟨_, _, rfl, ⟨by omega, by omega, by omega, by omega⟩, h.ret b1 itOk_range⟩
        · exact h.elim
  · exact h.elim
/-- enumerate(list): pairs -/
def enumD (ds : List D) : List D := (List.range ds.length).zipWith (fun (i : Nat) d => PyData.tuple [.int (i : Nat), d]) ds
theorem enumD_get {ds : List D} {i : Nat} {d : D} (h : (enumD ds)[i]? = some d) : ∃ x, ds[i]? = some x ∧ d = .tuple [.int (i : Nat), x] := by
  unfold enumD at h
  rw [List.getElem?_zipWith] at h
  cases hx : ds[i]? with
  | none =>
    rw [hx] at h
    exfalso
    split at h
    · rename_i e2; cases e2
    · cases h
  | some x =>
    have hi : i < ds.length := (List.getElem?_eq_some_iff.mp hx).1
    rw [hx, List.getElem?_range hi] at h
    exact ⟨x, rfl, (Option.some.inj h).symm⟩
def iE (g : Env → Sto → R (List SV)) : Env → Sto → R ITV := fun ρ st => (g ρ st).bind fun xs st1 => match xs with
  | [.d (.list ds)] => .ok ⟨enumD ds, fun _ => true⟩ st1
  | _ => .bad
theorem si_enum {es : List Expr} {kk : Nat} {tpos : Pos} (hm : X.mg "enumerate" = none) (h : SA X W [a] gs) (hg : Gl X "enumerate" := by rfl) (hs : starEach [a] X.env = [(false, eval a X.env)] := by rfl) : SI X W (.Tuple es kk tpos) (.Call (.Name "enumerate" p) [a] [] pos) (iE gs) := by
  obtain ⟨t, pt, k⟩ := h
  refine ⟨_, pi_enum hg hm pt hs, fun ρ st F bs σ H Q b e h => ?_⟩
  refine k ρ st F bs σ H _ b e (Ok.bind h fun x r1 st1 F1 H1 _ s1 b1 q1 h => ?_)
  split at h
  · cases q1 with
    | @cons v0 _ _ _ q t =>
      cases t
      have q' : Rp X.K F1 v0 (.list _) := q
      cases q' with
      | @lst a vs _ h1 h2 =>
        refine ⟨a, vs, rfl, .inl (same_rd b1.ex h1), h.ret b1 fun i F2 H2 more st3 e2 b2 hc2 => ?_⟩
        have h3 : SqL X.K H2 a vs := .inl (same_rd (e2.trans b2.ex) h1)
        have h4 := h2.mono e2
        refine ⟨fun d hd => ?_, fun hi => ⟨vs, h3, by rw [h4.length]; simpa [enumD] using hi⟩⟩
        obtain ⟨x, hx, rfl⟩ := enumD_get hd
        obtain ⟨v, hv, rv⟩ := h4.getD hx
        refine ⟨⟨vs, v, h3, hv⟩, fun y H3 z => ?_⟩
        obtain ⟨T, x', rfl, hT, rfl, hy⟩ := z
        have := hy vs h3
        rw [hv] at this
        cases this
        have g := gro_new (o := .tup [.int (i : Nat), v]) b2.ex hT
        exact ⟨_, g, .tup (SqT.of upd_same) (.cons (.int _) (.cons (rv.mono g.ex) .nil))⟩
  · exact h.elim
end

/-! ### a comprehension -/
def R.noEx {α : Type} : R α → R α
  | .ok a st => .ok a st
  | _ => .bad
def lcLoop (chk : Sto → Bool) (g : dG) (ρ : Env) (c : Env → Sto → R Bool) (e : dE) : List D → List D → Sto → R D
  | [], acc, st => if chk st = true then .ok (.list acc) st else .bad
  | d :: ds, acc, st => if chk st = true then (match g d ρ with
    | none => .bad
    | some ρ1 => (c ρ1 st).noEx.bind fun b st1 => if b = true then (e ρ1 st1).noEx.bind fun y st2 => match y with
        | .d p => if acc.length < lim then lcLoop chk g ρ c e ds (acc ++ [p]) st2 else .bad
        | .box _ => .bad
      else lcLoop chk g ρ c e ds acc st1) else .bad
def dLC (it : Env → Sto → R ITV) (vs : List Nat) (g : dG) (c : Env → Sto → R Bool) (e : dE) : Env → Sto → R D := fun ρ st => (it ρ st).bind fun I st1 => lcLoop I.chk g (wipeE ρ vs) c e I.items [] st1
def dYes : Env → Sto → R Bool := fun _ st => .ok true st
def W0 : WX := fun _ _ _ _ => False
theorem takes0 {X : Cx} : L2N.Takes X W0 := fun u s' ⟨_, _, _, _, _, _, _, _, _, _, _, _, _, _, _, _, w⟩ => w.elim
def SC (X : Cx) (W : WX) (ifs : List Expr) (f : Env → Sto → R Bool) : Prop := ∃ t, PTs X ifs t ∧ ∀ ρ st F bs σ H Q, RepB X.K F bs st H → EnvR X.K F bs ρ σ → Ok X.K W σ F H bs relB Q (f ρ st) → t σ H Q
theorem sc_nil {X : Cx} {W : WX} : SC X W [] dYes := ⟨_, pts_nil, fun ρ st F bs σ H Q b e h => h.ret b rfl⟩
theorem sc_one {X : Cx} {W : WX} {c : Expr} {f : Env → Sto → R Bool} (h : ST X W c f) : SC X W [c] f := by
  obtain ⟨t, p, k⟩ := h
  exact ⟨t, pts_one p, k⟩
theorem SC.can {X : Cx} {W : WX} {e : List Expr} {f : Env → Sto → R Bool} (h : SC X W e f) : PTs X e (canT X.K W f) := by
  obtain ⟨t, p, k⟩ := h
  exact ⟨fun pins s σ H Q I ⟨ρ, st, F, bs, b, en, o⟩ => p.run pins s σ H Q I (k ρ st F bs σ H Q b en o)⟩
theorem Ok.noEx {α β : Type} {K : PySem.W.Frag} {W : WX} {σ : L2.St} {F H : Hp} {bs : List Addr} {rel : Hp → Hp → β → α → Prop} {Q : β → Hp → Prop} {x : R α} (h : Ok K W σ F H bs rel Q x.noEx) {σ' : L2.St} : Ok K W0 σ' F H bs rel Q x := by
  cases x with
  | ok a st => exact h
  | ex c x st => exact (show False from h).elim
  | bad => exact h
theorem noEx_bind {α β : Type} {x : R α} {f : α → Sto → R β} {a : α} {st : Sto} (h : x = .ok a st) : x.noEx.bind f = f a st := by rw [h]; rfl
/-- .. from a bind behind noEx -/
theorem Ok.bindN {α β γ δ : Type} {K : PySem.W.Frag} {W : WX} {σ σ' : L2.St} {F H F0 H0 : Hp} {bs : List Addr} {rel1 : Hp → Hp → δ → γ → Prop} {rel : Hp → Hp → β → α → Prop} {Q1 : δ → Hp → Prop} {Q : β → Hp → Prop} {x : R γ} {f : γ → Sto → R α} (h : Ok K W σ F0 H0 bs rel Q (x.noEx.bind f))
    (k : ∀ v r st1 F1 H1, x = .ok r st1 → Stp F H bs F1 H1 → RepB K F1 bs st1 H1 → rel1 F1 H1 v r → Ok K W σ F0 H0 bs rel Q (f r st1) → Q1 v H1) : Ok K W0 σ' F H bs rel1 Q1 x := by
  cases x with
  | ok r st' => exact fun v F' H' s b q => k v r st' F' H' rfl s b q h
  | ex c x st' => exact (show False from h).elim
  | bad => exact h

theorem upd_box {K : PySem.W.Frag} {F H : Hp} {bs : List Addr} {st : Sto} {D : Addr} {o : HO} (b : RepB K F bs st H) (hF : F D = none) (hb : D ∉ bs) : RepB K F bs st (upd H D o) where
  ex := fun a u q => by
    rw [upd_ne (fun e => by rw [e, hF] at q; cases q)]
    exact b.ex a u q
  len := b.len
  nd := b.nd
  at_ := fun i a p h1 h2 => by
    have hx := b.at_ i a p h1 h2
    have hc : a ≠ D := fun z => hb (z ▸ List.mem_of_getElem? h1)
    cases p with
    | list ds => exact ⟨hx.1, Top.mono hx.2 (Same.refl _) fun o e => by rw [upd_ne hc]; exact e⟩
    | dict kvs => exact ⟨hx.1, Top.mono hx.2 (Same.refl _) fun o e => by rw [upd_ne hc]; exact e⟩
    | _ =>
      show upd H D o a ≠ none
      rw [upd_ne hc]
      exact hx
theorem stp_out {F H F' H' : Hp} {bs : List Addr} {D : Addr} {o : HO} (s : Stp F H bs F' H') (hD : H D = none) : Stp F H bs F' (upd H' D o) where
  ex := s.ex
  nw := s.nw
  keep := fun a u h n => by
    rw [upd_ne (fun e => by rw [e, hD] at h; cases h)]
    exact s.keep a u h n
  there := fun a h => by
    by_cases z : a = D
    · rw [z, upd_same]; exact some_ne
    · rw [upd_ne z]; exact s.there a h
/-- what stands through a comprehension -/
structure LcInv (K : PySem.W.Frag) (F1 H1 : Hp) (bs : List Addr) (D : Addr) (Fc Hc : Hp) (st : Sto) (acc : List V) (ds : List CB.D) : Prop where
  stp : Stp F1 H1 bs Fc Hc
  rep : RepB K Fc bs st Hc
  at_ : Hc D = some (.lst acc)
  fr : Fc D = none
  rp : RpL K Fc acc ds
theorem LcInv.step {K : PySem.W.Frag} {F1 H1 : Hp} {bs : List Addr} {D : Addr} {Fc Hc F2 H2 : Hp} {st st2 : Sto} {acc : List V} {ds : List CB.D} (I : LcInv K F1 H1 bs D Fc Hc st acc ds) (hn : D ∉ bs) (s : Stp Fc Hc bs F2 H2) (r : RepB K F2 bs st2 H2) : LcInv K F1 H1 bs D F2 H2 st2 acc ds where
  stp := I.stp.trans s
  rep := r
  at_ := s.keep _ _ I.at_ hn
  fr := by
    cases z : F2 D with
    | none => rfl
    | some o =>
      rcases s.nw D (by rw [z]; exact some_ne) with y | y
      · exact absurd I.fr y
      · rw [I.at_] at y; cases y
  rp := I.rp.mono s.ex
theorem LcInv.add {K : PySem.W.Frag} {F1 H1 : Hp} {bs : List Addr} {D : Addr} {Fc Hc : Hp} {st : Sto} {acc : List V} {ds : List CB.D} {y : V} {p : CB.D} (I : LcInv K F1 H1 bs D Fc Hc st acc ds) (hn : D ∉ bs) (hD : H1 D = none) (r : Rp K Fc y p) : LcInv K F1 H1 bs D Fc (upd Hc D (.lst (acc ++ [y]))) st (acc ++ [y]) (ds ++ [p]) where
  stp := stp_out I.stp hD
  rep := upd_box I.rep I.fr hn
  at_ := upd_same
  fr := I.fr
  rp := I.rp.append (.cons r .nil)
theorem Cfg.blk {X : Cx} {W : WX} {k : Nat} (C : Cfg X W k) {s : Shared} {H : Hp} {scope : Scope} {ce : PySem.Env} {fp : List Addr} : Cfg (X.blk s H scope ce fp) W0 k := ⟨C.hr, takes0, C.calm, C.nd, PassesOwn.never⟩
section
variable {X : Cx} {W : WX}
theorem lc_sem {k : Nat} {elt tg iter : Expr} {ifs : List Expr} {scope : Scope} {pos : Pos} {fi : Env → Sto → R ITV} {g : dG} {sl : List Nat} {fc : Env → Sto → R Bool} {fe : dE} (own : List (Str × Nat)) (C : Cfg X W k) (hi : SI X W tg iter fi) (ok : blkC X.N X.env.scope scope own = true)
    (hg : ∀ (s : Shared) (H : Hp) (D : Addr) (cl : List (Str × Addr)) (fp : List Addr), SG (X.blk s H scope (compEnvC scope cl D X.env) fp) tg g sl) (hsl : ∀ j, j ∈ sl → j ∈ own.map (·.2))
    (ht : ∀ (s : Shared) (H : Hp) (D : Addr) (cl : List (Str × Addr)) (fp : List Addr), SC (X.blk s H scope (compEnvC scope cl D X.env) fp) W0 ifs fc)
    (he : ∀ (s : Shared) (H : Hp) (D : Addr) (cl : List (Str × Addr)) (fp : List Addr), SE (X.blk s H scope (compEnvC scope cl D X.env) fp) W0 elt fe) :
    ∃ wi, PI X tg iter wi ∧ ∀ ρ st F bs σ H Q, RepB X.K F bs st H → EnvR X.K F bs ρ σ → Ok X.K W σ F H bs (relF X.K H) Q (dLC fi (own.map (·.2)) g fc fe ρ st) → tLc wi (canG X.K g sl) (canT X.K W0 fc) (canE X.K W0 fe) (own.map (·.2)) σ H Q := by
  obtain ⟨wi, pi, ki⟩ := hi
  refine ⟨wi, pi, fun ρ st F bs σ H Q b e h => ?_⟩
  refine ki ρ st F bs σ H _ b e (Ok.bind h fun J I st1 F1 H1 _ s1 b1 q1 h => ?_)
  intro D hD
  have hb : D ∉ bs := fun z => b1.there z hD
  have hD0 : H D = none := by
    cases z : H D with
    | none => rfl
    | some o => exact absurd hD (s1.there D (by rw [z]; exact some_ne))
  have en1 : EnvR X.K F1 bs ρ σ := e.mono s1.ex
  refine ⟨fun i m Hc => m = I.items.length - i ∧ i ≤ I.items.length ∧ ∃ Fc stc acc ds, LcInv X.K F1 H1 bs D Fc Hc stc acc ds ∧ Ok X.K W σ F1 H1 bs (relF X.K H) Q (lcLoop I.chk g (wipeE ρ (own.map (·.2))) fc fe (I.items.drop i) ds stc), ⟨I.items.length, by simp, Nat.zero_le _, F1, st1, [], [], ⟨?_, upd_box b1 (same_none b1.ex hD) hb, upd_same, same_none b1.ex hD, .nil⟩, by simpa using h⟩, ?_⟩
  · exact stp_out (Stp.refl _ _ _) hD
  rintro i m Hc ⟨rfl, hi, Fc, stc, acc, ds, L, ok1⟩
  have hchk : I.chk stc = true := by
    cases hc : I.chk stc with
    | true => rfl
    | false =>
      cases hd : I.items.drop i with
      | nil => rw [hd] at ok1; unfold lcLoop at ok1; rw [hc] at ok1; exact (show False from ok1).elim
      | cons d r => rw [hd] at ok1; unfold lcLoop at ok1; rw [hc] at ok1; exact (show False from ok1).elim
  have hit := q1 i Fc Hc [] stc L.stp.ex (by rw [List.append_nil]; exact L.rep) hchk
  by_cases hlt : i < I.items.length
  · have hd : I.items.drop i = I.items[i] :: I.items.drop (i + 1) := List.drop_eq_getElem_cons hlt
    rw [hd] at ok1
    unfold lcLoop at ok1
    rw [if_pos hchk] at ok1
    have hgi : I.items[i]? = some I.items[i] := List.getElem?_eq_getElem hlt
    obtain ⟨go, yl⟩ := hit.1 _ hgi
    refine .inr ⟨go, fun H' => ∃ Fc stc acc ds, LcInv X.K F1 H1 bs D Fc H' stc acc ds ∧ Ok X.K W σ F1 H1 bs (relF X.K H) Q (lcLoop I.chk g (wipeE ρ (own.map (·.2))) fc fe (I.items.drop (i + 1)) ds stc), fun H' nx => ⟨I.items.length - (i + 1), by omega, rfl, hlt, nx⟩, fun x H' y => ?_⟩
    obtain ⟨F2, gr, rx⟩ := yl x H' y
    have L2 : LcInv X.K F1 H1 bs D F2 H' stc acc ds := L.step hb (gr.stp bs) (L.rep.gro gr)
    cases hgd : g I.items[i] (wipeE ρ (own.map (·.2))) with
    | none => rw [hgd] at ok1; exact (show False from ok1).elim
    | some ρ1 =>
      rw [hgd] at ok1
      simp only at ok1
      refine ⟨I.items[i], wipeE ρ (own.map (·.2)), ρ1, F2, bs, L2.rep.ex, rx, (en1.mono L2.stp.ex).wipe _, hgd, fun σ2 o2 en2 => ⟨wipe_only o2 hsl, ?_⟩⟩
      refine ⟨ρ1, stc, F2, bs, L2.rep, en2, Ok.bindN ok1 fun bb br st3 F3 H3 _ s3 b3 q3 ok2 => ?_⟩
      cases (show bb = br from q3)
      have L3 := L2.step hb s3 b3
      cases bb with
      | false =>
        rw [if_neg Bool.false_ne_true] at ok2 ⊢
        exact ⟨F3, st3, acc, ds, L3, ok2⟩
      | true =>
        rw [if_pos rfl] at ok2 ⊢
        refine ⟨ρ1, st3, F3, bs, b3, en2.mono s3.ex, Ok.bindN ok2 fun yv yr st4 F4 H4 _ s4 b4 q4 ok3 => ?_⟩
        have L4 := L3.step hb s4 b4
        cases yr with
        | box j => exact (show False from ok3).elim
        | d p =>
          simp only at ok3
          split at ok3
          · rename_i hl
            refine ⟨acc, L4.at_, ?_, F4, st4, _, _, L4.add hb hD q4, ok3⟩
            rw [L4.rp.length]
            exact Nat.lt_of_lt_of_le hl lim_line
          · exact (show False from ok3).elim
  · have ei : i = I.items.length := by omega
    subst ei
    rw [List.drop_length] at ok1
    unfold lcLoop at ok1
    rw [if_pos hchk] at ok1
    exact .inl ⟨hit.2 (Nat.le_refl _), ok1 (.ref D) Fc Hc L.stp L.rep ⟨D, rfl, hD0, L.fr, ⟨acc, L.at_, L.rp⟩⟩⟩

theorem sf_lc {k : Nat} {elt tg iter : Expr} {ifs : List Expr} {scope : Scope} {pos : Pos} {fi : Env → Sto → R ITV} {g : dG} {sl : List Nat} {fc : Env → Sto → R Bool} {fe : dE} (own : List (Str × Nat)) (C : Cfg X W k) (hi : SI X W tg iter fi) (ok : blkC X.N X.env.scope scope own = true)
    (hg : ∀ (s : Shared) (H : Hp) (D : Addr) (cl : List (Str × Addr)) (fp : List Addr), SG (X.blk s H scope (compEnvC scope cl D X.env) fp) tg g sl) (hsl : ∀ j, j ∈ sl → j ∈ own.map (·.2))
    (ht : ∀ (s : Shared) (H : Hp) (D : Addr) (cl : List (Str × Addr)) (fp : List Addr), SC (X.blk s H scope (compEnvC scope cl D X.env) fp) W0 ifs fc)
    (he : ∀ (s : Shared) (H : Hp) (D : Addr) (cl : List (Str × Addr)) (fp : List Addr), SE (X.blk s H scope (compEnvC scope cl D X.env) fp) W0 elt fe) (hs : ∀ x, foldedSetIterable iter X.env x = pure x := by intro _; rfl) :
    SF X W (.ListComp elt [⟨tg, iter, ifs, 0⟩] scope pos) (dLC fi (own.map (·.2)) g fc fe) := by
  obtain ⟨wi, pi, sem⟩ := lc_sem (pos := pos) own C hi ok hg hsl ht he
  exact ⟨_, pe_lc (g := canG X.K g sl) (tt := canT X.K W0 fc) (te := canE X.K W0 fe) C.calm C.nd pi (blkOk_by ok) (fun s H D cl fp => (hg s H D cl fp).can) (fun s H D cl fp => (ht s H D cl fp).can) (fun s H D cl fp => (he s H D cl fp).can) hs, sem⟩
/-- the statement y = [..] on one line, y a plain local -/
theorem ps_lc {k : Nat} {elt tg iter : Expr} {ifs : List Expr} {scope : Scope} {pos : Pos} {fi : Env → Sto → R ITV} {g : dG} {sl : List Nat} {fc : Env → Sto → R Bool} {fe : dE} {y : Str} {py spos : Pos} (i : Nat) (own : List (Str × Nat)) (C : Cfg X W k) (hi : SI X W tg iter fi) (ok : blkC X.N X.env.scope scope own = true)
    (hg : ∀ (s : Shared) (H : Hp) (D : Addr) (cl : List (Str × Addr)) (fp : List Addr), SG (X.blk s H scope (compEnvC scope cl D X.env) fp) tg g sl) (hsl : ∀ j, j ∈ sl → j ∈ own.map (·.2))
    (ht : ∀ (s : Shared) (H : Hp) (D : Addr) (cl : List (Str × Addr)) (fp : List Addr), SC (X.blk s H scope (compEnvC scope cl D X.env) fp) W0 ifs fc)
    (he : ∀ (s : Shared) (H : Hp) (D : Addr) (cl : List (Str × Addr)) (fp : List Addr), SE (X.blk s H scope (compEnvC scope cl D X.env) fp) W0 elt fe) (hs : ∀ x, foldedSetIterable iter X.env x = pure x := by intro _; rfl)
    (hy : X.N[i]? = some y) (hyl : X.env.scope.names.lookup y = some .local) (hsw : swapsWith (.ListComp elt [⟨tg, iter, ifs, 0⟩] scope pos) (some (.Name y py)) spos.line X.env = pure true) :
    ∃ t, PS X (.Assign [.Name y py] (.ListComp elt [⟨tg, iter, ifs, 0⟩] scope pos) spos) (tAsg t (gName i)) ∧ ∀ ρ st F bs σ H Q, RepB X.K F bs st H → EnvR X.K F bs ρ σ → Ok X.K W σ F H bs (relF X.K H) Q (dLC fi (own.map (·.2)) g fc fe ρ st) → t σ H Q := by
  obtain ⟨wi, pi, sem⟩ := lc_sem (pos := pos) own C hi ok hg hsl ht he
  exact ⟨_, ps_setLc (g := canG X.K g sl) (tt := canT X.K W0 fc) (te := canE X.K W0 fe) C.calm C.nd hy hyl hsw pi (blkOk_by ok) (fun s H D cl fp => (hg s H D cl fp).can) (fun s H D cl fp => (ht s H D cl fp).can) (fun s H D cl fp => (he s H D cl fp).can) hs, sem⟩
end
end CB
end
section
set_option Elab.async false
set_option linter.all false
set_option autoImplicit false
set_option maxRecDepth 100000
set_option maxHeartbeats 4000000
/-! statements -/
namespace CB
open PySem PySem.Spec PyProof.Rows L2
inductive O where
  | nx (ρ : Env) (st : Sto)
  | rt (r : SV) (st : Sto)
  | bk (ρ : Env) (st : Sto)
  | ct (ρ : Env) (st : Sto)
  | ex (c : Str) (x : D) (ρ : Env) (st : Sto)
  | bad
def R.bO {α : Type} (x : R α) (ρ : Env) (f : α → Sto → O) : O := match x with
  | .ok a st => f a st
  | .ex c x st => .ex c x ρ st
  | .bad => .bad
@[simp] theorem R.bO_ok {α : Type} (a : α) (st : Sto) (ρ : Env) (f : α → Sto → O) : (R.ok a st).bO ρ f = f a st := rfl
@[simp] theorem R.bO_ex {α : Type} (c : Str) (x : D) (st : Sto) (ρ : Env) (f : α → Sto → O) : (R.ex c x st : R α).bO ρ f = .ex c x ρ st := rfl
@[simp] theorem R.bO_bad {α : Type} (ρ : Env) (f : α → Sto → O) : (R.bad : R α).bO ρ f = .bad := rfl
abbrev dS := Env → Sto → O
structure StS (F H : Hp) (bs : List Addr) (F' H' : Hp) (bs' : List Addr) : Prop where
  s : Stp F H bs F' H'
  g : ∃ more, bs' = bs ++ more ∧ ∀ a, a ∈ more → H a = none
theorem StS.refl (F H : Hp) (bs : List Addr) : StS F H bs F H bs := ⟨Stp.refl _ _ _, [], by simp, fun _ h => by cases h⟩
theorem StS.of {F H F' H' : Hp} {bs : List Addr} (s : Stp F H bs F' H') : StS F H bs F' H' bs := ⟨s, [], by simp, fun _ h => by cases h⟩
theorem Stp.back {F H F' H' : Hp} {bs : List Addr} {a : Addr} (s : Stp F H bs F' H') (h : H' a = none) : H a = none := by
  cases q : H a with
  | none => rfl
  | some o => exact absurd h (s.there a (by rw [q]; exact some_ne))
theorem StS.trans {F H F1 H1 F2 H2 : Hp} {bs bs1 bs2 : List Addr} (a : StS F H bs F1 H1 bs1) (b : StS F1 H1 bs1 F2 H2 bs2) : StS F H bs F2 H2 bs2 := by
  obtain ⟨m, rfl, hm⟩ := a.g
  obtain ⟨n, rfl, hn⟩ := b.g
  refine ⟨⟨a.s.ex.trans b.s.ex, fun x h => ?_, fun x o h z => ?_, fun x h => b.s.there x (a.s.there x h)⟩, m ++ n, by rw [List.append_assoc], fun x hx => ?_⟩
  · rcases b.s.nw x h with y | y
    · exact a.s.nw x y
    · exact .inr (a.s.back y)
  · refine b.s.keep x o (a.s.keep x o h z) fun hx => ?_
    rcases List.mem_append.mp hx with y | y
    · exact z y
    · rw [hm x y] at h; cases h
  · rcases List.mem_append.mp hx with y | y
    · exact hm x y
    · exact a.s.back (hn x y)
theorem EnvR.grw {K : PySem.W.Frag} {F H F' H' : Hp} {bs bs' : List Addr} {ρ : Env} {σ : L2.St} (h : EnvR K F bs ρ σ) (s : StS F H bs F' H' bs') : EnvR K F' bs' ρ σ := by
  obtain ⟨m, rfl, _⟩ := s.g
  exact (h.mono s.s.ex).grow
theorem SRp.grw {K : PySem.W.Frag} {F H F' H' : Hp} {bs bs' : List Addr} {v : V} {r : SV} (h : SRp K F bs v r) (s : StS F H bs F' H' bs') : SRp K F' bs' v r := by
  obtain ⟨m, rfl, _⟩ := s.g
  exact (h.mono s.s.ex).grow
def OkS (K : PySem.W.Frag) (W : WX) (F H : Hp) (bs : List Addr) (D : Ends) : O → Prop
  | .nx ρ st => ∀ σ' F' H' bs', StS F H bs F' H' bs' → RepB K F' bs' st H' → EnvR K F' bs' ρ σ' → D.nx σ' H'
  | .bk ρ st => ∀ σ' F' H' bs', StS F H bs F' H' bs' → RepB K F' bs' st H' → EnvR K F' bs' ρ σ' → D.bk σ' H'
  | .ct ρ st => ∀ σ' F' H' bs', StS F H bs F' H' bs' → RepB K F' bs' st H' → EnvR K F' bs' ρ σ' → D.ct σ' H'
  | .rt r st => ∀ v F' H' bs', StS F H bs F' H' bs' → RepB K F' bs' st H' → SRp K F' bs' v r → D.rt v H'
  | .ex c x ρ st => ∀ σ' F' H' bs' cls dx, StS F H bs F' H' bs' → RepB K F' bs' st H' → EnvR K F' bs' ρ σ' → XRp K H' c x cls dx → W cls dx σ' H'
  | .bad => False
section
variable {K : PySem.W.Frag} {W : WX} {F H F1 H1 : Hp} {bs bs1 : List Addr} {D : Ends}
theorem OkS.step {o : O} (s : StS F H bs F1 H1 bs1) (h : OkS K W F H bs D o) : OkS K W F1 H1 bs1 D o := by
  cases o with
  | nx ρ st => exact fun σ' F' H' bs' s' b e => h σ' F' H' bs' (s.trans s') b e
  | bk ρ st => exact fun σ' F' H' bs' s' b e => h σ' F' H' bs' (s.trans s') b e
  | ct ρ st => exact fun σ' F' H' bs' s' b e => h σ' F' H' bs' (s.trans s') b e
  | rt r st => exact fun v F' H' bs' s' b e => h v F' H' bs' (s.trans s') b e
  | ex c x ρ st => exact fun σ' F' H' bs' cls dx s' b e r => h σ' F' H' bs' cls dx (s.trans s') b e r
  | bad => exact h
theorem OkS.bO {α δ : Type} {rel : Hp → Hp → δ → α → Prop} {Q : δ → Hp → Prop} {ρ : Env} {σ : L2.St} {x : R α} {f : α → Sto → O} (e : EnvR K F bs ρ σ) (h : OkS K W F H bs D (x.bO ρ f))
    (k : ∀ v r st1 F1 H1, Stp F H bs F1 H1 → RepB K F1 bs st1 H1 → rel F1 H1 v r → EnvR K F1 bs ρ σ → OkS K W F1 H1 bs D (f r st1) → Q v H1) : Ok K W σ F H bs rel Q x := by
  cases x with
  | ok r st' => exact fun v F' H' s b q => k v r st' F' H' s b q (e.mono s.ex) (OkS.step (.of s) h)
  | ex c x st' => exact fun F' H' cls dx s b r => h σ F' H' bs cls dx (.of s) b (e.mono s.ex) r
  | bad => exact h
theorem OkS.nx {ρ : Env} {st : Sto} {σ : L2.St} (h : OkS K W F H bs D (.nx ρ st)) (b : RepB K F bs st H) (e : EnvR K F bs ρ σ) : D.nx σ H := h σ F H bs (.refl _ _ _) b e
end
def SS (X : Cx) (W : WX) (s : Stmt) (f : dS) : Prop := ∃ t, PS X s t ∧ ∀ ρ st F bs σ H D, RepB X.K F bs st H → EnvR X.K F bs ρ σ → OkS X.K W F H bs D (f ρ st) → t D σ H
def SSs (X : Cx) (W : WX) (s : List Stmt) (f : dS) : Prop := ∃ t, PSs X s t ∧ ∀ ρ st F bs σ H D, RepB X.K F bs st H → EnvR X.K F bs ρ σ → OkS X.K W F H bs D (f ρ st) → t D σ H
def dSkip : dS := fun ρ st => .nx ρ st
def dSeq (f g : dS) : dS := fun ρ st => match f ρ st with
  | .nx ρ1 st1 => g ρ1 st1
  | o => o
section
variable {X : Cx} {W : WX} {s : Stmt} {ss : List Stmt} {f g : dS} {pos : Pos} {a b c e : Expr} {fa fb : dE} {fc : Env → Sto → R Bool}
theorem ss_nil : SSs X W [] dSkip := ⟨_, pss_nil, fun ρ st F bs σ H D b e h => h.nx b e⟩
theorem ss_cons (h1 : SS X W s f) (h2 : SSs X W ss g) : SSs X W (s :: ss) (dSeq f g) := by
  obtain ⟨t, p, k⟩ := h1
  obtain ⟨u, q, l⟩ := h2
  refine ⟨_, pss_cons p q, fun ρ st F bs σ H D b e h => ?_⟩
  refine k ρ st F bs σ H _ b e ?_
  unfold dSeq at h
  cases ho : f ρ st with
  | nx ρ1 st1 =>
    rw [ho] at h
    exact fun σ' F' H' bs' s' b' e' => l ρ1 st1 F' bs' σ' H' D b' e' (OkS.step s' h)
  | bk ρ1 st1 => rw [ho] at h; exact h
  | ct ρ1 st1 => rw [ho] at h; exact h
  | rt r st1 => rw [ho] at h; exact h
  | ex c x ρ1 st1 => rw [ho] at h; exact h
  | bad => rw [ho] at h; exact h
theorem ss_one (h1 : SS X W s f) : SSs X W [s] f := by
  obtain ⟨t, p, k⟩ := h1
  exact ⟨_, pss_one p, fun ρ st F bs σ H D b e h => k ρ st F bs σ H D b e h⟩
def dPass : dS := fun ρ st => .nx ρ st
def dBrk : dS := fun ρ st => .bk ρ st
def dCnt : dS := fun ρ st => .ct ρ st
theorem ss_pass : SS X W (.Pass pos) dPass := ⟨_, ps_pass, fun ρ st F bs σ H D b e h => h.nx b e⟩
theorem ss_break : SS X W (.Break pos) dBrk := ⟨_, ps_break, fun ρ st F bs σ H D b e h => h σ F H bs (.refl _ _ _) b e⟩
theorem ss_cont : SS X W (.Continue pos) dCnt := ⟨_, ps_continue, fun ρ st F bs σ H D b e h => h σ F H bs (.refl _ _ _) b e⟩
def dRet (f : dE) : dS := fun ρ st => (f ρ st).bO ρ fun r st1 => .rt r st1
theorem ss_ret (h : SE X W a fa) : SS X W (.Return (some a) pos) (dRet fa) := by
  obtain ⟨t, p, k⟩ := h
  refine ⟨_, ps_ret p, fun ρ st F bs σ H D b e h => ?_⟩
  exact k ρ st F bs σ H _ b e (OkS.bO e h fun v r st1 F1 H1 s1 b1 q1 e1 h1 => h1 v F1 H1 bs (.refl _ _ _) b1 q1)
theorem ss_retN : SS X W (.Return none pos) (dRet (dC .none)) := ⟨_, ps_retN, fun ρ st F bs σ H D b e h => h .non F H bs (.refl _ _ _) b Rp.non⟩
def dExp (f : dE) : dS := fun ρ st => (f ρ st).bO ρ fun _ st1 => .nx ρ st1
theorem ss_expr (h : SE X W a fa) (hs : swapsWith a none pos.line X.env = pure false := by rfl) : SS X W (.Expr a pos) (dExp fa) := by
  obtain ⟨t, p, k⟩ := h
  refine ⟨_, ps_expr p hs, fun ρ st F bs σ H D b e h => ?_⟩
  exact k ρ st F bs σ H _ b e (OkS.bO e h fun v r st1 F1 H1 s1 b1 q1 e1 h1 => h1.nx b1 e1)
def dIfS (c : Env → Sto → R Bool) (f g : dS) : dS := fun ρ st => (c ρ st).bO ρ fun b st1 => if b = true then f ρ st1 else g ρ st1
theorem ss_if {p q : List Stmt} (hc : ST X W c fc) (ha : SSs X W p f) (hb : SSs X W q g) : SS X W (.If c p q pos) (dIfS fc f g) := by
  obtain ⟨t, pc, k⟩ := hc
  obtain ⟨ta, pa, ka⟩ := ha
  obtain ⟨tb, pb, kb⟩ := hb
  refine ⟨_, ps_if pc pa pb, fun ρ st F bs σ H D b e h => ?_⟩
  refine k ρ st F bs σ H _ b e (OkS.bO e h fun v r st1 F1 H1 s1 b1 q1 e1 h1 => ?_)
  cases (show v = r from q1)
  cases v with
  | true => rw [if_pos rfl] at h1 ⊢; exact ka ρ st1 F1 bs σ H1 D b1 e1 h1
  | false => rw [if_neg Bool.false_ne_true] at h1 ⊢; exact kb ρ st1 F1 bs σ H1 D b1 e1 h1

/-! ### name = .. -/
def dAsg (i : Nat) (f : dE) : dS := fun ρ st => (f ρ st).bO ρ fun r st1 => .nx (ρ.set i (some r)) st1
theorem ss_asg (i : Nat) {x : Str} {pos' : Pos} (hN : X.N.Nodup) (h : SE X W a fa) (hi : X.N[i]? = some x := by rfl) (hx : Loc X.env.scope x := by first | exact Or.inl rfl | exact Or.inr rfl) (hs : swapsWith a (some (.Name x pos')) pos.line X.env = pure false := by rfl)
    (hf : X.fn x = true ∨ X.env.scope.names.lookup x = some .local := by first | exact .inl rfl | exact .inr rfl) : SS X W (.Assign [.Name x pos'] a pos) (dAsg i fa) := by
  obtain ⟨t, p, k⟩ := h
  refine ⟨_, ps_set hN hi hx p hs hf, fun ρ st F bs σ H D b e h => ?_⟩
  exact k ρ st F bs σ H _ b e (OkS.bO e h fun v r st1 F1 H1 s1 b1 q1 e1 h1 => h1.nx b1 (e1.set i q1))
/-- a new box -/
theorem box_new {K : PySem.W.Frag} {F H F1 H1 : Hp} {bs : List Addr} {st1 : Sto} {ad : Addr} {p : CB.D} (s1 : Stp F H bs F1 H1) (b1 : RepB K F1 bs st1 H1) (hin : ∀ x, x ∈ bs → H x ≠ none) (hn : H ad = none) (hf : F1 ad = none) (ht : Top K F1 H1 ad p) :
    StS F H bs F1 H1 (bs ++ [ad]) ∧ RepB K F1 (bs ++ [ad]) (st1 ++ [p]) H1 ∧ SRp K F1 (bs ++ [ad]) (.ref ad) (.box st1.length) := by
  have hni : ad ∉ bs := fun z => hin ad z hn
  have hbx : Bx K F1 H1 ad p := by
    cases p with
    | list ds => exact ⟨hf, ht⟩
    | dict kvs => exact ⟨hf, ht⟩
    | _ => exact ht.elim
  have hat : (bs ++ [ad])[st1.length]? = some ad := by rw [← b1.len]; simp
  refine ⟨⟨s1, [ad], rfl, fun x hx => by rw [List.mem_singleton.mp hx]; exact hn⟩, ⟨b1.ex, by simp [b1.len], ?_, fun i x q h1 h2 => ?_⟩, ⟨ad, rfl, hat⟩⟩
  · rw [List.nodup_append]
    exact ⟨b1.nd, by simp, fun x hx y hy e => hni (by rw [List.mem_singleton.mp hy] at e; rw [← e]; exact hx)⟩
  · by_cases hi : i < bs.length
    · rw [List.getElem?_append_left hi] at h1
      rw [List.getElem?_append_left (by rw [← b1.len]; exact hi)] at h2
      exact b1.at_ i x q h1 h2
    · have hl : i < (bs ++ [ad]).length := (List.getElem?_eq_some_iff.mp h1).1
      have ei : i = bs.length := by simp at hl; omega
      subst ei
      have e1 : x = ad := by simpa using h1.symm
      have e2 : q = p := by rw [b1.len] at h2; simpa using h2.symm
      rw [e1, e2]
      exact hbx
def dBox (i : Nat) (f : Env → Sto → R D) : dS := fun ρ st => (f ρ st).bO ρ fun p st1 => .nx (ρ.set i (some (.box st1.length))) (st1 ++ [p])
theorem ss_box (i : Nat) {x : Str} {pos' : Pos} {fa : Env → Sto → R CB.D} (hN : X.N.Nodup) (h : SF X W a fa) (hi : X.N[i]? = some x := by rfl) (hx : Loc X.env.scope x := by first | exact Or.inl rfl | exact Or.inr rfl) (hs : swapsWith a (some (.Name x pos')) pos.line X.env = pure false := by rfl)
    (hf : X.fn x = true ∨ X.env.scope.names.lookup x = some .local := by first | exact .inl rfl | exact .inr rfl) : SS X W (.Assign [.Name x pos'] a pos) (dBox i fa) := by
  obtain ⟨t, p, k⟩ := h
  refine ⟨_, ps_set hN hi hx p hs hf, fun ρ st F bs σ H D b e h => ?_⟩
  refine k ρ st F bs σ H _ b e ?_
  unfold dBox at h
  cases hr : fa ρ st with
  | bad => rw [hr] at h; exact h.elim
  | ex c x st1 => rw [hr] at h; exact fun F' H' cls dx s b r => h σ F' H' bs cls dx (.of s) b (e.mono s.ex) r
  | ok q st1 =>
    rw [hr] at h
    intro v F1 H1 s1 b1 q1
    obtain ⟨ad, rfl, hn, hf, ht⟩ := q1
    obtain ⟨g1, g2, g3⟩ := box_new s1 b1 (fun x hx => b.there hx) hn hf ht
    exact h _ F1 H1 _ g1 g2 ((e.grw g1).set i g3)
/-- y = [..] on one line: data, a box -/
theorem ss_lcD {k : Nat} {elt tg iter : Expr} {ifs : List Expr} {scope : Scope} {fi : Env → Sto → R ITV} {g : dG} {sl : List Nat} {fc : Env → Sto → R Bool} {fe : dE} {y : Str} {py spos : Pos} (i : Nat) (own : List (Str × Nat)) (C : Cfg X W k) (hi : SI X W tg iter fi) (ok : blkC X.N X.env.scope scope own = true)
    (hg : ∀ (s : Shared) (H : Hp) (D : Addr) (cl : List (Str × Addr)) (fp : List Addr), SG (X.blk s H scope (compEnvC scope cl D X.env) fp) tg g sl) (hsl : ∀ j, j ∈ sl → j ∈ own.map (·.2))
    (ht : ∀ (s : Shared) (H : Hp) (D : Addr) (cl : List (Str × Addr)) (fp : List Addr), SC (X.blk s H scope (compEnvC scope cl D X.env) fp) W0 ifs fc)
    (he : ∀ (s : Shared) (H : Hp) (D : Addr) (cl : List (Str × Addr)) (fp : List Addr), SE (X.blk s H scope (compEnvC scope cl D X.env) fp) W0 elt fe) (hs : ∀ x, foldedSetIterable iter X.env x = pure x := by intro _; rfl)
    (hy : X.N[i]? = some y := by rfl) (hyl : X.env.scope.names.lookup y = some .local := by rfl) (hsw : swapsWith (.ListComp elt [⟨tg, iter, ifs, 0⟩] scope pos) (some (.Name y py)) spos.line X.env = pure true := by rfl) :
    SS X W (.Assign [.Name y py] (.ListComp elt [⟨tg, iter, ifs, 0⟩] scope pos) spos) (dAsg i (dNew (dLC fi (own.map (·.2)) g fc fe))) := by
  obtain ⟨t, p, sem⟩ := ps_lc i own C hi ok hg hsl ht he hs hy hyl hsw
  refine ⟨_, p, fun ρ st F bs σ H D b e h => sem ρ st F bs σ H _ b e ?_⟩
  unfold dAsg dNew at h
  cases hr : dLC fi (own.map (·.2)) g fc fe ρ st with
  | bad => rw [hr] at h; exact h.elim
  | ex c x st1 => rw [hr] at h; exact fun F' H' cls dx s b r => h σ F' H' bs cls dx (.of s) b (e.mono s.ex) r
  | ok q st1 =>
    rw [hr] at h
    intro v F1 H1 s1 b1 q1
    obtain ⟨ad, rfl, hn, hf, ht⟩ := q1
    obtain ⟨F2, g, b2, r⟩ := freeze b b1 s1 hn hf ht
    exact h _ F2 H1 bs (.of g) b2 ((e.mono g.ex).set i (r := .d q) r)
theorem ss_lcB {k : Nat} {elt tg iter : Expr} {ifs : List Expr} {scope : Scope} {fi : Env → Sto → R ITV} {g : dG} {sl : List Nat} {fc : Env → Sto → R Bool} {fe : dE} {y : Str} {py spos : Pos} (i : Nat) (own : List (Str × Nat)) (C : Cfg X W k) (hi : SI X W tg iter fi) (ok : blkC X.N X.env.scope scope own = true)
    (hg : ∀ (s : Shared) (H : Hp) (D : Addr) (cl : List (Str × Addr)) (fp : List Addr), SG (X.blk s H scope (compEnvC scope cl D X.env) fp) tg g sl) (hsl : ∀ j, j ∈ sl → j ∈ own.map (·.2))
    (ht : ∀ (s : Shared) (H : Hp) (D : Addr) (cl : List (Str × Addr)) (fp : List Addr), SC (X.blk s H scope (compEnvC scope cl D X.env) fp) W0 ifs fc)
    (he : ∀ (s : Shared) (H : Hp) (D : Addr) (cl : List (Str × Addr)) (fp : List Addr), SE (X.blk s H scope (compEnvC scope cl D X.env) fp) W0 elt fe) (hs : ∀ x, foldedSetIterable iter X.env x = pure x := by intro _; rfl)
    (hy : X.N[i]? = some y := by rfl) (hyl : X.env.scope.names.lookup y = some .local := by rfl) (hsw : swapsWith (.ListComp elt [⟨tg, iter, ifs, 0⟩] scope pos) (some (.Name y py)) spos.line X.env = pure true := by rfl) :
    SS X W (.Assign [.Name y py] (.ListComp elt [⟨tg, iter, ifs, 0⟩] scope pos) spos) (dBox i (dLC fi (own.map (·.2)) g fc fe)) := by
  obtain ⟨t, p, sem⟩ := ps_lc i own C hi ok hg hsl ht he hs hy hyl hsw
  refine ⟨_, p, fun ρ st F bs σ H D b e h => sem ρ st F bs σ H _ b e ?_⟩
  unfold dBox at h
  cases hr : dLC fi (own.map (·.2)) g fc fe ρ st with
  | bad => rw [hr] at h; exact h.elim
  | ex c x st1 => rw [hr] at h; exact fun F' H' cls dx s b r => h σ F' H' bs cls dx (.of s) b (e.mono s.ex) r
  | ok q st1 =>
    rw [hr] at h
    intro v F1 H1 s1 b1 q1
    obtain ⟨ad, rfl, hn, hf, ht⟩ := q1
    obtain ⟨g1, g2, g3⟩ := box_new s1 b1 (fun x hx => b.there hx) hn hf ht
    exact h _ F1 H1 _ g1 g2 ((e.grw g1).set i g3)
/-- target = data -/
def dAsgG (g : dG) (f : dE) : dS := fun ρ st => (f ρ st).bO ρ fun r st1 => match r with
  | .d d => (match g d ρ with
    | some ρ1 => .nx ρ1 st1
    | none => .bad)
  | .box _ => .bad
theorem ss_asgG {tg : Expr} {g : dG} {sl : List Nat} (h : SE X W a fa) (hg : SG X tg g sl) (hs : swapsWithSole [tg] a pos.line X.env = pure false := by rfl) (hw : swappedStores [tg] a X.env = pure none := by rfl)
    (h1 : (assignEach [tg] X.env).map (·.2) = [assign tg X.env] := by rfl) : SS X W (.Assign [tg] a pos) (dAsgG g fa) := by
  obtain ⟨t, p, k⟩ := h
  obtain ⟨u, q, l⟩ := hg
  refine ⟨_, ps_asg p q hs hw h1, fun ρ st F bs σ H D b e h => ?_⟩
  refine k ρ st F bs σ H _ b e (OkS.bO e h fun v r st1 F1 H1 s1 b1 q1 e1 h1 => ?_)
  cases r with
  | box i => exact h1.elim
  | d d =>
    cases hgd : g d ρ with
    | none => simp only [hgd] at h1; exact h1.elim
    | some ρ1 =>
      simp only [hgd] at h1
      exact l v d ρ ρ1 F1 bs σ H1 _ b1.ex q1 e1 hgd fun σ' _ e' => h1.nx b1 e'

/-! ### a, b = x, y : each side by side, new boxes among them -/
def SB (X : Cx) (W : WX) (es : List Expr) (f : Env → Sto → R (List SV)) : Prop := ∃ t, PA X es t ∧ ∀ ρ st F bs σ H (Q : List V → Hp → Prop), RepB X.K F bs st H → EnvR X.K F bs ρ σ → (match f ρ st with
  | .ok rs st' => ∀ vs F' H' bs', StS F H bs F' H' bs' → RepB X.K F' bs' st' H' → SRpL X.K F' bs' vs rs → Q vs H'
  | .ex c x st' => ∀ F' H' bs' cls dx, StS F H bs F' H' bs' → RepB X.K F' bs' st' H' → XRp X.K H' c x cls dx → W cls dx σ H'
  | .bad => False) → t σ H Q
theorem sb_nil : SB X W [] aNil := ⟨_, pa_nil, fun ρ st F bs σ H Q b e h => h [] F H bs (.refl _ _ _) b .nil⟩
theorem sb_cons {es : List Expr} {gs : Env → Sto → R (List SV)} (ha : SE X W a fa) (hr : SB X W es gs) (hs : starEach (a :: es) X.env = (false, eval a X.env) :: starEach es X.env := by rfl) : SB X W (a :: es) (aCons fa gs) := by
  obtain ⟨ta, pa, ka⟩ := ha
  obtain ⟨tr, pr, kr⟩ := hr
  refine ⟨_, pa_cons pa pr hs, fun ρ st F bs σ H Q b e h => ?_⟩
  refine ka ρ st F bs σ H _ b e ?_
  unfold aCons at h
  cases h1 : fa ρ st with
  | bad => rw [h1] at h; exact h
  | ex c x st1 => rw [h1] at h; exact fun F' H' cls dx s b r => h F' H' bs cls dx (.of s) b r
  | ok r st1 =>
    rw [h1] at h
    intro v F1 H1 s1 b1 q1
    refine kr ρ st1 F1 bs σ H1 _ b1 (e.mono s1.ex) ?_
    simp only [R.bind_ok] at h
    cases h2 : gs ρ st1 with
    | bad => rw [h2] at h; exact h
    | ex c x st2 => rw [h2] at h; exact fun F' H' bs' cls dx s b r => h F' H' bs' cls dx ((StS.of s1).trans s) b r
    | ok rs st2 =>
      rw [h2] at h
      exact fun vs F2 H2 bs2 s2 b2 q2 => h _ F2 H2 bs2 ((StS.of s1).trans s2) b2 (.cons (q1.grw s2) q2)
/-- .. a new box -/
def aBox (f : Env → Sto → R D) (g : Env → Sto → R (List SV)) : Env → Sto → R (List SV) := fun ρ st => (f ρ st).bind fun p st1 => (g ρ (st1 ++ [p])).bind fun rs st2 => .ok (.box st1.length :: rs) st2
theorem sb_box {es : List Expr} {gs : Env → Sto → R (List SV)} {fa : Env → Sto → R CB.D} (ha : SF X W a fa) (hr : SB X W es gs) (hs : starEach (a :: es) X.env = (false, eval a X.env) :: starEach es X.env := by rfl) : SB X W (a :: es) (aBox fa gs) := by
  obtain ⟨ta, pa, ka⟩ := ha
  obtain ⟨tr, pr, kr⟩ := hr
  refine ⟨_, pa_cons pa pr hs, fun ρ st F bs σ H Q b e h => ?_⟩
  refine ka ρ st F bs σ H _ b e ?_
  unfold aBox at h
  cases h1 : fa ρ st with
  | bad => rw [h1] at h; exact h
  | ex c x st1 => rw [h1] at h; exact fun F' H' cls dx s b r => h F' H' bs cls dx (.of s) b r
  | ok p st1 =>
    rw [h1] at h
    intro v F1 H1 s1 b1 q1
    obtain ⟨ad, rfl, hn, hf, ht⟩ := q1
    obtain ⟨g1, g2, g3⟩ := box_new s1 b1 (fun x hx => b.there hx) hn hf ht
    refine kr ρ (st1 ++ [p]) F1 _ σ H1 _ g2 (e.grw g1) ?_
    simp only [R.bind_ok] at h
    cases h2 : gs ρ (st1 ++ [p]) with
    | bad => rw [h2] at h; exact h
    | ex c x st2 => rw [h2] at h; exact fun F' H' bs' cls dx s b r => h F' H' bs' cls dx (g1.trans s) b r
    | ok rs st2 =>
      rw [h2] at h
      exact fun vs F2 H2 bs2 s2 b2 q2 => h _ F2 H2 bs2 (g1.trans s2) b2 (.cons (g3.grw s2) q2)
def setAll (ρ : Env) : List Nat → List SV → Option Env
  | [], [] => some ρ
  | i :: is, r :: rs => setAll (ρ.set i (some r)) is rs
  | _, _ => none
def dPar (is : List Nat) (g : Env → Sto → R (List SV)) : dS := fun ρ st => (g ρ st).bO ρ fun rs st1 => match setAll ρ is rs with
  | some ρ1 => .nx ρ1 st1
  | none => .bad
theorem ss_par2 (i j : Nat) {x y : Str} {gs : Env → Sto → R (List SV)} {px py pt : Pos} {kt k2 pt2} {k : Nat} (C : Cfg X W k) (h : SB X W [a, b] gs) (hi : X.N[i]? = some x := by rfl) (hj : X.N[j]? = some y := by rfl) (hij : i ≠ j := by decide)
    (hx : X.env.scope.names.lookup x = some .local := by rfl) (hy : X.env.scope.names.lookup y = some .local := by rfl)
    (hw : swappedStores [.Tuple [.Name x px, .Name y py] kt pt] (.Tuple [a, b] k2 pt2) X.env = pure (some [x, y]) := by rfl)
    (hs : swapsWithSole [.Tuple [.Name x px, .Name y py] kt pt] (.Tuple [a, b] k2 pt2) pos.line X.env = pure false := by rfl) :
    SS X W (.Assign [.Tuple [.Name x px, .Name y py] kt pt] (.Tuple [a, b] k2 pt2) pos) (dPar [i, j] gs) := by
  obtain ⟨t, p, kk⟩ := h
  refine ⟨_, ps_par C.calm C.nd hi hj hij hx hy p hw hs, fun ρ st F bs σ H D b e h => ?_⟩
  refine kk ρ st F bs σ H _ b e ?_
  unfold dPar at h
  cases h1 : gs ρ st with
  | bad => rw [h1] at h; exact h
  | ex c x st1 => rw [h1] at h; exact fun F' H' bs' cls dx s b r => h σ F' H' bs' cls dx s b (e.grw s) r
  | ok rs st1 =>
    rw [h1] at h
    intro vs F1 H1 bs1 s1 b1 q1
    simp only [R.bO_ok] at h
    match rs, vs, q1 with
    | [r1, r2], _, .cons v1 (.cons v2 .nil) => exact ⟨_, _, rfl, h _ F1 H1 bs1 s1 b1 (((e.grw s1).set i v1).set j v2)⟩
    | [], _, _ => exact h.elim
    | [_], _, _ => exact h.elim
    | _ :: _ :: _ :: _, _, _ => exact h.elim
theorem ss_par3 (i j l : Nat) {x y z : Str} {gs : Env → Sto → R (List SV)} {px py pz pt : Pos} {kt k2 pt2} {k : Nat} (C : Cfg X W k) (h : SB X W [a, b, c] gs) (hi : X.N[i]? = some x := by rfl) (hj : X.N[j]? = some y := by rfl) (hl : X.N[l]? = some z := by rfl)
    (hij : i ≠ j := by decide) (hil : i ≠ l := by decide) (hjl : j ≠ l := by decide)
    (hx : X.env.scope.names.lookup x = some .local := by rfl) (hy : X.env.scope.names.lookup y = some .local := by rfl) (hz : X.env.scope.names.lookup z = some .local := by rfl)
    (hw : swappedStores [.Tuple [.Name x px, .Name y py, .Name z pz] kt pt] (.Tuple [a, b, c] k2 pt2) X.env = pure (some [x, y, z]) := by rfl)
    (hs : swapsWithSole [.Tuple [.Name x px, .Name y py, .Name z pz] kt pt] (.Tuple [a, b, c] k2 pt2) pos.line X.env = pure false := by rfl) :
    SS X W (.Assign [.Tuple [.Name x px, .Name y py, .Name z pz] kt pt] (.Tuple [a, b, c] k2 pt2) pos) (dPar [i, j, l] gs) := by
  obtain ⟨t, p, kk⟩ := h
  refine ⟨_, ps_par3 C.calm C.nd hi hj hl hij hil hjl hx hy hz p hw hs, fun ρ st F bs σ H D b e h => ?_⟩
  refine kk ρ st F bs σ H _ b e ?_
  unfold dPar at h
  cases h1 : gs ρ st with
  | bad => rw [h1] at h; exact h
  | ex c x st1 => rw [h1] at h; exact fun F' H' bs' cls dx s b r => h σ F' H' bs' cls dx s b (e.grw s) r
  | ok rs st1 =>
    rw [h1] at h
    intro vs F1 H1 bs1 s1 b1 q1
    simp only [R.bO_ok] at h
    match rs, vs, q1 with
    | [r1, r2, r3], _, .cons v1 (.cons v2 (.cons v3 .nil)) => exact ⟨_, _, _, rfl, h _ F1 H1 bs1 s1 b1 ((((e.grw s1).set i v1).set j v2).set l v3)⟩
    | [], _, _ => exact h.elim
    | [_], _, _ => exact h.elim
    | [_, _], _, _ => exact h.elim
    | _ :: _ :: _ :: _ :: _, _, _ => exact h.elim

/-! ### name += e -/
def oAugI : D → D → Option D := oI0 fun i j => i + j
def dAug (i : Nat) (o : D → D → Option D) (f : dE) : dS := fun ρ st => match ρ[i]? with
  | some (some (.d x)) => (f ρ st).bO ρ fun r st1 => (match r with
    | .d y => (match o x y with
      | some z => .nx (ρ.set i (some (.d z))) st1
      | none => .bad)
    | .box _ => .bad)
  | _ => .bad
def IpD (X : Cx) (op : Operator) (o : D → D → Option D) : Prop := ∃ ti, PIp X op ti ∧ ∀ (F H : Hp) (x y : V) (p q z : D) (Q : VK), Same F H → Rp X.K F x p → Rp X.K F y q → o p q = some z → DPost X.K F H z Q → ti x y H Q
theorem ipd_addI : IpD X .Add (oI0 fun i j => i + j) := ⟨_, ip_add, fun F H x y p q z Q e hx hy hz k => by
  unfold oI0 at hz
  split at hz
  · cases hx; cases hy; cases hz
    exact ⟨_, _, rfl, rfl, k.flat e (.int _)⟩
  · cases hz⟩
theorem ipd_subI : IpD X .Sub (oI0 fun i j => i - j) := ⟨_, ip_sub, fun F H x y p q z Q e hx hy hz k => by
  unfold oI0 at hz
  split at hz
  · cases hx; cases hy; cases hz
    exact ⟨_, _, rfl, rfl, k.flat e (.int _)⟩
  · cases hz⟩
def oAddS : D → D → Option D
  | .str x, .str y => if x.length + y.length ≤ lim then some (.str (x ++ y)) else none
  | _, _ => none
theorem ipd_addS : IpD X .Add oAddS := ⟨_, iop_add_str, fun F H x y p q z Q e hx hy hz k => by
  unfold oAddS at hz
  split at hz
  · split at hz
    · rename_i hl
      cases hx; cases hy; cases hz
      exact ⟨_, _, rfl, rfl, Nat.le_trans hl lim_line, k.flat e (.str _)⟩
    · cases hz
  · cases hz⟩
theorem ss_aug (i : Nat) {x : Str} {pos' : Pos} {op : Operator} {o : CB.D → CB.D → Option CB.D} (hN : X.N.Nodup) (ho : IpD X op o) (h : SE X W a fa) (hi : X.N[i]? = some x := by rfl) (hx : Loc X.env.scope x := by first | exact Or.inl rfl | exact Or.inr rfl)
    (hf : X.fn x = true ∨ X.env.scope.names.lookup x = some .local := by first | exact .inl rfl | exact .inr rfl) : SS X W (.AugAssign (.Name x pos') op a pos) (dAug i o fa) := by
  obtain ⟨t, p, k⟩ := h
  obtain ⟨ti, pi, ki⟩ := ho
  refine ⟨_, ps_aug hN hi hx p pi hf, fun ρ st F bs σ H D b e h => ?_⟩
  unfold dAug at h
  split at h
  · rename_i p0 hp
    obtain ⟨v, h1, h2⟩ := e.at_ i _ hp
    refine ⟨v, h1, k ρ st F bs σ H _ b e (OkS.bO e h fun y r st1 F1 H1 s1 b1 q1 e1 h1 => ?_)⟩
    split at h1
    · rename_i q0
      split at h1
      · rename_i z hz
        refine ki F1 H1 v y p0 q0 z _ b1.ex (Rp.mono s1.ex h2) q1 hz fun w F2 H2 g rz => ?_
        exact h1 _ F2 H2 bs (.of (g.stp bs)) (b1.gro g) ((e1.mono g.ex).set i (r := .d z) rz)
      · exact h1.elim
    · exact h1.elim
  · exact h.elim

/-! ### raise X('..') -/
def dRaise (c : Str) : dS := fun ρ st => .ex c .none ρ st
theorem ss_raise {c : Str} {k : Nat} (C : Cfg X W k) (he : L2N.PMk X e (fun _ H Q => Q (.ref (He.ga X.K c)) none H)) : SS X W (.Raise (some e) none pos) (dRaise c) :=
  ⟨_, L2N.ps_raise C.calm C.tk he, fun ρ st F bs σ H D b e h => h σ F H bs _ _ (.refl _ _ _) b e ⟨rfl, rfl⟩⟩
end
end CB
end
section
set_option Elab.async false
set_option linter.all false
set_option autoImplicit false
set_option maxRecDepth 100000
set_option maxHeartbeats 4000000
/-! loops, boxes, functions -/
namespace CB
open PySem PySem.Spec PyProof.Rows L2
noncomputable def forLoop (chk : Sto → Bool) (g : dG) (body : dS) : List D → Env → Sto → O
  | [], ρ, st => if chk st = true then .nx ρ st else .bad
  | d :: ds, ρ, st => if chk st = true then (match g d ρ with
    | none => .bad
    | some ρ1 => match body ρ1 st with
      | .nx ρ2 st2 => forLoop chk g body ds ρ2 st2
      | .ct ρ2 st2 => forLoop chk g body ds ρ2 st2
      | .bk ρ2 st2 => .nx ρ2 st2
      | .rt r st2 => .rt r st2
      | .ex c x ρ2 st2 => .ex c x ρ2 st2
      | .bad => .bad) else .bad
noncomputable def dFor (it : Env → Sto → R ITV) (g : dG) (body : dS) : dS := fun ρ st => (it ρ st).bO ρ fun I st1 => forLoop I.chk g body I.items ρ st1
section
variable {X : Cx} {W : WX} {s : Stmt} {ss : List Stmt} {f : dS} {pos : Pos} {a b c e tg iter : Expr} {fa fb : dE} {fc : Env → Sto → R Bool} {fi : Env → Sto → R ITV} {g : dG} {sl : List Nat} {k : Nat}
theorem ss_for (C : Cfg X W k) (hi : SI X W tg iter fi) (hg : SG X tg g sl) (hb : SSs X W ss f) (hs : ∀ x, foldedSetIterable iter X.env x = pure x := by intro _; rfl) : SS X W (.For tg iter ss [] pos) (dFor fi g f) := by
  obtain ⟨wi, pi, ki⟩ := hi
  obtain ⟨u, pg, kg⟩ := hg
  obtain ⟨t, pb, kb⟩ := hb
  refine ⟨_, ps_for C.po C.calm pi pg pb hs, fun ρ st F bs σ H D b e h => ?_⟩
  refine ki ρ st F bs σ H _ b e (OkS.bO e h fun J I st1 F1 H1 s1 b1 q1 e1 h1 => ?_)
  refine ⟨fun i m σc Hc => m = I.items.length - i ∧ i ≤ I.items.length ∧ ∃ Fc bsc ρc stc, StS F1 H1 bs Fc Hc bsc ∧ RepB X.K Fc bsc stc Hc ∧ EnvR X.K Fc bsc ρc σc ∧ OkS X.K W Fc Hc bsc D (forLoop I.chk g f (I.items.drop i) ρc stc), ⟨I.items.length, by simp, Nat.zero_le _, F1, bs, ρ, st1, .refl _ _ _, b1, e1, by simpa using h1⟩, ?_⟩
  rintro i m σc Hc ⟨rfl, hi, Fc, bsc, ρc, stc, S, bc, ec, okc⟩
  have hchk : I.chk stc = true := by
    cases hc : I.chk stc with
    | true => rfl
    | false =>
      cases hd : I.items.drop i with
      | nil => rw [hd] at okc; unfold forLoop at okc; rw [hc] at okc; exact (show False from okc).elim
      | cons d r => rw [hd] at okc; unfold forLoop at okc; rw [hc] at okc; exact (show False from okc).elim
  obtain ⟨more, hm, _⟩ := S.g
  have hit := q1 i Fc Hc more stc S.s.ex (by rw [← hm]; exact bc) hchk
  by_cases hlt : i < I.items.length
  · have hd : I.items.drop i = I.items[i] :: I.items.drop (i + 1) := List.drop_eq_getElem_cons hlt
    rw [hd] at okc
    unfold forLoop at okc
    rw [if_pos hchk] at okc
    obtain ⟨go, yl⟩ := hit.1 _ (List.getElem?_eq_getElem hlt)
    refine .inr ⟨go, fun σ' H' => ∃ Fc bsc ρc stc, StS F1 H1 bs Fc H' bsc ∧ RepB X.K Fc bsc stc H' ∧ EnvR X.K Fc bsc ρc σ' ∧ OkS X.K W Fc H' bsc D (forLoop I.chk g f (I.items.drop (i + 1)) ρc stc), fun σ' H' nx => ⟨I.items.length - (i + 1), by omega, rfl, hlt, nx⟩, fun x H' y => ?_⟩
    obtain ⟨F2, gr, rx⟩ := yl x H' y
    have S2 : StS Fc Hc bsc F2 H' bsc := .of (gr.stp bsc)
    have b2 := bc.gro gr
    cases hgd : g I.items[i] ρc with
    | none => rw [hgd] at okc; exact (show False from okc).elim
    | some ρ1 =>
      rw [hgd] at okc
      simp only at okc
      refine kg x _ ρc ρ1 F2 bsc σc H' _ b2.ex rx (ec.grw S2) hgd fun σ2 _ e2 => ?_
      refine kb ρ1 stc F2 bsc σ2 H' _ b2 e2 ?_
      have okc2 := OkS.step S2 okc
      cases ho : f ρ1 stc with
      | nx ρ2 st2 => rw [ho] at okc2; exact fun σ3 F3 H3 bs3 s3 b3 e3 => ⟨F3, bs3, ρ2, st2, (S.trans S2).trans s3, b3, e3, OkS.step s3 okc2⟩
      | ct ρ2 st2 => rw [ho] at okc2; exact fun σ3 F3 H3 bs3 s3 b3 e3 => ⟨F3, bs3, ρ2, st2, (S.trans S2).trans s3, b3, e3, OkS.step s3 okc2⟩
      | bk ρ2 st2 => rw [ho] at okc2; exact okc2
      | rt r st2 => rw [ho] at okc2; exact okc2
      | ex c x ρ2 st2 => rw [ho] at okc2; exact okc2
      | bad => rw [ho] at okc2; exact okc2
  · have ei : i = I.items.length := by omega
    subst ei
    rw [List.drop_length] at okc
    unfold forLoop at okc
    rw [if_pos hchk] at okc
    exact .inl ⟨hit.2 (Nat.le_refl _), okc.nx bc ec⟩

/-! ### while, its turns counted down from a number that is never told -/
def whLoop (c : Env → Sto → R Bool) (body : dS) : Nat → Env → Sto → O
  | 0, _, _ => .bad
  | n + 1, ρ, st => (c ρ st).bO ρ fun b st1 => if b = true then (match body ρ st1 with
      | .nx ρ2 st2 => whLoop c body n ρ2 st2
      | .ct ρ2 st2 => whLoop c body n ρ2 st2
      | .bk ρ2 st2 => .nx ρ2 st2
      | .rt r st2 => .rt r st2
      | .ex c x ρ2 st2 => .ex c x ρ2 st2
      | .bad => .bad) else .nx ρ st1
@[irreducible] def fuel : Nat := 2 ^ 6000
def dWhile (c : Env → Sto → R Bool) (body : dS) : dS := fun ρ st => whLoop c body fuel ρ st
theorem ss_while (C : Cfg X W k) (hc : ST X W c fc) (hb : SSs X W ss f) : SS X W (.While c ss [] pos) (dWhile fc f) := by
  obtain ⟨t, pc, kc⟩ := hc
  obtain ⟨u, pb, kb⟩ := hb
  refine ⟨_, ps_while C.po pc pb, fun ρ st F bs σ H D b e h => ?_⟩
  refine ⟨fun m σc Hc => ∃ Fc bsc ρc stc, RepB X.K Fc bsc stc Hc ∧ EnvR X.K Fc bsc ρc σc ∧ OkS X.K W Fc Hc bsc D (whLoop fc f m ρc stc), ⟨fuel, F, bs, ρ, st, b, e, h⟩, ?_⟩
  rintro m σc Hc ⟨Fc, bsc, ρc, stc, bc, ec, okc⟩
  cases m with
  | zero => exact (show False from okc).elim
  | succ m =>
    unfold whLoop at okc
    refine kc ρc stc Fc bsc σc Hc _ bc ec (OkS.bO ec okc fun v r st1 F1 H1 s1 b1 q1 e1 h1 => ?_)
    cases (show v = r from q1)
    cases v with
    | false => rw [if_neg Bool.false_ne_true] at h1 ⊢; exact h1.nx b1 e1
    | true =>
      rw [if_pos rfl] at h1 ⊢
      refine ⟨fun σ' H' => ∃ Fc bsc ρc stc, RepB X.K Fc bsc stc H' ∧ EnvR X.K Fc bsc ρc σ' ∧ OkS X.K W Fc H' bsc D (whLoop fc f m ρc stc), fun σ' H' nx => ⟨m, Nat.lt_succ_self _, nx⟩, ?_⟩
      refine kb ρc st1 F1 bsc σc H1 _ b1 e1 ?_
      cases ho : f ρc st1 with
      | nx ρ2 st2 => rw [ho] at h1; exact fun σ3 F3 H3 bs3 s3 b3 e3 => ⟨F3, bs3, ρ2, st2, b3, e3, OkS.step s3 h1⟩
      | ct ρ2 st2 => rw [ho] at h1; exact fun σ3 F3 H3 bs3 s3 b3 e3 => ⟨F3, bs3, ρ2, st2, b3, e3, OkS.step s3 h1⟩
      | bk ρ2 st2 => rw [ho] at h1; exact h1
      | rt r st2 => rw [ho] at h1; exact h1
      | ex c x ρ2 st2 => rw [ho] at h1; exact h1
      | bad => rw [ho] at h1; exact h1
end

/-! ### a box is written -/
theorem box_upd {K : PySem.W.Frag} {F H : Hp} {bs : List Addr} {st : Sto} {i : Nat} {a : Addr} {ds ds' : List D} {xs' : List V} (b : RepB K F bs st H) (ha : bs[i]? = some a) (hs : st[i]? = some (PyData.list ds)) (r : RpL K F xs' ds') :
    Stp F H bs F (upd H a (.lst xs')) ∧ RepB K F bs (st.set i (.list ds')) (upd H a (.lst xs')) := by
  obtain ⟨hf, xs, hx, hr⟩ := b.at_ i a _ ha hs
  refine ⟨⟨Same.refl _, fun _ h => .inl h, fun c o h n => ?_, fun c h => ?_⟩, ⟨fun c o h => ?_, by rw [List.length_set]; exact b.len, b.nd, fun j c p h1 h2 => ?_⟩⟩
  · rw [upd_ne (fun z => n (by rw [z]; exact List.mem_of_getElem? ha))]
    exact h
  · by_cases z : c = a
    · rw [z, upd_same]; exact some_ne
    · rw [upd_ne z]; exact h
  · rw [upd_ne (fun z => by rw [z, hf] at h; cases h)]
    exact b.ex c o h
  · by_cases hj : i = j
    · subst hj
      rw [ha] at h1
      cases h1
      have hl : i < st.length := (List.getElem?_eq_some_iff.mp hs).1
      rw [List.getElem?_set_self hl] at h2
      cases h2
      exact ⟨hf, xs', upd_same, r⟩
    · rw [List.getElem?_set_ne hj] at h2
      have hc : c ≠ a := fun z => by
        subst z
        have l1 := (List.getElem?_eq_some_iff.mp ha)
        have l2 := (List.getElem?_eq_some_iff.mp h1)
        exact hj ((List.getElem_inj b.nd).mp (l1.2.trans l2.2.symm))
      have hb := b.at_ j c p h1 h2
      cases p with
      | list es => exact ⟨hb.1, Top.mono hb.2 (Same.refl _) fun o e => by rw [upd_ne hc]; exact e⟩
      | dict kvs => exact ⟨hb.1, Top.mono hb.2 (Same.refl _) fun o e => by rw [upd_ne hc]; exact e⟩
      | _ =>
        show upd H a (.lst xs') c ≠ none
        rw [upd_ne hc]
        exact hb
theorem box_at {K : PySem.W.Frag} {F H : Hp} {bs : List Addr} {st : Sto} {i : Nat} {ds : List D} {v : V} (b : RepB K F bs st H) (h : SRp K F bs v (.box i)) (hs : st[i]? = some (PyData.list ds)) : ∃ a xs, v = .ref a ∧ bs[i]? = some a ∧ H a = some (.lst xs) ∧ RpL K F xs ds := by
  obtain ⟨a, rfl, ha⟩ := h
  obtain ⟨_, xs, hx, hr⟩ := b.at_ i a _ ha hs
  exact ⟨a, xs, rfl, ha, hx, hr⟩
/-- o is a box with a list -/
def onB (k : Nat → Env → Sto → R SV) (o : SV) (ρ : Env) (st1 : Sto) : R SV := match o with
  | .box i => (match st1[i]? with
    | some (.list _) => k i ρ st1
    | _ => .bad)
  | _ => .bad
def onL (f : dE) (k : Nat → Env → Sto → R SV) : dE := fun ρ st => (f ρ st).bind fun o st1 => onB k o ρ st1
def kApp (g : Env → Sto → R (List SV)) (i : Nat) : dE := fun ρ st1 => (g ρ st1).bind fun rs st2 => match rs with
  | [.d p] => (match st2[i]? with
    | some (.list ds) => if ds.length < lim then .ok (.d .none) (st2.set i (.list (ds ++ [p]))) else .bad
    | _ => .bad)
  | _ => .bad
def dApp (f : dE) (g : Env → Sto → R (List SV)) : dE := onL f (kApp g)
def dPop (f : dE) : dE := fun ρ st => (f ρ st).bind fun o st1 => match o with
  | .box i => (match st1[i]? with
    | some (.list ds) => (match ds[ds.length - 1]? with
      | some p => .ok (.d p) (st1.set i (.list ds.dropLast))
      | none => .bad)
    | _ => .bad)
  | _ => .bad
def kPopI (g : Env → Sto → R (List SV)) (i : Nat) : dE := fun ρ st1 => (g ρ st1).bind fun rs st2 => match rs with
  | [.d (.int j)] => (match st2[i]? with
    | some (.list ds) => (match seqIndex? j ds.length with
      | some k => (match ds[k]? with
        | some p => if j.natAbs ≤ 1000000000 then .ok (.d p) (st2.set i (.list (ds.eraseIdx k))) else .bad
        | none => .bad)
      | none => .bad)
    | _ => .bad)
  | _ => .bad
def dPopI (f : dE) (g : Env → Sto → R (List SV)) : dE := onL f (kPopI g)
section
variable {X : Cx} {W : WX} {pos apos cpos : Pos} {a b e o : Expr} {fa fb fo : dE} {gs : Env → Sto → R (List SV)}
theorem se_pop (ho : SE X W o fo) (hbase : attributeBase o "pop" X.env (eval o X.env) = eval o X.env := by rfl) (hline : (apos.endLine == cpos.line) = true := by rfl) : SE X W (.Call (.Attribute o "pop" apos) [] [] cpos) (dPop fo) := by
  obtain ⟨t, p, k⟩ := ho
  refine ⟨_, pe_bm0 F.plainAttrs_list F.slot_list_pop F.type_list_pop mt_pop p hbase hline, fun ρ st F bs σ H Q b e h => ?_⟩
  refine k ρ st F bs σ H _ b e (Ok.bind h fun x r1 st1 F1 H1 _ s1 b1 q1 h => ?_)
  cases r1 with
  | d p => exact h.elim
  | box i =>
    simp only at h
    split at h
    · rename_i ds hs
      split at h
      · rename_i p hp
        obtain ⟨ad, xs, rfl, ha, hx, hr⟩ := box_at b1 q1 hs
        obtain ⟨y, hy, ry⟩ := hr.getD hp
        obtain ⟨u1, u2⟩ := box_upd b1 ha hs hr.dropLast
        exact ⟨.inl ⟨rfl, xs, .inl (.of hx)⟩, ad, xs, y, rfl, rfl, hx, by rw [hr.length]; exact hy, h y F1 _ u1 u2 ry⟩
      · exact h.elim
    · exact h.elim
theorem onL_ok {σ : L2.St} {F H : Hp} {bs : List Addr} {st1 : Sto} {ρ : Env} {x : V} {r : SV} {k : Nat → Env → Sto → R SV} {Q : VK} (b : RepB X.K F bs st1 H) (q : SRp X.K F bs x r) (h : Ok X.K W σ F H bs (relE X.K bs) Q (onB k r ρ st1)) : tyV X.K "list" x H ∧ ∃ i a, r = .box i ∧ x = .ref a ∧ bs[i]? = some a ∧ Ok X.K W σ F H bs (relE X.K bs) Q (k i ρ st1) := by
  cases r with
  | d p => exact h.elim
  | box i =>
    unfold onB at h
    simp only at h
    split at h
    · rename_i ds hs
      obtain ⟨ad, xs, rfl, ha, hx, hr⟩ := box_at b q hs
      exact ⟨.inl ⟨rfl, xs, .inl (.of hx)⟩, i, ad, rfl, rfl, ha, h⟩
    · exact h.elim
theorem se_popI (ho : SE X W o fo) (ha : SA X W [e] gs) (hbase : attributeBase o "pop" X.env (eval o X.env) = eval o X.env := by rfl)
    (hfew : ((backTo cpos (starEach [e] X.env)).all (fun x => !x.1) && (backToKw cpos (keywordEach [] X.env)).all (fun x => x.1.isSome) && decide (([e] : List Expr).length + ([] : List Keyword).length + (if ([] : List Keyword).isEmpty then 0 else 1) < 30)) = true := by rfl)
    (hline : (apos.endLine == cpos.line) = true := by rfl) (hs : starEach [e] X.env = (false, eval e X.env) :: starEach [] X.env := by rfl) (hplain : (backTo cpos (starEach [] X.env)).any (·.1) = false := by rfl) : SE X W (.Call (.Attribute o "pop" apos) [e] [] cpos) (dPopI fo gs) := by
  obtain ⟨t, p, k⟩ := ho
  obtain ⟨ta, pa, ka⟩ := ha
  refine ⟨_, pe_bm F.plainAttrs_list F.slot_list_pop F.type_list_pop mt_popAt p pa hbase hfew hline hs hplain, fun ρ st F bs σ H Q b e h => ?_⟩
  refine k ρ st F bs σ H _ b e (Ok.bind h fun x r1 st1 F1 H1 _ s1 b1 q1 h => ?_)
  obtain ⟨hty, i, ad, rfl, rfl, hat, h⟩ := onL_ok (k := kPopI gs) b1 q1 h
  refine ⟨hty, ka ρ st1 F1 bs σ H1 _ b1 (e.mono s1.ex) (Ok.bind h fun y r2 st2 F2 H2 _ s2 b2 q2 h => ?_)⟩
  split at h
  · cases q2 with
    | cons q t =>
      cases t
      cases (show Rp X.K F2 _ (.int _) from q)
      split at h
      · rename_i ds hst
        obtain ⟨ad', xs, e1, ha', hx, hr⟩ := box_at (v := .ref ad) b2 ⟨ad, rfl, hat⟩ hst
        cases e1
        split at h
        · rename_i kk hk
          split at h
          · rename_i p hp
            split at h
            · rename_i hj
              obtain ⟨z, hz, rz⟩ := hr.getD hp
              obtain ⟨u1, u2⟩ := box_upd b2 hat hst (hr.eraseIdx kk)
              exact ⟨ad, xs, _, kk, z, rfl, rfl, hx, by omega, by omega, by rw [hr.length]; exact hk, hz, h z F2 _ u1 u2 rz⟩
            · exact h.elim
          · exact h.elim
        · exact h.elim
      · exact h.elim
  · exact h.elim
theorem se_app (ho : SE X W o fo) (ha : SA X W [e] gs) (hbase : attributeBase o "append" X.env (eval o X.env) = eval o X.env := by rfl)
    (hfew : ((backTo cpos (starEach [e] X.env)).all (fun x => !x.1) && (backToKw cpos (keywordEach [] X.env)).all (fun x => x.1.isSome) && decide (([e] : List Expr).length + ([] : List Keyword).length + (if ([] : List Keyword).isEmpty then 0 else 1) < 30)) = true := by rfl)
    (hline : (apos.endLine == cpos.line) = true := by rfl) (hs : starEach [e] X.env = (false, eval e X.env) :: starEach [] X.env := by rfl) (hplain : (backTo cpos (starEach [] X.env)).any (·.1) = false := by rfl) : SE X W (.Call (.Attribute o "append" apos) [e] [] cpos) (dApp fo gs) := by
  obtain ⟨t, p, k⟩ := ho
  obtain ⟨ta, pa, ka⟩ := ha
  refine ⟨_, pe_bm F.plainAttrs_list F.slot_list_append F.type_list_append mt_append p pa hbase hfew hline hs hplain, fun ρ st F bs σ H Q b e h => ?_⟩
  refine k ρ st F bs σ H _ b e (Ok.bind h fun x r1 st1 F1 H1 _ s1 b1 q1 h => ?_)
  obtain ⟨hty, i, ad, rfl, rfl, hat, h⟩ := onL_ok (k := kApp gs) b1 q1 h
  refine ⟨hty, ka ρ st1 F1 bs σ H1 _ b1 (e.mono s1.ex) (Ok.bind h fun y r2 st2 F2 H2 _ s2 b2 q2 h => ?_)⟩
  split at h
  · cases q2 with
    | cons q t =>
      cases t
      split at h
      · rename_i ds hst
        obtain ⟨ad', xs, e1, ha', hx, hr⟩ := box_at (v := .ref ad) b2 ⟨ad, rfl, hat⟩ hst
        cases e1
        split at h
        · rename_i hl
          obtain ⟨u1, u2⟩ := box_upd b2 hat hst (hr.append (.cons q .nil))
          exact ⟨ad, xs, _, rfl, rfl, hx, by rw [hr.length]; exact Nat.lt_of_lt_of_le hl lim_line, h .non F2 _ u1 u2 Rp.non⟩
        · exact h.elim
      · exact h.elim
  · exact h.elim
/-- xs[i] = v, xs a box -/
def dSetIx (fv fo fi : dE) : dS := fun ρ st => (fv ρ st).bO ρ fun v st1 => (fo ρ st1).bO ρ fun o st2 => (fi ρ st2).bO ρ fun ix st3 => match v, o, ix with
  | .d p, .box i, .d (.int k) => (match st3[i]? with
    | some (.list ds) => (match ixN ds.length k with
      | some j => .nx ρ (st3.set i (.list (ds.set j p)))
      | none => .bad)
    | _ => .bad)
  | _, _, _ => .bad
theorem ss_setIx {v : Expr} {fv fi : dE} {tpos : Pos} (hv : SE X W v fv) (ho : SE X W o fo) (hi : SE X W e fi)
    (ha : ∀ u, assign (.Subscript o e tpos) X.env u = (do
      let ov ← holding [u] (eval o X.env)
      let iv ← holding [u, ov] (eval e X.env)
      standAt tpos
      holding [u, ov, iv] (setItem ov iv u)
      release [u, ov, iv] []) := by intro _; rfl)
    (hs : swapsWithSole [.Subscript o e tpos] v pos.line X.env = pure false := by rfl) (hw : swappedStores [.Subscript o e tpos] v X.env = pure none := by rfl)
    (h1 : (assignEach [.Subscript o e tpos] X.env).map (·.2) = [assign (.Subscript o e tpos) X.env] := by rfl) : SS X W (.Assign [.Subscript o e tpos] v pos) (dSetIx fv fo fi) := by
  obtain ⟨tv, pv, kv⟩ := hv
  obtain ⟨to, po, ko⟩ := ho
  obtain ⟨ti, pi, ki⟩ := hi
  refine ⟨_, ps_asg pv (pg_sub po pi set_list ha) hs hw h1, fun ρ st F bs σ H D b e h => ?_⟩
  refine kv ρ st F bs σ H _ b e (OkS.bO e h fun x r1 st1 F1 H1 s1 b1 q1 e1 h => ?_)
  refine ko ρ st1 F1 bs σ H1 _ b1 e1 (OkS.bO e1 h fun y r2 st2 F2 H2 s2 b2 q2 e2 h => ?_)
  refine ki ρ st2 F2 bs σ H2 _ b2 e2 (OkS.bO e2 h fun z r3 st3 F3 H3 s3 b3 q3 e3 h => ?_)
  split at h
  · cases (show Rp X.K F3 z (.int _) from q3)
    split at h
    · rename_i ds hst
      obtain ⟨ad, xs, rfl, hat, hx, hr⟩ := box_at b3 (q2.mono s3.ex) hst
      split at h
      · rename_i j hj
        obtain ⟨u1, u2⟩ := box_upd b3 hat hst (RpL.set (Rp.mono s3.ex (Rp.mono s2.ex q1)) j hr)
        exact ⟨ad, xs, _, j, rfl, rfl, hx, by rw [hr.length]; exact hj, h _ F3 _ bs (.of u1) u2 e3⟩
      · exact h.elim
    · exact h.elim
  · exact h.elim
def dRetB (f : Env → Sto → R D) : dS := fun ρ st => (f ρ st).bO ρ fun p st1 => .rt (.box st1.length) (st1 ++ [p])
theorem ss_retB {fa : Env → Sto → R CB.D} (h : SF X W a fa) : SS X W (.Return (some a) pos) (dRetB fa) := by
  obtain ⟨t, p, k⟩ := h
  refine ⟨_, ps_ret p, fun ρ st F bs σ H D b e h => ?_⟩
  refine k ρ st F bs σ H _ b e ?_
  unfold dRetB at h
  cases hr : fa ρ st with
  | bad => rw [hr] at h; exact h.elim
  | ex c x st1 => rw [hr] at h; exact fun F' H' cls dx s b r => h σ F' H' bs cls dx (.of s) b (e.mono s.ex) r
  | ok q st1 =>
    rw [hr] at h
    intro v F1 H1 s1 b1 q1
    obtain ⟨ad, rfl, hn, hf, ht⟩ := q1
    obtain ⟨g1, g2, g3⟩ := box_new s1 b1 (fun x hx => b.there hx) hn hf ht
    exact h _ F1 H1 _ g1 g2 g3
end
end CB
end
section
set_option Elab.async false
set_option linter.all false
set_option autoImplicit false
set_option maxRecDepth 100000
set_option maxHeartbeats 4000000
/-! functions -/
namespace CB
open PySem PySem.Spec PyProof.Rows L2
abbrev Den := List SV → Sto → R SV
def fnRes (n0 : Nat) : O → R SV
  | .rt (.d p) st => .ok (.d p) (st.take n0)
  | .rt (.box i) st => if i < n0 then .ok (.box i) (st.take n0) else (match st[i]? with
    | some (.list ds) => .ok (.d (.list ds)) (st.take n0)
    | _ => .bad)
  | .nx _ st => .ok (.d .none) (st.take n0)
  | .ex c x _ st => .ex c x (st.take n0)
  | _ => .bad
/-- .. a new list handed back as it is -/
def fnResF (n0 : Nat) : O → R D
  | .rt (.box i) st => if i < n0 then .bad else (match st[i]? with
    | some (.list ds) => .ok (.list ds) (st.take n0)
    | _ => .bad)
  | .ex c x _ st => .ex c x (st.take n0)
  | _ => .bad
def env0 (n : Nat) (rs : List SV) : Env := rs.map some ++ List.replicate (n - rs.length) none
def runF (m n : Nat) (body : dS) : Den := fun rs st => if rs.length = m then fnRes st.length (body (env0 n rs) st) else .bad
def runFF (m n : Nat) (body : dS) : List SV → Sto → R D := fun rs st => if rs.length = m then fnResF st.length (body (env0 n rs) st) else .bad
def WX0 (E : XK) : WX := fun c d _ H => E c d H
def spB (K : PySem.W.Frag) (n : Nat) (den : Den) : Sp := fun vs H Q E => vs.length = n ∧ ∃ rs st F bs, SRpL K F bs vs rs ∧ RepB K F bs st H ∧ Ok K (WX0 E) [] F H bs (relE K bs) Q (den rs st)
def spF (K : PySem.W.Frag) (n : Nat) (den : List SV → Sto → R D) : Sp := fun vs H Q E => vs.length = n ∧ ∃ rs st F bs, SRpL K F bs vs rs ∧ RepB K F bs st H ∧ Ok K (WX0 E) [] F H bs (relF K H) Q (den rs st)
theorem SRpL.length {K : PySem.W.Frag} {F : Hp} {bs : List Addr} : ∀ {vs : List V} {rs : List SV}, SRpL K F bs vs rs → vs.length = rs.length
  | _, _, .nil => rfl
  | _, _, .cons _ t => congrArg (· + 1) (SRpL.length t)
theorem srpL_get {K : PySem.W.Frag} {F : Hp} {bs : List Addr} : ∀ {vs : List V} {rs : List SV} {i : Nat} {r : SV}, SRpL K F bs vs rs → rs[i]? = some r → ∃ v, vs[i]? = some v ∧ SRp K F bs v r
  | _, _, _, _, .nil, h => by simp at h
  | _, _, 0, _, .cons h _, e => by simp at e; subst e; exact ⟨_, rfl, h⟩
  | _, _, i + 1, r, .cons _ t, e => by
    obtain ⟨v, h1, h2⟩ := srpL_get (i := i) (r := r) t (by simpa using e)
    exact ⟨v, by simpa using h1, h2⟩
theorem envR_start {K : PySem.W.Frag} {F : Hp} {bs : List Addr} {vs : List V} {rs : List SV} (N : List Str) (h : SRpL K F bs vs rs) : EnvR K F bs (env0 N.length rs) (L2.start N vs) := by
  have hl := SRpL.length h
  refine ⟨by unfold env0 L2.start; simp [hl], fun i r e => ?_⟩
  unfold env0 at e
  by_cases hi : i < rs.length
  · rw [List.getElem?_append_left (by simpa using hi), List.getElem?_map] at e
    cases hr : rs[i]? with
    | none => rw [hr] at e; cases e
    | some r' =>
      rw [hr] at e
      have e' : r' = r := Option.some.inj (Option.some.inj e)
      subst e'
      obtain ⟨v, hv, rv⟩ := srpL_get h hr
      refine ⟨v, ?_, rv⟩
      unfold L2.start
      rw [List.getElem?_append_left (by simpa [hl] using hi), List.getElem?_map, hv]
      rfl
  · rw [List.getElem?_append_right (by simpa using Nat.le_of_not_lt hi)] at e
    obtain ⟨_, e2⟩ := List.getElem?_eq_some_iff.mp e
    rw [List.getElem_replicate] at e2
    cases e2
theorem repB_take {K : PySem.W.Frag} {F H : Hp} {bs more : List Addr} {st : Sto} (b : RepB K F (bs ++ more) st H) : RepB K F bs (st.take bs.length) H where
  ex := b.ex
  len := by
    have := b.len
    rw [List.length_append] at this
    rw [List.length_take]; omega
  nd := (List.nodup_append.mp b.nd).1
  at_ := fun i a p h1 h2 => by
    have hi : i < bs.length := (List.getElem?_eq_some_iff.mp h1).1
    rw [List.getElem?_take_of_lt hi] at h2
    exact b.at_ i a p (by rw [List.getElem?_append_left hi]; exact h1) h2
section
variable {K : PySem.W.Frag} {F H : Hp} {bs : List Addr} {st : Sto} {Q : VK} {E : XK}
/-- what the body's end gives the caller -/
theorem fnRes_ok (b : RepB K F bs st H) {o : O} (h : Ok K (WX0 E) [] F H bs (relE K bs) Q (fnRes st.length o)) : OkS K (WX0 E) F H bs { nx := fun _ H' => Q .non H', rt := Q } o := by
  have hn : st.length = bs.length := b.len.symm
  rw [hn] at h
  cases o with
  | nx ρ st1 =>
    intro σ' F' H' bs' s b' e
    obtain ⟨m, rfl, hm⟩ := s.g
    exact h .non F' H' s.s (repB_take b') Rp.non
  | bk ρ st1 => exact h.elim
  | ct ρ st1 => exact h.elim
  | bad => exact h.elim
  | ex c x ρ st1 =>
    intro σ' F' H' bs' cls dx s b' e r
    obtain ⟨m, rfl, hm⟩ := s.g
    exact h F' H' cls dx s.s (repB_take b') r
  | rt r st1 =>
    intro v F' H' bs' s b' e
    obtain ⟨m, rfl, hm⟩ := s.g
    cases r with
    | d p => exact h v F' H' s.s (repB_take b') e
    | box i =>
      unfold fnRes at h
      simp only at h
      obtain ⟨a, rfl, ha⟩ := e
      by_cases hi : i < bs.length
      · rw [if_pos hi] at h
        rw [List.getElem?_append_left hi] at ha
        exact h (.ref a) F' H' s.s (repB_take b') ⟨a, rfl, ha⟩
      · rw [if_neg hi] at h
        split at h
        · rename_i ds hs
          obtain ⟨hf, ht⟩ := b'.at_ i a _ ha hs
          rw [List.getElem?_append_right (Nat.le_of_not_lt hi)] at ha
          have hna : H a = none := hm a (List.mem_of_getElem? ha)
          obtain ⟨F2, g, b2, r⟩ := freeze b (repB_take b') s.s hna hf ht
          exact h (.ref a) F2 H' g b2 r
        · exact h.elim
theorem fnResF_ok (b : RepB K F bs st H) {o : O} (h : Ok K (WX0 E) [] F H bs (relF K H) Q (fnResF st.length o)) : OkS K (WX0 E) F H bs { nx := fun _ H' => Q .non H', rt := Q } o := by
  have hn : st.length = bs.length := b.len.symm
  rw [hn] at h
  cases o with
  | nx ρ st1 => exact h.elim
  | bk ρ st1 => exact h.elim
  | ct ρ st1 => exact h.elim
  | bad => exact h.elim
  | ex c x ρ st1 =>
    intro σ' F' H' bs' cls dx s b' e r
    obtain ⟨m, rfl, hm⟩ := s.g
    exact h F' H' cls dx s.s (repB_take b') r
  | rt r st1 =>
    intro v F' H' bs' s b' e
    obtain ⟨m, rfl, hm⟩ := s.g
    cases r with
    | d p => exact h.elim
    | box i =>
      unfold fnResF at h
      simp only at h
      obtain ⟨a, rfl, ha⟩ := e
      by_cases hi : i < bs.length
      · rw [if_pos hi] at h; exact h.elim
      · rw [if_neg hi] at h
        split at h
        · rename_i ds hs
          obtain ⟨hf, ht⟩ := b'.at_ i a _ ha hs
          rw [List.getElem?_append_right (Nat.le_of_not_lt hi)] at ha
          have hna : H a = none := hm a (List.mem_of_getElem? ha)
          exact h (.ref a) F' H' s.s (repB_take b') ⟨a, rfl, hna, hf, ht⟩
        · exact h.elim
end
section
variable {P : Program} {w : World} {K : PySem.W.Frag} {mg : Str → Option Value} {base : Heap} {x qual : Str} {params : Arguments} {body : List Stmt} {scope : Scope} {kws : List (Str × V)} {f : Addr} {fd : FuncData} {N ps : List Str} {k : Nat} {fb : dS}
theorem cfg_cx {A : Around} {outer : List PySem.Env} {s : Shared} {H : Hp} {E : XK} {cdv : Value} (S : FnScope N ps scope) (hr : Room k (A.deeper (envOfC qual scope s.heap.objs.size f cdv))) : Cfg (cxOf (L2N.CX P w) P w K mg base N qual scope f cdv A outer s H E) (WX0 E) k :=
  ⟨hr, L2N.takes_of rfl rfl rfl rfl, rfl, S.nd, passes_of rfl⟩
abbrev BodyOk (P : Program) (w : World) (K : PySem.W.Frag) (mg : Str → Option Value) (base : Heap) (N : List Str) (qual : Str) (scope : Scope) (f : Addr) (k : Nat) (body : List Stmt) (fb : dS) : Prop :=
  ∀ (cdv : Value) (A : Around) (outer : List PySem.Env) (s : Shared) (H : Hp) (E : XK), Cfg (cxOf (L2N.CX P w) P w K mg base N qual scope f cdv A outer s H E) (WX0 E) k → SSs (cxOf (L2N.CX P w) P w K mg base N qual scope f cdv A outer s H E) (WX0 E) body fb
theorem fn_ok {dvs : List V} (F : FunD K x qual params body scope dvs kws f fd) (S : FnScope N ps scope) (hb : BodyOk P w K mg base N qual scope f k body fb) : FnOk P w K mg base (L2N.CX P w) (k + 1) f fd ps (spB K ps.length (runF ps.length N.length fb)) := by
  refine F.ok S (fun vs H Q E h => h.1) (fun cdv A outer s H vs Q E hr h => ?_)
  obtain ⟨hl, rs, st, F0, bs, hv, b, ok⟩ := h
  obtain ⟨t, p, kk⟩ := hb cdv A outer s H E (cfg_cx S hr)
  refine ⟨t, p, kk (env0 N.length rs) st F0 bs _ H _ b (envR_start N hv) ?_⟩
  unfold runF at ok
  rw [if_pos ((SRpL.length hv).symm.trans hl)] at ok
  exact fnRes_ok b ok
theorem fn_okF {dvs : List V} (F : FunD K x qual params body scope dvs kws f fd) (S : FnScope N ps scope) (hb : BodyOk P w K mg base N qual scope f k body fb) : FnOk P w K mg base (L2N.CX P w) (k + 1) f fd ps (spF K ps.length (runFF ps.length N.length fb)) := by
  refine F.ok S (fun vs H Q E h => h.1) (fun cdv A outer s H vs Q E hr h => ?_)
  obtain ⟨hl, rs, st, F0, bs, hv, b, ok⟩ := h
  obtain ⟨t, p, kk⟩ := hb cdv A outer s H E (cfg_cx S hr)
  refine ⟨t, p, kk (env0 N.length rs) st F0 bs _ H _ b (envR_start N hv) ?_⟩
  unfold runFF at ok
  rw [if_pos ((SRpL.length hv).symm.trans hl)] at ok
  exact fnResF_ok b ok
end
/-- the name x holds a def that keeps the promise -/
def FnSp (P : Program) (w : World) (K : PySem.W.Frag) (mg : Str → Option Value) (base : Heap) (k : Nat) (x : Str) (sp : Sp) : Prop :=
  ∃ (f : Addr) (fd : FuncData) (ps : List Str), FnOk P w K mg base (L2N.CX P w) k f fd ps sp ∧ Binds K fd ps [] ∧ PySem.W.keepIn K (.ref f) = true ∧ mg x = some (.ref f)
abbrev Fn (P : Program) (w : World) (K : PySem.W.Frag) (mg : Str → Option Value) (base : Heap) (k : Nat) (x : Str) (n : Nat) (den : Den) : Prop := FnSp P w K mg base k x (spB K n den)
abbrev FnF (P : Program) (w : World) (K : PySem.W.Frag) (mg : Str → Option Value) (base : Heap) (k : Nat) (x : Str) (n : Nat) (den : List SV → Sto → R D) : Prop := FnSp P w K mg base k x (spF K n den)
/-- a call that works on the caller's boxes -/
def dCallB (n : Nat) (den : Den) (g : Env → Sto → R (List SV)) : dE := fun ρ st => (g ρ st).bind fun rs st1 => if rs.length = n then den rs st1 else .bad
def nCallB (n : Nat) (den : List SV → Sto → R D) (g : Env → Sto → R (List SV)) : Env → Sto → R D := fun ρ st => (g ρ st).bind fun rs st1 => if rs.length = n then den rs st1 else .bad
/-- a call with data alone -/
def callP (n : Nat) (den : Den) (rs : List SV) (st1 : Sto) : R SV := if rs.length = n then (match unD rs with
  | some ds => (match den (ds.map .d) [] with
    | .ok (.d p) _ => .ok (.d p) st1
    | .ok (.box _) _ => .bad
    | .ex c x _ => .ex c x st1
    | .bad => .bad)
  | none => .bad) else .bad
def dCallP (n : Nat) (den : Den) (g : Env → Sto → R (List SV)) : dE := fun ρ st => (g ρ st).bind fun rs st1 => callP n den rs st1
theorem repB_nil {K : PySem.W.Frag} {F H : Hp} (e : Same F H) : RepB K F [] [] H := ⟨e, rfl, List.nodup_nil, fun i a p h _ => by simp at h⟩
theorem stp_nil {K : PySem.W.Frag} {F H F' H' : Hp} {bs : List Addr} {st st0 : Sto} (s : Stp F H [] F' H') (b : RepB K F bs st H) (b' : RepB K F' [] st0 H') : Stp F H bs F' H' ∧ RepB K F' bs st H' := by
  have g : Gro F H F' H' := ⟨s.ex, s.nw, fun a o h => s.keep a o h (by simp), b'.ex⟩
  exact ⟨g.stp bs, b.gro g⟩
theorem srpL_un {K : PySem.W.Frag} {F : Hp} {bs : List Addr} : ∀ {vs : List V} {rs : List SV} {ds : List D}, SRpL K F bs vs rs → unD rs = some ds → SRpL K F [] vs (ds.map .d)
  | _, _, _, .nil, h => by cases h; exact .nil
  | _, .d p :: r, ds, .cons q t, h => by
    unfold unD at h
    cases hr : unD r with
    | none => rw [hr] at h; cases h
    | some es =>
      rw [hr] at h
      have h' : p :: es = ds := Option.some.inj h
      subst h'
      exact .cons q (srpL_un t hr)
  | _, .box _ :: _, _, .cons _ _, h => by cases h
/-- the promise of a call with data alone, met -/
theorem callP_sp {K : PySem.W.Frag} {W : WX} {σ : L2.St} {F H : Hp} {bs : List Addr} {st : Sto} {rs : List SV} {vs : List V} {n : Nat} {den : Den} {Q : VK} (b : RepB K F bs st H) (q : SRpL K F bs vs rs) (h : Ok K W σ F H bs (relE K bs) Q (callP n den rs st)) : spB K n den vs H Q (WE W σ) := by
  unfold callP at h
  split at h
  · rename_i hn
    split at h
    · rename_i ds hd
      refine ⟨(SRpL.length q).trans hn, ds.map .d, [], F, [], srpL_un q hd, repB_nil b.ex, ?_⟩
      split at h
      · rename_i p st0 hr
        rw [hr]
        intro v F' H' s b' r
        obtain ⟨u1, u2⟩ := stp_nil s b b'
        exact h v F' H' u1 u2 r
      · exact h.elim
      · rename_i c x st0 hr
        rw [hr]
        intro F' H' cls dx s b' r
        obtain ⟨u1, u2⟩ := stp_nil s b b'
        exact h F' H' cls dx u1 u2 r
      · exact h.elim
    · exact h.elim
  · exact h.elim
theorem callB_sp {K : PySem.W.Frag} {W : WX} {σ : L2.St} {F H : Hp} {bs : List Addr} {st : Sto} {rs : List SV} {vs : List V} {n : Nat} {den : Den} {Q : VK} (b : RepB K F bs st H) (q : SRpL K F bs vs rs) (h : Ok K W σ F H bs (relE K bs) Q (if rs.length = n then den rs st else .bad)) : spB K n den vs H Q (WE W σ) := by
  split at h
  · rename_i hn
    refine ⟨(SRpL.length q).trans hn, rs, st, F, bs, q, b, ?_⟩
    cases hr : den rs st with
    | ok r st' => rw [hr] at h; exact h
    | ex c x st' => rw [hr] at h; exact h
    | bad => rw [hr] at h; exact h
  · exact h.elim
theorem callF_sp {K : PySem.W.Frag} {W : WX} {σ : L2.St} {F H0 H : Hp} {bs : List Addr} {st : Sto} {rs : List SV} {vs : List V} {n : Nat} {den : List SV → Sto → R D} {Q : VK} (b : RepB K F bs st H) (hb : ∀ a, H0 a ≠ none → H a ≠ none) (q : SRpL K F bs vs rs) (h : Ok K W σ F H bs (relF K H0) Q (if rs.length = n then den rs st else .bad)) : spF K n den vs H Q (WE W σ) := by
  split at h
  · rename_i hn
    refine ⟨(SRpL.length q).trans hn, rs, st, F, bs, q, b, ?_⟩
    cases hr : den rs st with
    | ok r st' =>
      rw [hr] at h
      intro v F' H' s b' z
      obtain ⟨a, e1, e2, e3, e4⟩ := z
      refine h v F' H' s b' ⟨a, e1, ?_, e3, e4⟩
      cases y : H0 a with
      | none => rfl
      | some o => exact absurd e2 (hb a (by rw [y]; exact some_ne))
    | ex c x st' => rw [hr] at h; exact h
    | bad => rw [hr] at h; exact h
  · exact h.elim
section
variable {X : Cx} {W : WX} {x : Str} {p pos : Pos} {e : Expr} {es : List Expr} {gs : Env → Sto → R (List SV)} {k j n : Nat} {den : Den}
theorem se_callP (C : Cfg X W k) (hj : j ≤ k) (F : Fn X.prog X.w X.K X.mg X.base j x n den) (ha : SA X W (e :: es) gs) (hg : Gl X x := by rfl) (hdb : (x == ("__debug__" : Str)) = false := by decide) (he : starEach (e :: es) X.env = (false, eval e X.env) :: starEach es X.env := by rfl) (hpl : (backTo pos (starEach es X.env)).any (·.1) = false := by rfl) :
    SE X W (.Call (.Name x p) (e :: es) [] pos) (dCallP n den gs) := by
  obtain ⟨f, fd, ps, F, hb, hk, hm⟩ := F
  obtain ⟨t, pt, kk⟩ := ha
  refine ⟨_, pe_callS F (C.hr.mono hj) hg hm hk hb (L2N.passAt C.tk) pt hdb he hpl, fun ρ st F bs σ H Q b e h => ?_⟩
  exact kk ρ st F bs σ H _ b e (Ok.bind h fun x r1 st1 F1 H1 _ s1 b1 q1 h => callP_sp b1 q1 h)
theorem se_callB (C : Cfg X W k) (hj : j ≤ k) (F : Fn X.prog X.w X.K X.mg X.base j x n den) (ha : SA X W (e :: es) gs) (hg : Gl X x := by rfl) (hdb : (x == ("__debug__" : Str)) = false := by decide) (he : starEach (e :: es) X.env = (false, eval e X.env) :: starEach es X.env := by rfl) (hpl : (backTo pos (starEach es X.env)).any (·.1) = false := by rfl) :
    SE X W (.Call (.Name x p) (e :: es) [] pos) (dCallB n den gs) := by
  obtain ⟨f, fd, ps, F, hb, hk, hm⟩ := F
  obtain ⟨t, pt, kk⟩ := ha
  refine ⟨_, pe_callS F (C.hr.mono hj) hg hm hk hb (L2N.passAt C.tk) pt hdb he hpl, fun ρ st F bs σ H Q b e h => ?_⟩
  exact kk ρ st F bs σ H _ b e (Ok.bind h fun x r1 st1 F1 H1 _ s1 b1 q1 h => callB_sp b1 q1 h)
theorem sf_callF {den : List SV → Sto → R CB.D} (C : Cfg X W k) (hj : j ≤ k) (F : FnF X.prog X.w X.K X.mg X.base j x n den) (ha : SA X W (e :: es) gs) (hg : Gl X x := by rfl) (hdb : (x == ("__debug__" : Str)) = false := by decide) (he : starEach (e :: es) X.env = (false, eval e X.env) :: starEach es X.env := by rfl) (hpl : (backTo pos (starEach es X.env)).any (·.1) = false := by rfl) :
    SF X W (.Call (.Name x p) (e :: es) [] pos) (nCallB n den gs) := by
  obtain ⟨f, fd, ps, F, hb, hk, hm⟩ := F
  obtain ⟨t, pt, kk⟩ := ha
  refine ⟨_, pe_callS F (C.hr.mono hj) hg hm hk hb (L2N.passAt C.tk) pt hdb he hpl, fun ρ st F bs σ H Q b e h => ?_⟩
  exact kk ρ st F bs σ H _ b e (Ok.bind h fun x r1 st1 F1 H1 _ s1 b1 q1 h => callF_sp b1 s1.there q1 h)
end
end CB
end
section
set_option Elab.async false
set_option linter.all false
set_option autoImplicit false
set_option maxRecDepth 100000
set_option maxHeartbeats 4000000
/-! more rules -/
namespace CB
open PySem PySem.Spec PyProof.Rows L2
theorem boot_bool : bootBuiltins "bool" = some (.type "bool") := by decide +kernel
/-! sum of a list, of a tuple -/
def rSumT (K : PySem.W.Frag) : List V → Hp → VK → Prop := fun vs H Q => ∃ (a : Addr) (ns : List Int), vs = [V.ref a] ∧ SqT K H a (ns.map V.int) ∧ Q (.int ns.sum) H
theorem cr_sumT {X : Cx} (hc : X.calm = true) : CallR X (.builtin "sum") (rSumT X.K) := by
  intro pins s σ H vs us Q I r h
  obtain ⟨a, ns, rfl, hs, q⟩ := h
  obtain ⟨its, rv, hl, _⟩ := I.tuple hs
  rw [Vals.ref1 r]
  have hi := rv.ints
  obtain ⟨xs, e⟩ := hi.allInts.items
  have hn : numsOf (intItems xs).toList = ns := by rw [← e]; exact hi.numsOf
  rw [nums_intItems] at hn
  rw [e] at hl
  refine PySem.W.ktm_sumG (I.ok.hd hc) hl fun h' tk t' hk => ?_
  have e2 : preSum (numAt xs) xs.size = ns.sum := by rw [preSum_eq, List.take_of_length_le (by simp), hn]
  rw [e2]
  exact ⟨.int _, H, I.kept hk, ⟨_, rfl⟩, q⟩
theorem cr_sumA {X : Cx} (hc : X.calm = true) : CallR X (.builtin "sum") (fun vs H Q => rSum X.K vs H Q ∨ rSumT X.K vs H Q) := by
  intro pins s σ H vs us Q I r h
  rcases h with h | h
  · exact cr_sum hc pins s σ H vs us Q I r h
  · exact cr_sumT hc pins s σ H vs us Q I r h
def fSumA : D → Option D
  | .list xs => (intsD xs).map fun ns => .int ns.sum
  | .tuple xs => (intsD xs).map fun ns => .int ns.sum
  | _ => none
theorem se_sumA {X : Cx} {W : WX} {gs : Env → Sto → R (List SV)} {p pos : Pos} {a : Expr} {es : List Expr} {k : Nat} (C : Cfg X W k) (hm : X.mg "sum" = none) (ha : SA X W (a :: es) gs) (hg : Gl X "sum" := by rfl) (he : starEach (a :: es) X.env = (false, eval a X.env) :: starEach es X.env := by rfl) (hpl : (backTo pos (starEach es X.env)).any (·.1) = false := by rfl) :
    SE X W (.Call (.Name "sum" p) (a :: es) [] pos) (dCal (g1 fSumA) gs) := se_cal (calD1 fun F H x p z Q e hv hf k => by
  unfold fSumA at hf
  split at hf
  · rename_i ds
    cases hn : intsD ds with
    | none => rw [hn] at hf; cases hf
    | some ns =>
      rw [hn] at hf
      cases hf
      obtain ⟨a, vs, rfl, hr, hq⟩ := hv
      rw [intsD_eq hn] at hq
      have hv := hq.ofInts
      subst hv
      exact .inl ⟨a, ns, rfl, .inl hr, k.flat e (.int _)⟩
  · rename_i ds
    cases hn : intsD ds with
    | none => rw [hn] at hf; cases hf
    | some ns =>
      rw [hn] at hf
      cases hf
      obtain ⟨a, vs, rfl, hr, hq⟩ := hv.tup e
      rw [intsD_eq hn] at hq
      have hv := hq.ofInts
      subst hv
      exact .inr ⟨a, ns, rfl, hr, k.flat e (.int _)⟩
  · cases hf) (fun t pt => pe_callB (cr_sumA C.calm) hg hm PyProof.Rows.boot_sum pt (he := he) (hpl := hpl)) ha
section
variable {X : Cx} {W : WX} {a b c e : Expr} {fa fb fc : dE} {pos : Pos} {es : List Expr} {gs : Env → Sto → R (List SV)}
/-- + of anything: ints, texts, tuples, lists -/
def oAddA : D → D → Option D := fun p q => (oAdd p q).or (oCat p q)
theorem se_addA (ha : SE X W a fa) (hb : SE X W b fb) : SE X W (.BinOp a .Add b pos) (dOp2 oAddA fa fb) := se_bin (op_addU.or op_catR) (opD_addU.or opF_cat.d) ha hb
def oMulA : D → D → Option D := fun p q => (oMulI p q).or (oRep p q)
theorem se_mulA (ha : SE X W a fa) (hb : SE X W b fb) : SE X W (.BinOp a .Mult b pos) (dOp2 oMulA fa fb) := se_bin (op_mulAny.or op_repR) ((opD_I fun _ _ => cMul_ok).or opF_rep.d) ha hb
/-- [*xs, ..] -/
def aStar (f : dE) (g : Env → Sto → R (List SV)) : Env → Sto → R (List SV) := fun ρ st => (f ρ st).bind fun x st1 => match x with
  | .d (.list xs) => (g ρ st1).bind fun ys st2 => .ok (xs.map .d ++ ys) st2
  | .d (.tuple xs) => (g ρ st1).bind fun ys st2 => .ok (xs.map .d ++ ys) st2
  | _ => .bad
theorem srpL_d {K : PySem.W.Frag} {F : Hp} {bs : List Addr} : ∀ {vs : List V} {ds : List D}, RpL K F vs ds → SRpL K F bs vs (ds.map .d)
  | [], _, .nil => .nil
  | _ :: _, _, .cons h t => .cons h (srpL_d t)
theorem srpL_app {K : PySem.W.Frag} {F : Hp} {bs : List Addr} : ∀ {vs ws : List V} {rs ss : List SV}, SRpL K F bs vs rs → SRpL K F bs ws ss → SRpL K F bs (vs ++ ws) (rs ++ ss)
  | _, _, _, _, .nil, h => h
  | _, _, _, _, .cons h t, k => .cons h (srpL_app t k)
theorem sa_star {p : Pos} (ha : SE X W a fa) (hr : SA X W es gs) (hs : starEach (.Starred a p :: es) X.env = (true, eval a X.env) :: starEach es X.env := by rfl) : SA X W (.Starred a p :: es) (aStar fa gs) := by
  obtain ⟨ta, pa, ka⟩ := ha
  obtain ⟨tr, pr, kr⟩ := hr
  refine ⟨_, StX.pa_star pa pr hs, fun ρ st F bs σ H Q b e h => ?_⟩
  refine ka ρ st F bs σ H _ b e (Ok.bind h fun x r1 st1 F1 H1 _ s1 b1 q1 h => ?_)
  split at h
  · cases (show Rp X.K F1 x (.list _) from q1) with
    | lst h1 h2 =>
      refine ⟨_, _, rfl, .inr (.inl (same_rd b1.ex h1)), kr ρ st1 F1 bs σ H1 _ b1 (e.mono s1.ex) (Ok.bind h fun y r2 st2 F2 H2 _ s2 b2 q2 h => ?_)⟩
      exact h.ret b2 (srpL_app (srpL_d (h2.mono s2.ex)) q2)
  · cases (show Rp X.K F1 x (.tuple _) from q1) with
    | tup h1 h2 =>
      refine ⟨_, _, rfl, .inl (same_t b1.ex h1), kr ρ st1 F1 bs σ H1 _ b1 (e.mono s1.ex) (Ok.bind h fun y r2 st2 F2 H2 _ s2 b2 q2 h => ?_)⟩
      exact h.ret b2 (srpL_app (srpL_d (h2.mono s2.ex)) q2)
  · exact h.elim
/-! raise X('m') -/
structure ExcK (K : PySem.W.Frag) (mg : Str → Option Value) (c : Str) : Prop where
  i : PySem.W.excIn K (He.ga K c) He.veBase "ValueError.__new__" = true
  g : mg c = some (.ref (He.ga K c))
  k : PySem.W.keepIn K (.ref (He.ga K c)) = true
  s : PySem.W.subIn K (.ref (He.ga K c)) (.type "BaseException") = some true
  t : PySem.W.typeIn K (.ref (He.ga K c)) = some (.type "type")
theorem ss_raiseX {x m : Str} {j : Nat} {p p2 p3 pos : Pos} {k : Nat} (C : Cfg X W k) (E : ExcK X.K X.mg x) (hg : Gl X x := by rfl) (hdb : (x == ("__debug__" : Str)) = false := by decide) : SS X W (.Raise (some (.Call (.Name x p) [.Constant (.str m) j p2] [] p3)) none pos) (dRaise x) :=
  ss_raise C (L2N.pmk_own PySem.F.excBase_ValueError E.i E.g E.k (raises_own E.s E.t) hg hdb)
/-! [f, g, ..][i](args) -/
inductive SelN (X : Cx) (k n : Nat) : List Expr → List Den → Prop
  | nil : SelN X k n [] []
  | cons {x : Str} {p : Pos} {es : List Expr} {den : Den} {dens : List Den} {j : Nat} (F : Fn X.prog X.w X.K X.mg X.base j x n den) (hj : j ≤ k) (hg : Gl X x) (hd : (x == ("__debug__" : Str)) = false) (hs : starEach (.Name x p :: es) X.env = (false, eval (.Name x p) X.env) :: starEach es X.env) (r : SelN X k n es dens) : SelN X k n (.Name x p :: es) (den :: dens)
def FnAt (X : Cx) (k n : Nat) (f : Addr) (den : Den) : Prop := ∃ fd ps, FnOk X.prog X.w X.K X.mg X.base (L2N.CX X.prog X.w) k f fd ps (spB X.K n den) ∧ Binds X.K fd ps [] ∧ PySem.W.keepIn X.K (.ref f) = true
theorem SelN.pa {k n : Nat} {es : List Expr} {dens : List Den} (h : SelN X k n es dens) : ∃ fs : List Addr, Paired (FnAt X k n) fs dens ∧ ∃ t, PA X es t ∧ ∀ σ H (Q : List V → Hp → Prop), Q (fs.map V.ref) H → t σ H Q := by
  induction h with
  | nil => exact ⟨[], .nil, _, pa_nil, fun σ H Q q => q⟩
  | cons F hj hg hd hs r ih =>
    obtain ⟨fs, pf, t, pt, kt⟩ := ih
    obtain ⟨f, fd, ps, F, hb, hk, hm⟩ := F
    exact ⟨f :: fs, .cons ⟨fd, ps, F.mono hj, hb, hk⟩ pf, _, pa_cons (pe_glob hg hm (v := .ref f) rfl hd) pt hs, fun σ H Q q => kt σ H _ q⟩
theorem paired_at {α β : Type} {R : α → β → Prop} : ∀ {xs : List α} {ys : List β} {i : Nat} {y : β}, Paired R xs ys → ys[i]? = some y → ∃ x, xs[i]? = some x ∧ R x y
  | _, _, _, _, .nil, h => by simp at h
  | _, _, 0, _, .cons h _, e => by simp at e; subst e; exact ⟨_, rfl, h⟩
  | _, _, i + 1, y, .cons _ t, e => by
    obtain ⟨x, h1, h2⟩ := paired_at (i := i) (y := y) t (by simpa using e)
    exact ⟨x, by simpa using h1, h2⟩
theorem paired_len {α β : Type} {R : α → β → Prop} : ∀ {xs : List α} {ys : List β}, Paired R xs ys → xs.length = ys.length
  | _, _, .nil => rfl
  | _, _, .cons _ t => congrArg (· + 1) (paired_len t)
def dSel (n : Nat) (dens : List Den) (fi : dE) (g : Env → Sto → R (List SV)) : dE := fun ρ st => (fi ρ st).bind fun ix st1 => match ix with
  | .d (.int j) => (match atI dens j with
    | some den => (g ρ st1).bind fun rs st2 => callP n den rs st2
    | none => .bad)
  | _ => .bad
theorem pe_callV {to : TE} {t : TA} {k n : Nat} {p2 : Pos} {o i e : Expr} {as : List Expr} (tk : L2N.Takes X W) (hr : Room k X.A) (ho : PE X (.Subscript o i p2) to) (ha : PA X (e :: as) t) (he : starEach (e :: as) X.env = (false, eval e X.env) :: starEach as X.env) (hpl : (backTo pos (starEach as X.env)).any (·.1) = false) :
    PE X (.Call (.Subscript o i p2) (e :: as) [] pos) (fun σ H Q => to σ H fun v H1 => ∃ f den, v = .ref f ∧ FnAt X k n f den ∧ t σ H1 fun vs H2 => spB X.K n den vs H2 Q (WE W σ)) := by
  refine ⟨fun pins s σ H Q I h => ?_⟩
  have arm : eval (.Call (.Subscript o i p2) (e :: as) [] pos) X.env = (do callWith pos (← eval (.Subscript o i p2) X.env) [] (backTo pos (starEach (e :: as) X.env)) (backToKw pos (keywordEach [] X.env))) := rfl
  rw [arm]
  refine wpAny_bind (thn (ho.run pins s σ H _ I h) fun u s1 ⟨v, H1, I1, r1, f, den, ev, hf, q⟩ => ?_)
  subst ev
  cases r1
  obtain ⟨fd, ps, F, hb, hk⟩ := hf
  refine PySem.W.callWith_K (h₀ := X.base) I.ok.mod.kin hk (thn (ha.run pos pins s1 σ H1 _ I1 q) fun us s2 ⟨vs, H2, I2, r, q⟩ => ⟨I2.kIn, ?_⟩) he hpl
  exact run_fnS F hr hb (L2N.passAt tk σ) I2 r q
theorem se_sel {k n : Nat} {dens : List Den} {fi : dE} {p1 p2 : Pos} {ie e : Expr} {as : List Expr} (C : Cfg X W k) (hS : SelN X k n es dens) (hl : es.length ≤ lim) (hi : SE X W ie fi) (ha : SA X W (e :: as) gs) (hix : PlainIx ie := by exact fun _ _ => rfl) (he : starEach (e :: as) X.env = (false, eval e X.env) :: starEach as X.env := by rfl) (hpl : (backTo pos (starEach as X.env)).any (·.1) = false := by rfl) :
    SE X W (.Call (.Subscript (.List es p1) ie p2) (e :: as) [] pos) (dSel n dens fi gs) := by
  obtain ⟨fs, hf, tl, pl, kl⟩ := hS.pa
  obtain ⟨ti, pi, ki⟩ := hi
  obtain ⟨ta, pa, ka⟩ := ha
  have hel : fs.length ≤ sizeLine := by
    have : es.length = fs.length := by
      rw [paired_len hf]
      clear pl hf kl
      induction hS with
      | nil => rfl
      | cons _ _ _ _ _ _ ih => simp [ih (by simp at hl; omega)]
    rw [← this]; exact Nat.le_trans hl lim_line
  refine ⟨_, pe_callV (n := n) C.tk C.hr (pe_ix ix_list (pe_lst pl) pi hix) pa he hpl, fun ρ st F bs σ H Q b e h => ?_⟩
  refine kl σ H _ ⟨by rw [List.length_map]; exact hel, fun p hp => ?_⟩
  have g0 : Gro F H F (upd H p (.lst (fs.map V.ref))) := ⟨Same.refl _, fun _ h => .inl h, (gro_new (o := .lst (fs.map V.ref)) b.ex hp).keep, fun c u z => by rw [upd_ne (ne_of_none z (same_none b.ex hp))]; exact b.ex c u z⟩
  have b0 := b.gro g0
  have hpb : p ∉ bs := fun z => b.there z hp
  have h0 : Ok X.K W σ F (upd H p (.lst (fs.map V.ref))) bs (relE X.K bs) Q (dSel n dens fi gs ρ st) := Ok.step (g0.stp bs) h
  refine ki ρ st F bs σ _ _ b0 e (Ok.bind h0 fun x r1 st1 F1 H1 _ s1 b1 q1 h => ?_)
  split at h
  · rename_i j _
    cases (show Rp X.K F1 x (.int j) from q1)
    split at h
    · rename_i den hd
      have hd' : (ixN dens.length j).bind (fun i => dens[i]?) = some den := hd
      cases hix : ixN dens.length j with
      | none => rw [hix] at hd'; cases hd'
      | some i =>
        rw [hix] at hd'
        obtain ⟨f, hfi, hfa⟩ := paired_at hf hd'
        refine ⟨p, fs.map V.ref, j, .ref f, rfl, rfl, .inl (.of (s1.keep _ _ upd_same hpb)), ?_, f, den, rfl, hfa, ?_⟩
        · show (ixN (fs.map V.ref).length j).bind (fun i => (fs.map V.ref)[i]?) = some (.ref f)
          rw [List.length_map, paired_len hf, hix]
          show (fs.map V.ref)[i]? = some (.ref f)
          rw [List.getElem?_map, hfi]; rfl
        · exact ka ρ st1 F1 bs σ H1 _ b1 (e.mono s1.ex) (Ok.bind h fun y r2 st2 F2 H2 _ s2 b2 q2 h => callP_sp b2 q2 h)
    · exact h.elim
  · exact h.elim
end
end CB
end
section
set_option Elab.async false
set_option linter.all false
set_option autoImplicit false
set_option maxRecDepth 100000
set_option maxHeartbeats 4000000
/-! within an except suite: a list's end, sum, a comprehension over a range, a call that is handed the exception -/
namespace CH
open PySem PySem.Spec PyProof.Rows L2 L2H HotX
section
variable {prog : Program} {w : World} {A : Around} {E : Value → Shared → Prop} {s : Shared}
theorem pyNext_list_end_hot {it l x1 : Addr} {i : Nat} {items} {Q : Option Value → Shared → Prop} (hot : HotAt A x1 s.heap) (hne : x1 ≠ it)
    (hit : s.heap.IsListIter it l i) (hl : s.heap.IsList l items) (hx : items[i]? = none)
    (hQ : ∀ h', (∀ b o, b ≠ it → s.heap.get? b = some o → h'.get? b = some o) → Q none { s with heap := h' }) : wpAny (model prog w) A (pyNext (.ref it)) Q E s := by
  obtain ⟨o, ho, hc, hd⟩ := id hit
  obtain ⟨ol, hol, _, nl, hdl⟩ := hl
  obtain ⟨hh, o1, vs1, h1, d1, c1⟩ := hot
  unfold pyNext
  refine wpAny_bind (wpAny_attempt (wpAny_callSpecial?_slot (name := Str.ofString "__next__") hit.typeIs slot_listiter_next
    (wpAny_call_entry slot_listiter_next hit.typeIs entry_listiter_next ?_ (args_listiter_next _))))
  show wpAny _ _ (field (.ref it) 0 >>= _) _ _ s
  refine wpAny_bind (wpAny_field ho hd (x := .ref l) rfl ?_)
  show wpAny _ _ (if (Value.ref l == Value.none) = true then _ else _) _ _ s
  rw [if_neg (show ¬ ((Value.ref l == Value.none) = true) from Bool.false_ne_true)]
  show wpAny _ _ (field (.ref it) 1 >>= _) _ _ s
  refine wpAny_bind (wpAny_field ho hd (x := .int i 0) rfl ?_)
  show wpAny _ _ (seqItems? (.ref l) >>= _) _ _ s
  refine wpAny_bind (wpAny_seqItems hol hdl ?_)
  simp only [Int.toNat_natCast, hx]
  refine wpAny_bind (wpAny_rule (wpAny_bind (wpAny_setField ho hd (by simp) ?_)))
  show wpAny _ _ (newExc (.type "StopIteration") [] >>= _) _ _ _
  refine wpAny_bind ?_
  simp only [newExc, newTuple]
  refine wpAny_bind (wpAny_newObj_type ?_ (by size_fits))
  refine wpAny_bind (m := firstArgMember _ _) (wpAny_of_eq (a := Value.none) (by first | rfl | (simp only [firstArgMember]; rfl)) ?_)
  refine wpAny_newObj_type ?_ (by size_fits)
  have g1 : (s.heap.update it (Obj.mapFields (·.setIfInBounds 0 .none))).get? x1 = some o1 := (Heap.get?_update_other _ _ (Ne.symm hne)).trans h1
  refine raiseNew_hot ⟨hh, o1, vs1, Heap.get?_push_of_some _ (Heap.get?_push_of_some _ g1), d1, c1⟩ (Nat.ne_of_lt (Heap.lt_size (Heap.get?_push_of_some _ g1))) (Heap.get?_push_size _ rfl) rfl (by first | (simp; done) | (simp; omega) | (simp only [Array.size_append]; simp; omega)) ?_
  refine wpAny_bind (wpAny_isInstance (T := "StopIteration") (b := true) ⟨_, Heap.get?_update_self _ (Heap.get?_push_size _ rfl) rfl, rfl⟩ isSubtype_stop ?_)
  refine wpAny_pure (hQ _ fun b o hb e => ?_)
  have g2 : (s.heap.update it (Obj.mapFields (·.setIfInBounds 0 .none))).get? b = some o := (Heap.get?_update_other _ _ (Ne.symm hb)).trans e
  rw [Heap.get?_update_other _ _ (Nat.ne_of_gt (Heap.lt_size (Heap.get?_push_of_some _ g2)))]
  exact Heap.get?_push_of_some _ (Heap.get?_push_of_some _ g2)
theorem walks_listH {o1 : Obj} {vs1 : Array Value} {x1 : Addr} (hh : A.handled = some (.ref x1)) (d1 : o1.data = .fields vs1) (c1 : vs1[2]? = some .none) (I ax : Addr) (hne : ax ≠ I) (hx : x1 ≠ I) (items : Array Value) :
    Walks prog w A I [I, ax, x1] [I] items.size (fun i v => items[i]? = some v) (fun i h => h.IsListIter I ax i ∧ h.IsList ax items ∧ h.get? x1 = some o1) where
  sub := fun b hb => by simp at hb; simp [hb]
  frame := fun _ _ _ st hk => ⟨st.1.at fun o e => hk I (by simp) o e, st.2.1.at fun o e => hk ax (by simp) o e, hk x1 (by simp) _ st.2.2⟩
  item := fun i s Q E hi st hQ => by
    refine wpAny_pyNext_list_item st.1 st.2.1 (x := items[i]) (by simp [hi]) fun h' hit' hs' => ?_
    exact hQ _ h' s.toks (by simp [hi]) ⟨hit', st.2.1.extBut hs'.extBut hne, hs'.extBut x1 _ hx st.2.2⟩ fun b o hb e => hs'.extBut b o (fun h => hb (by simp [h])) e
  done := fun s Q E st hQ => pyNext_list_end_hot ⟨hh, o1, vs1, st.2.2, d1, c1⟩ hx st.1 st.2.1 (by simp) fun h' he' => hQ h' s.toks fun b o hb e => he' b o (fun h => hb (by simp [h])) e
  self := fun _ _ _ _ st hQ => wpAny_pyIter_listiter st.1 hQ
theorem sum_rawH {l x1 : Addr} {o1 : Obj} {vs1 : Array Value} {its : List Value} {ns : List Int} {Q : Value → Shared → Prop} (hh : A.handled = some (.ref x1)) (h1 : s.heap.get? x1 = some o1) (d1 : o1.data = .fields vs1) (c1 : vs1[2]? = some .none) (hl : s.heap.IsList l its.toArray) (hi : IntsAre its ns)
    (h : ∀ h' tk t', (∀ b o, s.heap.get? b = some o → h'.get? b = some o) → Q (.int ns.sum t') { s with heap := h', toks := tk }) : wpAny (model prog w) A (call (.builtin "sum") [.ref l]) Q E s := by
  obtain ⟨xs, e⟩ := hi.allInts.items
  have hn : numsOf (intItems xs).toList = ns := by rw [← e]; exact hi.numsOf
  rw [nums_intItems] at hn
  rw [e] at hl
  refine call_sum_walkG (iter_intList hl fun s₂ e st hfp hlI => ?_)
  subst e
  have hlt := Heap.lt_size h1
  refine ⟨_, _, _, _, _, _, numAt xs, rfl, walks_listH (A := A.in1) hh d1 c1 _ l hlI (Nat.ne_of_lt hlt) (intItems xs), ⟨st.1, st.2, Heap.get?_push_of_some _ h1⟩, fun b hb => ?_, (fun _ _ => intItems_at), fun h' tk t' hk => ?_⟩
  · rcases List.mem_cons.mp hb with e | hb
    · exact hfp b (by simp [e])
    · rcases List.mem_cons.mp hb with e | hb
      · exact hfp b (by simp [e])
      · rw [List.mem_singleton.mp hb]
        show x1 < (s.heap.push _).objs.size
        rw [Heap.size_push]
        exact Nat.lt_succ_of_lt hlt
  · have := h h' tk t' (old_kept hk)
    have e2 : preSum (numAt xs) xs.size = ns.sum := by rw [preSum_eq, List.take_of_length_le (by simp), hn]
    rw [← e2] at this
    simpa [intItems] using this
end
section
variable {X : Cx} {p : Addr × Obj}
/-- what is known of the handled exception -/
structure HotP (X : Cx) (p : Addr × Obj) : Prop where
  hot : Hot1 X.A p
  mem : p ∈ X.pn
theorem HotP.at (c : HotP X p) {pins : List (Addr × Obj)} {σ : L2.St} {H : Hp} {s : Shared} (I : Inv X pins σ H s) : ∃ vs : Array Value, X.A.handled = some (.ref p.1) ∧ s.heap.get? p.1 = some p.2 ∧ p.2.data = .fields vs ∧ vs[2]? = some .none := by
  obtain ⟨⟨hh, v1, e1, c1⟩, hp⟩ := c
  exact ⟨v1, hh, (I.pin p (List.mem_append_left _ hp)).1, e1, c1⟩
theorem cr_sumH (c : HotP X p) : CallR X (.builtin "sum") (rSum X.K) := by
  intro pins s σ H vs us Q I r h
  obtain ⟨a, ns, rfl, hs, q⟩ := h
  obtain ⟨its, rv, hl, _⟩ := I.list hs
  rw [Vals.ref1 r]
  obtain ⟨v1, hh, h1, d1, c1⟩ := c.at I
  exact sum_rawH hh h1 d1 c1 hl.isList rv.ints fun h' tk t' hk => ⟨.int _, H, I.kept hk, ⟨_, rfl⟩, q⟩
/-- isinstance(e, C), e the handled exception, C an own class -/
theorem call_isX {D : Addr} (hp : p ∈ X.pn) (C : ExcC X.K D) (hz : Zc (.ref D) none p.2) (hf : ∃ vs, p.2.data = .fields vs) : CallR X (.builtin "isinstance") (rIsE X.K D p.1) := by
  intro pins s σ H xs us Q I r h
  obtain ⟨c, cv, b, rfl, hcv, e, q⟩ := h
  cases r with
  | cons rx rr =>
    cases rr with
    | cons rt rr =>
      cases rr
      cases rx
      have ec := hcv _ rt
      subst ec
      obtain ⟨hget, _⟩ := I.pin p (List.mem_append_left _ hp)
      obtain ⟨vs, hv⟩ := hf
      have J : PySem.W.InstAt s.heap p.1 p.2 D none := by
        obtain ⟨pa, oc, od, oda, osl⟩ := p
        obtain ⟨h1, h2⟩ := hz
        dsimp only at h1 h2 hv
        subst h1 h2 hv
        exact ⟨hget, rfl, rfl, trivial⟩
      exact PySem.W.kia_one (PySem.W.handS_kitx_exc C.hg C.hk C.hs C.hd C.ha C.hn C.ht C.hm) I.kIn J e (fun z => nomatch z) fun tk => ⟨.bl b, H, I.kept (t' := tk) fun _ _ z => z, rfl, q⟩
end

/-! ### [elt for y in range(e)] -/
def tLcH (ta : TA) (te : TE) (iy : Nat) : TE := fun σ H Q => ta σ H fun vs H1 => ∃ j : Int, vs = [.int j] ∧ -(2 ^ 62) ≤ j ∧ j < 2 ^ 62 ∧ ∀ D, H1 D = none → ∃ W : Nat → Hp → Prop, W 0 (upd H1 D (.lst [])) ∧ ∀ (i : Nat) H, W i H →
  (j.toNat ≤ i ∧ Q (.ref D) H) ∨ (i < j.toNat ∧ te ((wipe σ [iy]).set iy (some (.int i))) H fun y H4 => ∃ acc, H4 D = some (.lst acc) ∧ acc.length < sizeLine ∧ W (i + 1) (upd H4 D (.lst (acc ++ [y]))))
section
variable {X : Cx} {p : Addr × Obj}
theorem pe_lcH {elt a : Expr} {y : Str} {scope : Scope} {pos py pn pr : Pos} {ta : TA} {te : TE} {iy : Nat} (c : HotP X p) (hN : X.N.Nodup) (hg : Gl X "range") (hm : X.mg "range" = none) (ha : PA X [a] ta) (ok : BlkOk X.N X.env.scope scope [(y, iy)]) (hy : X.N[iy]? = some y) (hyl : scope.names.lookup y = some .local)
    (he : ∀ (s : Shared) (H : Hp) (C : Addr) (cl : List (Str × Addr)) (fp : List Addr), PE (X.blk s H scope (compEnvC scope cl C X.env) fp) elt te)
    (hgt : ∀ (s : Shared) (H : Hp) (C : Addr) (cl : List (Str × Addr)) (fp : List Addr), PG (X.blk s H scope (compEnvC scope cl C X.env) fp) (.Name y py) (gName iy))
    (hsa : starEach [a] X.env = [(false, eval a X.env)] := by rfl) (hs : ∀ x, foldedSetIterable (.Call (.Name "range" pn) [a] [] pr) X.env x = pure x := by intro _; rfl) :
    PE X (.ListComp elt [⟨.Name y py, .Call (.Name "range" pn) [a] [] pr, [], 0⟩] scope pos) (tLcH ta te iy) := by
  refine ⟨fun pins s σ H Q I h => ?_⟩
  rw [eval_ListComp]
  have hfree : ∀ z ∈ scope.names, z.2 = .free → ∃ c, X.env.cells.lookup z.1 = some c := fun z hz e => by
    rcases ok.free z hz e with k | k
    · exact I.ok.has _ (.inl k)
    · exact I.ok.has _ (.inr k)
  refine wpAny_comprehension_free (use := none) rfl hs (closure_ok hfree) ok.kind (fun z hz e => by rw [ok.uniq z hz, e])
    (Call_ (ld_blt I hg hm boot_range (PyProof.Rows.callWith_type1 (thn (ha.run pr pins s σ H _ I h) fun us s1 ⟨vs, H1, I1, r1, q1⟩ => ?_) hsa rfl)))
  obtain ⟨j, e, b1, b2, q⟩ := q1
  subst e
  cases r1 with
  | cons r rr =>
  cases rr
  obtain ⟨tk0, rfl⟩ := r
  have q : ∀ D, H1 D = none → ∃ W : Nat → Hp → Prop, W 0 (upd H1 D (.lst [])) ∧ ∀ (i : Nat) H, W i H →
    (j.toNat ≤ i ∧ Q (.ref D) H) ∨ (i < j.toNat ∧ te ((wipe σ [iy]).set iy (some (.int i))) H fun y H4 => ∃ acc, H4 D = some (.lst acc) ∧ acc.length < sizeLine ∧ W (i + 1) (upd H4 D (.lst (acc ++ [y])))) := q
  refine call_range_1 (wpAny_pyIter_range (IsRange.new ..) (small_one (by omega) (by omega) b1 b2) ?_)
  -- the iterator
  generalize hsz : Builtin.Range.rangeSize 0 j 1 = rs
  have hrs : rs = (j.toNat : Int) := by rw [← hsz, rangeSize_one]; split <;> omega
  subst hrs
  generalize hit0 : (s1.heap.push _).objs.size = it
  generalize hs2 : ({ s1 with heap := _, toks := _ } : Shared) = s2
  have I2 : Inv X pins σ H1 s2 := by
    rw [← hs2]
    exact I1.kept fun b o e => Heap.get?_push_of_some _ (Heap.get?_push_of_some _ e)
  have hit : IsRangeIter s2.heap it 0 (j.toNat : Int) 1 := by
    rw [← hs2, ← hit0]
    exact Heap.get?_push_size _ rfl
  have hitl : it < s2.heap.objs.size := Heap.lt_size hit
  have ft : FpOk X pins H1 it := by
    have hle : s1.heap.objs.size ≤ it := by rw [← hit0, Heap.size_push]; exact Nat.le_succ _
    exact I1.fpOk hle (I1.hok.fresh hle)
  refine wpAny_newObj_type (newEnv_comp ?_) (by show 0 ≤ sizeLine; decide)
  generalize hD : s2.heap.objs.size = D
  have hDn : H1 D = none := I2.hok.fresh (Nat.le_of_eq hD)
  obtain ⟨W, w0, turn⟩ := q D hDn
  generalize hs3 : ({ s2 with heap := s2.heap.push { cls := .type "list", data := .seq ([] : List Value).toArray } } : Shared) = s3
  have I3 : Inv X pins σ (upd H1 D (.lst [])) s3 := by
    rw [← hs3]
    refine I2.laid (t' := s2.toks) (fun b o e => Heap.get?_push_of_some _ e) (Nat.le_of_eq hD) ⟨Nat.zero_le _, [], 0, .nil, ?_⟩
    rw [← hD]
    exact Heap.get?_push_size _ rfl
  have h3 : s3.heap = s2.heap.push { cls := .type "list", data := .seq ([] : List Value).toArray } := by rw [← hs3]
  have hne : it ≠ D := by rw [← hD]; exact Nat.ne_of_lt hitl
  have f3 : ∀ b ∈ [it], FpOk X pins (upd H1 D (.lst [])) b ∧ b < s3.heap.objs.size := fun b hb => by
    rw [List.mem_singleton.mp hb]
    refine ⟨⟨?_, ft.2⟩, by rw [h3, Heap.size_push]; exact Nat.lt_succ_of_lt hitl⟩
    rw [upd_ne hne]
    exact ft.1
  have st3 : IsRangeIter s3.heap it 0 (j.toNat : Int) 1 := by
    rw [h3]
    exact Heap.get?_push_of_some _ hit
  have I4 := block_start I3 ok hN f3
  have pe := he s3 (upd H1 D (.lst [])) s3.heap.objs.size (cellsFrom (s3.heap.objs.size + 1) scope.names (cloFrom X.env.cells scope.names [])) [it]
  have pg := hgt s3 (upd H1 D (.lst [])) s3.heap.objs.size (cellsFrom (s3.heap.objs.size + 1) scope.names (cloFrom X.env.cells scope.names [])) [it]
  show codeAny _ _ (.compStart (.ListComp elt [⟨.Name y py, .Call (.Name "range" pn) [a] [] pr, [], 0⟩] scope pos) 0 (.ref it) (.ref D) (compEnvC scope (cellsFrom (s3.heap.objs.size + 1) scope.names (cloFrom X.env.cells scope.names [])) s3.heap.objs.size X.env)) (compPost (model X.prog X.w) X.A X.xe none (EP X pins σ Q) (.ref D) s3.heap.objs.size) { s3 with heap := pushCells (s3.heap.push { cls := .type "dict", data := .dict #[] }) scope.names }
  generalize hce : compEnvC scope (cellsFrom (s3.heap.objs.size + 1) scope.names (cloFrom X.env.cells scope.names [])) s3.heap.objs.size X.env = ce at I4 pe pg ⊢
  have cL : ce.locals = s3.heap.objs.size := by subst hce; rfl
  have n3 : (upd H1 D (.lst [])) it = none := (f3 it (by simp)).1.1
  generalize hH3 : upd H1 D (.lst []) = H3 at I3 I4 pe pg w0 f3 n3
  generalize hs4 : ({ s3 with heap := pushCells (s3.heap.push { cls := .type "dict", data := .dict #[] }) scope.names } : Shared) = s4 at I4 ⊢
  have st4 : IsRangeIter s4.heap it 0 (j.toNat : Int) 1 := by
    rw [← hs4]
    exact pushCells_keeps _ _ _ _ (Heap.get?_push_of_some _ st3)
  have back : ∀ {H' : Hp} {s' : Shared} {σ' : L2.St}, Inv (X.blk s3 H3 scope ce [it]) [] σ' H' s' → Inv X pins σ H' s' := fun {H' s' σ'} I' => I3.call' (ch := [it]) I'.os I'.base I'.hok I'.bare fun b hb => ⟨(f3 b hb).1.2.2.2.1, (f3 b hb).1.2.1, (f3 b hb).1.2.2.2.2.1, (f3 b hb).1.2.2.2.2.2⟩
  have stat : ∀ {σ' : L2.St} {H' : Hp} {s' : Shared}, Inv (X.blk s3 H3 scope ce [it]) [] σ' H' s' → H' it = none → ∀ b ∈ [it], FpOk (X.blk s3 H3 scope ce [it]) [] H' b := fun {σ' H' s'} I' hn b hb => by
    refine ⟨by rw [List.mem_singleton.mp hb]; exact hn, (I'.ok.exf b hb).1, I'.ok.exfs b hb, .inl hb, fun x c e => (I'.ok.exf b hb).2 x c e, fun p hp => absurd (show p ∈ ([] : List (Addr × Obj)) ++ [] from hp) (by simp)⟩
  have loop : codeAny (model X.prog X.w) X.A (.compLoop (.ListComp elt [⟨.Name y py, .Call (.Name "range" pn) [a] [] pr, [], 0⟩] scope pos) 0 (.ref it) (.ref D) ce) (compPost (model X.prog X.w) X.A X.xe none (EP X pins σ Q) (.ref D) s3.heap.objs.size) s4 := by
    refine compLoop_any (fun n s' => ∃ (i : Nat) (H' : Hp), Inv (X.blk s3 H3 scope ce [it]) [] (wipe σ [iy]) H' s' ∧ IsRangeIter s'.heap it (i : Int) ((j.toNat : Int) - (i : Nat)) 1 ∧ H' it = none ∧ n = j.toNat - i ∧ W i H') ?_ j.toNat ⟨0, H3, I4, by simpa using st4, n3, by simp, w0⟩
    rintro n s5 ⟨i, H5, I5, st5, n5, rfl, w5⟩
    obtain ⟨f0, f1, f2, f3', f4, f5⟩ := stat I5 n5 it (by simp)
    rcases turn i H5 w5 with ⟨stop, qq⟩ | ⟨go, step⟩
    · obtain ⟨v1, hh, h1, d1, c1⟩ := c.at (back I5)
      refine pyNext_range_end_hot ⟨hh, p.2, v1, h1, d1, c1⟩ st5 (by omega) fun h' eb => ?_
      have I6 : Inv (X.blk s3 H3 scope ce [it]) [] (wipe σ [iy]) H5 { s5 with heap := h' } := I5.turned (t' := s5.toks) (fun b o hb e => eb b o e) f0 f1 f3' f4 f5
      have I7 := back I6
      have nC : H5 s3.heap.objs.size = none := by
        have z : H5 ce.locals = none := I6.free
        rw [cL] at z
        exact z
      obtain ⟨m, hn, _⟩ := I6.loc
      have hn : ({ s5 with heap := h' } : Shared).heap.Ns ce.locals m := hn
      rw [cL] at hn
      refine ⟨m, hn, fun h'' sb => ?_⟩
      obtain ⟨g0, g1, g2, g3, g4, g5⟩ := I3.fpOk (H' := H5) (Nat.le_refl _) nC
      exact ⟨.ref D, H5, I7.turned (t' := s5.toks) (fun b o hb e => (sb.2 b hb).trans e) g0 g1 g3 g4 g5, rfl, qq⟩
    · refine wpAny_pyNext_range_item st5 (by omega) fun h' st' sb => ?_
      have I6 : Inv (X.blk s3 H3 scope ce [it]) [] (wipe σ [iy]) H5 { s5 with heap := h', toks := s5.toks + 1 } := I5.turned (fun b o hb e => (sb.2 b hb).trans e) f0 f1 f3' f4 f5
      refine go_of (s := { s5 with heap := h', toks := s5.toks + 1 }) (n := "range_iterator") st' rfl rfl (by decide) ?_
      have I6' := I6.pinned (stat I6 n5) (fun b hb => by
        rw [List.mem_singleton.mp hb]
        exact ⟨_, st', fun v z => by
          have z' : Data.fields _ = Data.cell v := z
          cases z'⟩)
      have I6'' := I6'
      refine thnF (pg.run _ _ _ H5 (.int i) _ (fun σ' H' => σ' = (wipe σ [iy]).set iy (some (.int i)) ∧ H' = H5) I6' ⟨_, rfl⟩ ⟨rfl, rfl⟩) fun _ s8 ⟨σ8, H8, I8, hq8⟩ => ?_
      obtain ⟨rfl, rfl⟩ := hq8
      refine wpAny_tests_nil ?_
      rw [if_pos rfl]
      refine thnF (pe.run _ s8 _ H8 _ I8 step) fun z s10 ⟨yv, H10, I10, r10, acc, hD10, hz10, nx⟩ => ?_
      refine app_ok (X := X.blk s3 H3 scope ce [it]) I10 hD10 hz10 r10 fun s11 I11 => ?_
      have pin' := fun o e => I11.pin (it, o) (List.mem_append_right _ (List.mem_append_right _ (mem_pinsAt (fp := [it]) (by simp) e)))
      have hl : (wipe σ [iy]).length = ((wipe σ [iy]).set iy (some (V.int i))).length := by rw [List.length_set]
      refine ⟨j.toNat - (i + 1), by omega, i + 1, _, (I11.unpinned (pins := [])).weak hl (fun k v e => ?_), ?_, (pin' _ st').2.1, rfl, nx⟩
      · by_cases hk : iy = k
        · subst hk
          have := (wipe_some e).2
          exact absurd (by simp) this
        · rw [List.getElem?_set_ne hk]; exact e
      · have h9 := (pin' _ st').1
        have e1 : ((i : Nat) : Int) + 1 = ((i + 1 : Nat) : Int) := by omega
        have e2 : (j.toNat : Int) - (((i : Nat) : Int) + 1) = (j.toNat : Int) - ((i : Nat) : Int) - 1 := by omega
        rw [← e1, e2]
        exact h9
  have self : ∀ (Q : Value → Shared → Prop) (E : Value → Shared → Prop), Q (.ref it) s4 → wpAny (model X.prog X.w) X.A (pyIter (.ref it)) Q E s4 := fun Q E h => wpAny_pyIter_rangeiter st4 h
  exact codeAny_compStart_list loop (self _ _ loop)
end
end CH
end
section
set_option Elab.async false
set_option linter.all false
set_option autoImplicit false
set_option maxRecDepth 100000
set_option maxHeartbeats 4000000
/-! a def that is handed the exception within the suite -/
namespace CH
open PySem PySem.Spec PyProof.Rows L2 L2H HotX
abbrev SpX := Addr × Obj → Sp
/-- what a def promises within a suite, of the handled exception too -/
structure FnX (P : Program) (w : World) (K : PySem.W.Frag) (mg : Str → Option Value) (base : Heap) (CX : CXT) (k : Nat) (f : Addr) (fd : FuncData) (ps : List Str) (sp : SpX) : Prop where
  len : ∀ p vs H Q E, sp p vs H Q E → vs.length = ps.length
  run : ∀ (A : Around) (outer : List PySem.Env) (s : Shared) (H : Hp) (args : Args) (us : List Value) (vs : List V) (Q : VK) (E : XK) (p : Addr × Obj), RoomH k A → Hot1 A p → PinOk outer H s p → Env0 P w K mg base A outer s H → BindsTo s fd args (ps.zip us) → Vals vs us → sp p vs H Q E →
    codeAny (model P w) A (.call (.ref f) args) (CR CX outer P w H s Q E) s
theorem fn_ofX {CX : CXT} {P : Program} {w : World} {K : PySem.W.Frag} {mg : Str → Option Value} {base : Heap} {k : Nat} {f : Addr} {fd : FuncData} {x qual : Str} {params : Arguments} {body : List Stmt} {scope : Scope} {kws : List (Str × V)} {dvs : List V} {N ps : List Str} {sp : SpX}
    (F : FunD K x qual params body scope dvs kws f fd) (S : FnScope N ps scope) (len : ∀ p vs H Q E, sp p vs H Q E → vs.length = ps.length)
    (hbody : ∀ (cdv : Value) (A : Around) (outer : List PySem.Env) (s : Shared) (H : Hp) (vs : List V) (Q : VK) (E : XK) (p : Addr × Obj), Hot1 A p → sp p vs H Q E →
      ∃ t, PSs (cxH CX P w K mg base N qual scope f cdv A outer s H E p) body t ∧ t { nx := fun _ H' => Q .non H', rt := Q } (L2.start N vs) H) :
    FnX P w K mg base CX (k + 1) f fd ps sp := by
  obtain ⟨oc, od, dV, kV, doc, pm, an, cdv, ct, osl, rfl, lk, hcd, _, _⟩ := F.ex
  refine ⟨len, fun A outer s H args us vs Q E p hr hot hpin e0 hb r hsp => ?_⟩
  have hl := len _ _ _ _ _ hsp
  have KX : K.In s.heap := e0.mod.kin.keeps fun b o e => (e0.bs b o e).1
  have lim : s.heap.NoLimit := e0.mod.nolimit.keeps fun b o e => (e0.bs b o e).1
  have kinds : ∀ y ∈ ps.zip us, scope.names.lookup y.1 = some .local ∨ (scope.names.lookup y.1 = some .cell ∧ ((cellsFrom (s.heap.objs.size + 1) scope.names []).lookup y.1).isSome = true) := by
    rintro ⟨n, v⟩ hy
    exact (S.par n (List.of_mem_zip hy).1).imp id fun q => ⟨q, PySem.W.cellsFrom_some _ _ _ (.inl q)⟩
  refine codeAny_call_function hr.depth (KX _ _ lk) rfl S.co S.gen rfl (PySem.W.codeRec_of KX hcd) (hb _ _ _ _ (wpAny_newFunctionEnv_cells S.kind kinds fun env he s1 x => ?_))
  subst he
  obtain ⟨t, ht, hq⟩ := hbody cdv A outer s H vs Q E p hot hsp
  refine ⟨lim.keeps x.toInCall.keep, codeAny_func (wpAny_mono (ht.run [] s1 (L2.start N vs) H _ (inv_startH S hpin e0 hl r x) hq) (fun fl s' hs => ?_) fun e s' hs => hs)⟩
  cases fl with
  | ret u =>
    obtain ⟨v, σ', H', J, rv, q⟩ := hs
    exact ⟨v, H', J.os, J.bare, J.base, J.hok, rv, q⟩
  | next =>
    obtain ⟨σ', H', J, q⟩ := hs
    exact ⟨.non, H', J.os, J.bare, J.base, J.hok, rfl, q⟩
  | brk => exact hs.choose_spec.choose_spec.2.elim
  | cont => exact hs.choose_spec.choose_spec.2.elim
section
variable {X : Cx} {CX : CXT} {k : Nat} {f : Addr} {fd : FuncData} {ps : List Str} {sp : SpX} {E : L2.St → XK} {x : Str} {q pos : Pos} {e : Expr} {es : List Expr} {t : TA} {p : Addr × Obj}
theorem pe_callX (F : FnX X.prog X.w X.K X.mg X.base CX k f fd ps sp) (hr : RoomH k X.A) (c : HotP X p) (hg : Gl X x) (hm : X.mg x = some (.ref f)) (hk : PySem.W.keepIn X.K (.ref f) = true) (hb : Binds X.K fd ps []) (hx : ∀ σ, PassesAt CX X σ (E σ))
    (ha : PA X (e :: es) t) (hdb : (x == ("__debug__" : Str)) = false := by decide) (he : starEach (e :: es) X.env = (false, eval e X.env) :: starEach es X.env := by rfl) (hpl : (backTo pos (starEach es X.env)).any (·.1) = false := by rfl) :
    PE X (.Call (.Name x q) (e :: es) [] pos) (tCallS (sp p) E t) := by
  refine ⟨fun pins s σ H Q I h => ?_⟩
  refine wpAny_Call_Name_kw (ld_glob I hg hm ?_ hdb)
  refine PySem.W.callWith_K (h₀ := X.base) I.ok.mod.kin hk (thn (ha.run pos pins s σ H _ I h) fun us s1 ⟨vs, H1, I1, r, q⟩ => ⟨I1.kIn, ?_⟩) he hpl
  have hl : us.length = ps.length := by rw [← r.length]; exact F.len _ _ _ _ _ q
  have b := hb s1 us I1.kIn (by rw [List.append_nil]; exact hl)
  rw [List.append_nil] at b
  have P1 := I1.pin p (List.mem_append_left _ c.mem)
  have hpin : PinOk X.stack H1 s1 p := ⟨P1.1, P1.2.1, fun hm => (List.mem_cons.mp (I1.stkSub p.1 hm)).elim P1.2.2.1 P1.2.2.2.1, P1.2.2.2.2⟩
  refine wpAny_call (codeAny_mono (F.run X.A X.stack s1 H1 ⟨us, []⟩ us vs Q (E σ) p hr c.hot hpin I1.env0 b r q) fun r s' hq => ?_)
  cases r with
  | error e => exact hx σ pins H1 s1 e s' I1 hq
  | ok fl =>
    cases fl with
    | ret u => exact I1.after hq
    | next => exact False.elim hq
    | brk => exact False.elim hq
    | cont => exact False.elim hq
end
end CH
end
section
set_option Elab.async false
set_option linter.all false
set_option autoImplicit false
set_option maxRecDepth 100000
set_option maxHeartbeats 4000000
/-! .. told over plain data -/
namespace CB
open PySem PySem.Spec PyProof.Rows L2 L2H CH
theorem R.bind_assoc {α β γ : Type} (x : R α) (f : α → Sto → R β) (g : β → Sto → R γ) : (x.bind f).bind g = x.bind fun a st => (f a st).bind g := by cases x <;> rfl
theorem rangeD_drop {n i : Nat} (h : i < n) : (rangeD 0 n).drop i = PyData.int i :: (rangeD 0 n).drop (i + 1) := by
  have hl : i < (rangeD 0 n).length := by simpa [rangeD] using h
  rw [List.drop_eq_getElem_cons hl]
  have := (rangeD_get (List.getElem?_eq_getElem hl)).2
  rw [this]
  simp
theorem rangeD_end (n : Nat) : (rangeD 0 n).drop n = [] := List.drop_eq_nil_of_le (by simp [rangeD])
section
variable {X : Cx} {W : WX} {p : Addr × Obj}
theorem sf_lcH {elt a : Expr} {y : Str} {scope : Scope} {pos py pn pr : Pos} {gs : Env → Sto → R (List SV)} {fe : dE} (iy : Nat) (c : HotP X p) (nd : X.N.Nodup) (hm : X.mg "range" = none) (ha : SA X W [a] gs) (ok : blkC X.N X.env.scope scope [(y, iy)] = true) (hy : X.N[iy]? = some y) (hyl : scope.names.lookup y = some .local)
    (hgt : ∀ (s : Shared) (H : Hp) (C : Addr) (cl : List (Str × Addr)) (fp : List Addr), PG (X.blk s H scope (compEnvC scope cl C X.env) fp) (.Name y py) (gName iy))
    (he : ∀ (s : Shared) (H : Hp) (D : Addr) (cl : List (Str × Addr)) (fp : List Addr), SE (X.blk s H scope (compEnvC scope cl D X.env) fp) W0 elt fe) (hg : Gl X "range" := by rfl)
    (hsa : starEach [a] X.env = [(false, eval a X.env)] := by rfl) (hs : ∀ x, foldedSetIterable (.Call (.Name "range" pn) [a] [] pr) X.env x = pure x := by intro _; rfl) :
    SF X W (.ListComp elt [⟨.Name y py, .Call (.Name "range" pn) [a] [] pr, [], 0⟩] scope pos) (dLC (iR1 gs) [iy] (gN iy) dYes fe) := by
  obtain ⟨ta, pa, ka⟩ := ha
  refine ⟨_, pe_lcH (te := canE X.K W0 fe) c nd hg hm pa (blkOk_by ok) hy hyl (fun s H D cl fp => (he s H D cl fp).can) hgt hsa hs, fun ρ st F bs σ H Q b e h => ?_⟩
  unfold dLC iR1 at h
  rw [R.bind_assoc] at h
  refine ka ρ st F bs σ H _ b e (Ok.bind h fun x r1 st1 F1 H1 _ s1 b1 q1 h => ?_)
  split at h
  · rename_i j _
    cases q1 with
    | cons q t =>
    cases t
    cases (show Rp X.K F1 _ (.int j) from q)
    split at h
    · rename_i hj
      refine ⟨j, rfl, by omega, by omega, fun D hD => ?_⟩
      simp only [R.bind_ok] at h
      have hb : D ∉ bs := fun z => b1.there z hD
      have hD0 : H D = none := s1.back hD
      have en1 : EnvR X.K F1 bs ρ σ := e.mono s1.ex
      refine ⟨fun i Hc => i ≤ j.toNat ∧ ∃ Fc stc acc ds, LcInv X.K F1 H1 bs D Fc Hc stc acc ds ∧ Ok X.K W σ F1 H1 bs (relF X.K H) Q (lcLoop (fun _ => true) (gN iy) (wipeE ρ [iy]) dYes fe ((rangeD 0 j.toNat).drop i) ds stc), ⟨Nat.zero_le _, F1, st1, [], [], ⟨stp_out (Stp.refl _ _ _) hD, upd_box b1 (same_none b1.ex hD) hb, upd_same, same_none b1.ex hD, .nil⟩, by simpa using h⟩, ?_⟩
      rintro i Hc ⟨hi, Fc, stc, acc, ds, L, ok1⟩
      by_cases hlt : i < j.toNat
      · refine .inr ⟨hlt, ?_⟩
        rw [rangeD_drop hlt] at ok1
        unfold lcLoop at ok1
        rw [if_pos rfl] at ok1
        refine ⟨(wipeE ρ [iy]).set iy (some (.d (.int i))), stc, Fc, bs, L.rep, ((en1.mono L.stp.ex).wipe [iy]).set iy (r := .d (.int i)) (Rp.int _), ?_⟩
        have ok2 : Ok X.K W σ F1 H1 bs (relF X.K H) Q ((fe ((wipeE ρ [iy]).set iy (some (.d (.int i)))) stc).noEx.bind fun y st2 => match y with
          | .d p => if ds.length < lim then lcLoop (fun _ => true) (gN iy) (wipeE ρ [iy]) dYes fe ((rangeD 0 j.toNat).drop (i + 1)) (ds ++ [p]) st2 else .bad
          | .box _ => .bad) := ok1
        refine Ok.bindN ok2 fun yv yr st4 F4 H4 _ s4 b4 q4 ok3 => ?_
        have L4 := L.step hb s4 b4
        cases yr with
        | box j => exact (show False from ok3).elim
        | d p =>
          simp only at ok3
          split at ok3
          · rename_i hl
            refine ⟨acc, L4.at_, ?_, hlt, F4, st4, _, _, L4.add hb hD q4, ok3⟩
            rw [L4.rp.length]
            exact Nat.lt_of_lt_of_le hl lim_line
          · exact (show False from ok3).elim
      · have ei : i = j.toNat := by omega
        subst ei
        rw [rangeD_end] at ok1
        unfold lcLoop at ok1
        rw [if_pos rfl] at ok1
        exact .inl ⟨Nat.le_refl _, ok1 (.ref D) Fc Hc L.stp L.rep ⟨D, rfl, hD0, L.fr, ⟨acc, L.at_, L.rp⟩⟩⟩
    · exact h.elim
  · exact h.elim
theorem se_sumH {es : List Expr} {a : Expr} {gs : Env → Sto → R (List SV)} {q pos : Pos} (c : HotP X p) (hm : X.mg "sum" = none) (ha : SA X W (a :: es) gs) (hg : Gl X "sum" := by rfl) (he : starEach (a :: es) X.env = (false, eval a X.env) :: starEach es X.env := by rfl) (hpl : (backTo pos (starEach es X.env)).any (·.1) = false := by rfl) :
    SE X W (.Call (.Name "sum" q) (a :: es) [] pos) (dCal (g1 fSum) gs) := se_cal (calD1 fun F H x p z Q e hv hf k => by
  unfold fSum at hf
  split at hf
  · rename_i ds
    cases hn : intsD ds with
    | none => rw [hn] at hf; cases hf
    | some ns =>
      rw [hn] at hf
      cases hf
      obtain ⟨a, vs, rfl, hr, hq⟩ := hv
      rw [intsD_eq hn] at hq
      have hv := hq.ofInts
      subst hv
      exact ⟨a, ns, rfl, .inl hr, k.flat e (.int _)⟩
  · cases hf) (fun t pt => pe_callB (cr_sumH c) hg hm PyProof.Rows.boot_sum pt (he := he) (hpl := hpl)) ha
/-- isinstance(error, C) within the def -/
theorem kind_pe {D C' : Addr} {c' : Str} {p1 p2 p3 p4 : Pos} (hp : p ∈ X.pn) (C : ExcC X.K D) (hz : Zc (.ref D) none p.2) (hf : ∃ vs, p.2.data = .fields vs) (hm : X.mg "isinstance" = none) (gc : X.mg c' = some (.ref C')) (hN : X.N[0]? = some ("error" : Str) := by rfl) (hv : Vis X.env.scope "error" := by first | exact Or.inl rfl | exact Or.inr (Or.inl rfl) | exact Or.inr (Or.inr rfl))
    (hg : Gl X "isinstance" := by rfl) (hgc : Gl X c' := by rfl) (hd : (c' == ("__debug__" : Str)) = false := by decide)
    (he1 : starEach [.Name "error" p2, .Name c' p3] X.env = (false, eval (.Name "error" p2) X.env) :: starEach [.Name c' p3] X.env := by rfl) (he2 : starEach [.Name c' p3] X.env = (false, eval (.Name c' p3) X.env) :: starEach [] X.env := by rfl) (hpl : (backTo p4 (starEach [.Name c' p3] X.env)).any (·.1) = false := by rfl) :
    PE X (.Call (.Name "isinstance" p1) [.Name "error" p2, .Name c' p3] [] p4) (tCB (rIsE X.K D p.1) (tCons (tVar 0) (tCons (tC (.ref C')) tNil))) :=
  pe_callB (call_isX hp C hz hf) hg hm PyProof.Rows.boot_isinstance (pa_cons (pe_var (i := 0) hN hv) (pa_cons (pe_glob hgc gc (v := .ref C') rfl hd) pa_nil he2) he1) (he := he1) (hpl := hpl)
theorem kind_sem {K : PySem.W.Frag} {D C' : Addr} {a : Addr} {b : Bool} {σ : L2.St} {H : Hp} {Q : VK} (hσ : σ[0]? = some (some (.ref a))) (hk : PySem.W.kitOne K (.ref D) (.ref C') = some b) (q : Q (.bl b) H) : tCB (rIsE K D a) (tCons (tVar 0) (tCons (tC (.ref C')) tNil)) σ H Q :=
  ⟨.ref a, hσ, .ref C', .ref C', b, rfl, (fun u r => r), hk, q⟩
end
end CB
namespace CB
open PySem PySem.Spec PyProof.Rows L2 L2H CH
/-! the promise of such a def; the try statement that hands it its exception -/
def spK (K : PySem.W.Frag) (kd : List (Str × Str)) : SpX := fun p vs H Q _ => ∃ c m vs0 F, vs = [V.ref p.1] ∧ Zc (.ref (He.ga K c)) none p.2 ∧ p.2.data = .fields vs0 ∧ kd.lookup c = some m ∧ Same F H ∧ ∀ F' H', Gro F H F' H' → Q (.str m) H'
/-- the name x holds such a def -/
def FnK (P : Program) (w : World) (K : PySem.W.Frag) (mg : Str → Option Value) (base : Heap) (k : Nat) (x : Str) (kd : List (Str × Str)) : Prop :=
  ∃ (f : Addr) (fd : FuncData) (ps : List Str), FnX P w K mg base (L2N.CX P w) k f fd ps (spK K kd) ∧ Binds K fd ps [] ∧ PySem.W.keepIn K (.ref f) = true ∧ mg x = some (.ref f)
def canS (K : PySem.W.Frag) (W : WX) (f : dS) : TS := fun D σ H => ∃ ρ st F bs, RepB K F bs st H ∧ EnvR K F bs ρ σ ∧ OkS K W F H bs D (f ρ st)
theorem SSs.can {X : Cx} {W : WX} {ss : List Stmt} {f : dS} (h : SSs X W ss f) : PSs X ss (canS X.K W f) := by
  obtain ⟨t, p, k⟩ := h
  exact ⟨fun pins s σ H D I ⟨ρ, st, F, bs, b, en, o⟩ => p.run pins s σ H D I (k ρ st F bs σ H D b en o)⟩
def dTryK (kd : List (Str × Str)) (i : Nat) (f : dS) : dS := fun ρ st => match f ρ st with
  | .ex c .none ρ1 st1 => (match kd.lookup c with
    | some m => if i < ρ1.length then .rt (.d (.str m)) st1 else .bad
    | none => .bad)
  | .ex _ _ _ _ => .bad
  | o => o
theorem ss_tryK {X : Cx} {W : WX} {k j i : Nat} {body : List Stmt} {f : dS} {x n g : Str} {np p1 p2 p3 p4 pos pos' : Pos} {kd : List (Str × Str)} (C : Cfg X W k) (hs : X.stack = X.env :: X.outer) (hf : X.env.frame = some X.env.locals) (hjk : j ≤ k)
    (hx : ∀ c ∈ kd.map (·.1), PySem.W.exmOne X.K (.ref (He.ga X.K c)) (.ref (He.ga X.K x)) = some true) (hgx : X.mg x = some (.ref (He.ga X.K x))) (G : FnK X.prog X.w X.K X.mg X.base j g kd)
    (hb : ∀ (W' : WX) (pn : List (Addr × Obj)) (xe : Value → Shared → Prop), Cfg (X.tr pn xe) W' k → SSs (X.tr pn xe) W' body f)
    (hi : X.N[i]? = some n := by rfl) (hln : X.env.kindOf n = some .local := by rfl) (hg : Gl X g := by rfl) (hgl : Gl X x := by rfl) (hdb : (x == ("__debug__" : Str)) = false := by decide) (hdg : (g == ("__debug__" : Str)) = false := by decide) (hdn : (n == ("__debug__" : Str)) = false := by decide) (hcn : (n == ("__classdict__" : Str)) = false := by decide)
    (he : starEach [.Name n p2] X.env = (false, eval (.Name n p2) X.env) :: starEach [] X.env := by rfl) (hpl : (backTo p3 (starEach [] X.env)).any (·.1) = false := by rfl) :
    SS X W (.Try body [.ExceptHandler (some (.Name x np)) (some n) [.Return (some (.Call (.Name g p1) [.Name n p2] [] p3)) p4] pos'] [] [] pos) (dTryK kd i f) := by
  obtain ⟨fa, fd, ps, F, hbd, hk, hm⟩ := G
  have hvis : Vis X.env.scope n := .inl hln
  refine ⟨_, L2N.ps_try_as (tb := fun W' => canS X.K W' f) (ts := fun a cls d => fun D σ H => σ[i]? = some (some (.ref a)) ∧ ∀ oe : Obj, Zc cls d oe → (∃ vs, oe.data = .fields vs) → spK X.K kd (a, oe) [.ref a] H D.rt (WE W0 σ)) (Wout := W) hs hf C.nd hi hln ⟨hgl, hdb, .inl hgx⟩ C.tk (fun W' pn xe tk po => (hb W' pn xe ⟨C.hr, tk, C.calm, C.nd, po⟩).can) (fun a oe cls d pn hz hv => ?_), fun ρ st F0 bs σ H D b e h => ?_⟩
  · -- the suite
    have hot : HotP (X.suite a ((a, oe) :: pn)) (a, oe) := by
      obtain ⟨vs, hv⟩ := hv
      exact ⟨⟨rfl, vs, hv, hz.2.2 vs hv⟩, List.mem_cons_self⟩
    have pr : PE (X.suite a ((a, oe) :: pn)) (.Call (.Name g p1) [.Name n p2] [] p3) (tCallS (spK X.K kd (a, oe)) (WE W0) (tCons (tVar i) tNil)) :=
      pe_callX (X := X.suite a ((a, oe) :: pn)) (F := F) ⟨(C.hr.mono hjk).dp, (C.hr.mono hjk).un⟩ hot hg hm hk hbd (L2N.passAt takes0) (pa_cons (pe_var (X := X.suite a ((a, oe) :: pn)) hi hvis hdn hcn) pa_nil he) hdg he hpl
    have ps := pss_one (ps_ret (pos := p4) pr)
    refine ⟨fun pins s σ H D I hh => ps.run pins s σ H D I ?_⟩
    obtain ⟨h1, h2⟩ := hh
    exact ⟨.ref a, h1, h2 oe hz.zc hv⟩
  · refine ⟨ρ, st, F0, bs, b, e, ?_⟩
    unfold dTryK at h
    cases ho : f ρ st with
    | nx ρ1 st1 => rw [ho] at h; exact h
    | bk ρ1 st1 => rw [ho] at h; exact h
    | ct ρ1 st1 => rw [ho] at h; exact h
    | rt r st1 => rw [ho] at h; exact h
    | bad => rw [ho] at h; exact h
    | ex c x1 ρ1 st1 =>
      rw [ho] at h
      cases x1 with
      | none =>
        simp only at h
        cases hk : kd.lookup c with
        | none => rw [hk] at h; exact h.elim
        | some m =>
          rw [hk] at h
          simp only at h
          split at h
          rotate_left
          · exact h.elim
          rename_i hil
          intro σ' F' H' bs' cls dx s' b' e' xr
          obtain ⟨rfl, hd⟩ := xr
          have hd : dx = none := hd
          subst hd
          have hmem : c ∈ kd.map (·.1) := by
            have := PySem.mem_of_lookup hk
            exact List.mem_map_of_mem (f := (·.1)) this
          refine ⟨true, hx c hmem, fun _ a ha => ⟨?_, fun oe hz hv => ?_⟩, fun z => by cases z⟩
          · have hl : i < σ'.length := by rw [← e'.len]; exact hil
            exact List.getElem?_set_self hl
          · obtain ⟨vs0, hv⟩ := hv
            refine ⟨c, m, vs0, F', rfl, hz, hv, hk, b'.ex, fun F2 H2 g => ?_⟩
            exact h (.str m) F2 H2 bs' (s'.trans (.of (g.stp bs'))) (b'.gro g) (Rp.str m)
      | _ => exact h.elim
end CB
namespace CB
open PySem PySem.Spec PyProof.Rows L2 L2H CH
theorem gro_of {F H F1 H1 F2 H2 : Hp} {bs2 : List Addr} (g : Gro F H F1 H1) (s : StS F1 H1 [] F2 H2 bs2) (e : Same F2 H2) : Gro F H F2 H2 := by
  refine ⟨g.ex.trans s.s.ex, fun a h => ?_, fun a o h => s.s.keep a o (g.keep a o h) (by simp), e⟩
  rcases s.s.nw a h with y | y
  · exact g.nw a y
  · refine .inr ?_
    cases q : H a with
    | none => rfl
    | some o => rw [g.keep a o q] at y; cases y
theorem rpL_bools {K : PySem.W.Frag} {F : Hp} : ∀ (bs : List Bool), RpL K F (bs.map V.bl) (bs.map PyData.bool)
  | [] => .nil
  | b :: bs => .cons (.bl b) (rpL_bools bs)
/-- the end of such a def: its list of answers laid, its text handed back -/
theorem kind_end {X : Cx} {W : WX} {fb : dS} {t2 : TS} {F H : Hp} {a q : Addr} {bs : List Bool} {m : Str} {D : Ends}
    (k2 : ∀ ρ st F bs σ H D, RepB X.K F bs st H → EnvR X.K F bs ρ σ → OkS X.K W F H bs D (fb ρ st) → t2 D σ H) (e : Same F H) (hq : H q = none) (hfb : fb [none, some (.d (.list (bs.map .bool))), none] [] = .rt (.d (.str m)) [])
    (hQ : ∀ F' H', Gro F H F' H' → D.rt (.str m) H') : t2 D [some (.ref a), some (.ref q), none] (upd H q (.lst (bs.map .bl))) := by
  have g := gro_new (o := .lst (bs.map V.bl)) e hq
  have rl : RpL X.K (upd F q (.lst (bs.map V.bl))) (bs.map V.bl) (bs.map PyData.bool) := rpL_bools bs
  refine k2 [none, some (.d (.list (bs.map .bool))), none] [] (upd F q (.lst (bs.map V.bl))) [] _ _ _ (repB_nil g.in_) ⟨rfl, fun i r hi => ?_⟩ ?_
  · match i, hi with
    | 0, hi => cases hi
    | 1, hi =>
      cases hi
      exact ⟨.ref q, rfl, (Rp.lst (Rd.of upd_same) rl : Rp X.K _ _ _)⟩
    | 2, hi => cases hi
    | n + 3, hi => cases hi
  · rw [hfb]
    intro v F' H' bs' s b' r
    cases (show Rp X.K F' v (.str m) from r)
    exact hQ F' H' (gro_of g s b'.ex)
theorem fn_bad {P : Program} {w : World} {K : PySem.W.Frag} {mg : Str → Option Value} {base : Heap} {k : Nat} {f : Addr} {fd : FuncData} {ps : List Str} {n : Nat} : FnOk P w K mg base (L2N.CX P w) k f fd ps (spB K n fun _ _ => .bad) :=
  ⟨fun vs H Q E h => h.2.elim fun _ h => h.elim fun _ h => h.elim fun _ h => h.elim fun _ h => h.2.2.elim, fun A outer s H args us vs Q E _ _ _ _ h => h.2.elim fun _ h => h.elim fun _ h => h.elim fun _ h => h.elim fun _ h => h.2.2.elim⟩
end CB
end
section
set_option Elab.async false
set_option linter.all false
set_option autoImplicit false
set_option maxRecDepth 100000
set_option maxHeartbeats 4000000
namespace K42
open PySem PySem.Spec PyProof.Rows L2 CB CH

def top (i : Nat) : Stmt := PySem.Challenge.pw_citedback_k42_whole_measures.main.body.getD i (.Pass ⟨0, 0, 0, 0⟩)
def kd : List (Str × Str) := [("NotRight", "refused 1"), ("NotThere", "refused 2"), ("NoAnswer", "refused 3"), ("TooLarge", "refused 4")]
structure Gl (K : PySem.W.Frag) (mg : Str → Option Value) : Prop where
  f_len : mg "len" = none
  f_all : mg "all" = none
  f_sorted : mg "sorted" = none
  f_enumerate : mg "enumerate" = none
  f_range : mg "range" = none
  f_sum : mg "sum" = none
  f_max : mg "max" = none
  f_min : mg "min" = none
  f_list : mg "list" = none
  f_tuple : mg "tuple" = none
  f_dict : mg "dict" = none
  f_int : mg "int" = none
  f_str : mg "str" = none
  f_abs : mg "abs" = none
  f_isinstance : mg "isinstance" = none
  f_reversed : mg "reversed" = none
  f_bool : mg "bool" = none
  c_MOST_COUNTS : ∃ t, mg "MOST_COUNTS" = some (.int 500 t)
  c_HIGHEST : ∃ t, mg "HIGHEST" = some (.int 1000000 t)
  c_MOST_H : ∃ t, mg "MOST_H" = some (.int 200 t)
  c_MOST_ROWS : ∃ t, mg "MOST_ROWS" = some (.int 50 t)
  c_STEP_OF_W : ∃ t, mg "STEP_OF_W" = some (.int 10 t)
  x_CiteError : ExcK K mg "CiteError"
  x_NotRight : ExcK K mg "NotRight"
  x_NotThere : ExcK K mg "NotThere"
  x_NoAnswer : ExcK K mg "NoAnswer"
  x_TooLarge : ExcK K mg "TooLarge"
  e_NotRight : ExcC K (He.ga K "NotRight")
  e_NotThere : ExcC K (He.ga K "NotThere")
  e_NoAnswer : ExcC K (He.ga K "NoAnswer")
  e_TooLarge : ExcC K (He.ga K "TooLarge")
  k_NotRight_NotRight : PySem.W.kitOne K (.ref (He.ga K "NotRight")) (.ref (He.ga K "NotRight")) = some true
  k_NotRight_NotThere : PySem.W.kitOne K (.ref (He.ga K "NotRight")) (.ref (He.ga K "NotThere")) = some false
  k_NotRight_NoAnswer : PySem.W.kitOne K (.ref (He.ga K "NotRight")) (.ref (He.ga K "NoAnswer")) = some false
  k_NotRight_TooLarge : PySem.W.kitOne K (.ref (He.ga K "NotRight")) (.ref (He.ga K "TooLarge")) = some false
  k_NotThere_NotRight : PySem.W.kitOne K (.ref (He.ga K "NotThere")) (.ref (He.ga K "NotRight")) = some false
  k_NotThere_NotThere : PySem.W.kitOne K (.ref (He.ga K "NotThere")) (.ref (He.ga K "NotThere")) = some true
  k_NotThere_NoAnswer : PySem.W.kitOne K (.ref (He.ga K "NotThere")) (.ref (He.ga K "NoAnswer")) = some false
  k_NotThere_TooLarge : PySem.W.kitOne K (.ref (He.ga K "NotThere")) (.ref (He.ga K "TooLarge")) = some false
  k_NoAnswer_NotRight : PySem.W.kitOne K (.ref (He.ga K "NoAnswer")) (.ref (He.ga K "NotRight")) = some false
  k_NoAnswer_NotThere : PySem.W.kitOne K (.ref (He.ga K "NoAnswer")) (.ref (He.ga K "NotThere")) = some false
  k_NoAnswer_NoAnswer : PySem.W.kitOne K (.ref (He.ga K "NoAnswer")) (.ref (He.ga K "NoAnswer")) = some true
  k_NoAnswer_TooLarge : PySem.W.kitOne K (.ref (He.ga K "NoAnswer")) (.ref (He.ga K "TooLarge")) = some false
  k_TooLarge_NotRight : PySem.W.kitOne K (.ref (He.ga K "TooLarge")) (.ref (He.ga K "NotRight")) = some false
  k_TooLarge_NotThere : PySem.W.kitOne K (.ref (He.ga K "TooLarge")) (.ref (He.ga K "NotThere")) = some false
  k_TooLarge_NoAnswer : PySem.W.kitOne K (.ref (He.ga K "TooLarge")) (.ref (He.ga K "NoAnswer")) = some false
  k_TooLarge_TooLarge : PySem.W.kitOne K (.ref (He.ga K "TooLarge")) (.ref (He.ga K "TooLarge")) = some true
  hx_CiteError : ∀ c ∈ kd.map (·.1), PySem.W.exmOne K (.ref (He.ga K c)) (.ref (He.ga K "CiteError")) = some true
section
variable {P : Program} {w : World} {K : PySem.W.Frag} {mg : Str → Option Value} {base : Heap}
noncomputable def b_is_integer : dS := dSeq (dRet (dAnd (dIsi "int" (dV 0)) (dNot (dIsi "bool" (dV 0))))) (dSkip)
noncomputable def den_is_integer : Den := runF 1 1 b_is_integer
theorem sc_is_integer : FnScope ["value"] ["value"] (defScope (top 6)) := ⟨rfl, rfl, rfl, by decide +kernel, rfl, by decide +kernel, by decide +kernel⟩
theorem bo_is_integer (G : Gl K mg)  {f : Addr} : BodyOk P w K mg base ["value"] "is_integer" (defScope (top 6)) f 0 (defBody (top 6)) b_is_integer := fun cdv A outer s H E C => ss_cons (ss_ret (se_and (se_isi G.f_isinstance G.f_int (se_var 0) PyProof.Rows.boot_int) (se_one (se_not (se_isi G.f_isinstance G.f_bool (se_var 0) CB.boot_bool))))) (ss_nil)
theorem ok_is_integer (G : Gl K mg)  {f : Addr} {fd : FuncData} (F : FunD K "is_integer" "is_integer" (defArgs (top 6)) (defBody (top 6)) (defScope (top 6)) [] [] f fd) (hg : mg "is_integer" = some (.ref f)) : Fn P w K mg base 1 "is_integer" 1 den_is_integer :=
  ⟨f, fd, ["value"], fn_ok F sc_is_integer (bo_is_integer G ), F.bindsN fun _ _ _ _ _ _ us hl => match us, hl with | [_], _ => rfl, F.kp, hg⟩
noncomputable def b_is_within : dS := dSeq (dRet (dAnd (dCallP 1 den_is_integer (aCons (dV 0) (aNil))) (dChain gLe gLe (dV 1) (dV 0) (dV 2)))) (dSkip)
noncomputable def den_is_within : Den := runF 3 3 b_is_within
theorem sc_is_within : FnScope ["value", "low", "high"] ["value", "low", "high"] (defScope (top 7)) := ⟨rfl, rfl, rfl, by decide +kernel, rfl, by decide +kernel, by decide +kernel⟩
theorem bo_is_within (G : Gl K mg) (h_is_integer : Fn P w K mg base 1 "is_integer" 1 den_is_integer) {f : Addr} : BodyOk P w K mg base ["value", "low", "high"] "is_within" (defScope (top 7)) f 1 (defBody (top 7)) b_is_within := fun cdv A outer s H E C => ss_cons (ss_ret (se_and (se_callP C (by decide) h_is_integer (sa_cons (se_var 0) (sa_nil))) (se_one (se_chain (op_leD C.hu) (op_leD C.hu) (se_var 1) (se_var 0) (se_var 2))))) (ss_nil)
theorem ok_is_within (G : Gl K mg) (h_is_integer : Fn P w K mg base 1 "is_integer" 1 den_is_integer) {f : Addr} {fd : FuncData} (F : FunD K "is_within" "is_within" (defArgs (top 7)) (defBody (top 7)) (defScope (top 7)) [] [] f fd) (hg : mg "is_within" = some (.ref f)) : Fn P w K mg base 2 "is_within" 3 den_is_within :=
  ⟨f, fd, ["value", "low", "high"], fn_ok F sc_is_within (bo_is_within G h_is_integer), F.bindsN fun _ _ _ _ _ _ us hl => match us, hl with | [_, _, _], _ => rfl, F.kp, hg⟩
noncomputable def b_check : dS := dSeq (dIfS (tdNot (dTru (dV 0))) (dSeq (dRaise "NotRight") (dSkip)) (dSkip)) (dSkip)
noncomputable def den_check : Den := runF 1 1 b_check
theorem sc_check : FnScope ["is_right"] ["is_right"] (defScope (top 8)) := ⟨rfl, rfl, rfl, by decide +kernel, rfl, by decide +kernel, by decide +kernel⟩
theorem bo_check (G : Gl K mg)  {f : Addr} : BodyOk P w K mg base ["is_right"] "check" (defScope (top 8)) f 0 (defBody (top 8)) b_check := fun cdv A outer s H E C => ss_cons (ss_if (st_not (st_val (se_var 0))) (ss_cons (ss_raiseX C G.x_NotRight) (ss_nil)) (ss_nil)) (ss_nil)
theorem ok_check (G : Gl K mg)  {f : Addr} {fd : FuncData} (F : FunD K "check" "check" (defArgs (top 8)) (defBody (top 8)) (defScope (top 8)) [] [] f fd) (hg : mg "check" = some (.ref f)) : Fn P w K mg base 1 "check" 1 den_check :=
  ⟨f, fd, ["is_right"], fn_ok F sc_check (bo_check G ), F.bindsN fun _ _ _ _ _ _ us hl => match us, hl with | [_], _ => rfl, F.kp, hg⟩
noncomputable def b_shared : dS := dSeq (dPar [0, 1] (aCons (dCal (g1 fAbs) (aCons (dV 0) (aNil))) (aCons (dCal (g1 fAbs) (aCons (dV 1) (aNil))) (aNil)))) (dSeq (dWhile (dTest (dOp2 (oB gGt) (dV 1) (dC (.int 0)))) (dSeq (dPar [0, 1] (aCons (dV 1) (aCons (dOp2 oMod (dV 0) (dV 1)) (aNil)))) (dSkip))) (dSeq (dRet (dV 0)) (dSkip)))
noncomputable def den_shared : Den := runF 2 2 b_shared
theorem sc_shared : FnScope ["one", "other"] ["one", "other"] (defScope (top 9)) := ⟨rfl, rfl, rfl, by decide +kernel, rfl, by decide +kernel, by decide +kernel⟩
theorem bo_shared (G : Gl K mg)  {f : Addr} : BodyOk P w K mg base ["one", "other"] "shared" (defScope (top 9)) f 0 (defBody (top 9)) b_shared := fun cdv A outer s H E C => ss_cons (ss_par2 0 1 C (sb_cons (se_abs G.f_abs (sa_cons (se_var 0) (sa_nil))) (sb_cons (se_abs G.f_abs (sa_cons (se_var 1) (sa_nil))) (sb_nil)))) (ss_cons (ss_while C (st_cmp (op_gtD C.hu) opD_rD (se_var 1) (se_int)) (ss_cons (ss_par2 0 1 C (sb_cons (se_var 1) (sb_cons (se_mod (se_var 0) (se_var 1)) (sb_nil)))) (ss_nil))) (ss_cons (ss_ret (se_var 0)) (ss_nil)))
theorem ok_shared (G : Gl K mg)  {f : Addr} {fd : FuncData} (F : FunD K "shared" "shared" (defArgs (top 9)) (defBody (top 9)) (defScope (top 9)) [] [] f fd) (hg : mg "shared" = some (.ref f)) : Fn P w K mg base 1 "shared" 2 den_shared :=
  ⟨f, fd, ["one", "other"], fn_ok F sc_shared (bo_shared G ), F.bindsN fun _ _ _ _ _ _ us hl => match us, hl with | [_, _], _ => rfl, F.kp, hg⟩
noncomputable def b_ratio : dS := dSeq (dAsg 2 (dCallP 2 den_shared (aCons (dV 0) (aCons (dV 1) (aNil))))) (dSeq (dRet (dTup (aCons (dOp2 oDiv (dV 0) (dV 2)) (aCons (dOp2 oDiv (dV 1) (dV 2)) (aNil))))) (dSkip))
noncomputable def den_ratio : Den := runF 2 3 b_ratio
theorem sc_ratio : FnScope ["number", "divisor", "least"] ["number", "divisor"] (defScope (top 10)) := ⟨rfl, rfl, rfl, by decide +kernel, rfl, by decide +kernel, by decide +kernel⟩
theorem bo_ratio (G : Gl K mg) (h_shared : Fn P w K mg base 1 "shared" 2 den_shared) {f : Addr} : BodyOk P w K mg base ["number", "divisor", "least"] "ratio" (defScope (top 10)) f 1 (defBody (top 10)) b_ratio := fun cdv A outer s H E C => ss_cons (ss_asg 2 C.nd (se_callP C (by decide) h_shared (sa_cons (se_var 0) (sa_cons (se_var 1) (sa_nil))))) (ss_cons (ss_ret (se_tup (sa_cons (se_div (se_var 0) (se_var 2)) (sa_cons (se_div (se_var 1) (se_var 2)) (sa_nil))))) (ss_nil))
theorem ok_ratio (G : Gl K mg) (h_shared : Fn P w K mg base 1 "shared" 2 den_shared) {f : Addr} {fd : FuncData} (F : FunD K "ratio" "ratio" (defArgs (top 10)) (defBody (top 10)) (defScope (top 10)) [] [] f fd) (hg : mg "ratio" = some (.ref f)) : Fn P w K mg base 2 "ratio" 2 den_ratio :=
  ⟨f, fd, ["number", "divisor"], fn_ok F sc_ratio (bo_ratio G h_shared), F.bindsN fun _ _ _ _ _ _ us hl => match us, hl with | [_, _], _ => rfl, F.kp, hg⟩
noncomputable def b_is_count : dS := dSeq (dRet (dAnd (dCallP 1 den_is_integer (aCons (dV 0) (aNil))) (dOp2 (oB gGe) (dV 0) (dC (.int 0))))) (dSkip)
noncomputable def den_is_count : Den := runF 1 1 b_is_count
theorem sc_is_count : FnScope ["value"] ["value"] (defScope (top 11)) := ⟨rfl, rfl, rfl, by decide +kernel, rfl, by decide +kernel, by decide +kernel⟩
theorem bo_is_count (G : Gl K mg) (h_is_integer : Fn P w K mg base 1 "is_integer" 1 den_is_integer) {f : Addr} : BodyOk P w K mg base ["value"] "is_count" (defScope (top 11)) f 1 (defBody (top 11)) b_is_count := fun cdv A outer s H E C => ss_cons (ss_ret (se_and (se_callP C (by decide) h_is_integer (sa_cons (se_var 0) (sa_nil))) (se_one (se_cmp (op_geD C.hu) opD_rD (se_var 0) (se_int))))) (ss_nil)
theorem ok_is_count (G : Gl K mg) (h_is_integer : Fn P w K mg base 1 "is_integer" 1 den_is_integer) {f : Addr} {fd : FuncData} (F : FunD K "is_count" "is_count" (defArgs (top 11)) (defBody (top 11)) (defScope (top 11)) [] [] f fd) (hg : mg "is_count" = some (.ref f)) : Fn P w K mg base 2 "is_count" 1 den_is_count :=
  ⟨f, fd, ["value"], fn_ok F sc_is_count (bo_is_count G h_is_integer), F.bindsN fun _ _ _ _ _ _ us hl => match us, hl with | [_], _ => rfl, F.kp, hg⟩
noncomputable def b_are_counts : dS := dSeq (dIfS (tdOr (tdNot (dTru (dIsi "list" (dV 0)))) (dTest (dOp2 (oB gGt) (dCal (g1 fLen) (aCons (dV 0) (aNil))) (dC (.int 500))))) (dSeq (dRet (dC (.bool false))) (dSkip)) (dSkip)) (dSeq (dRet (dCal (g1 fAll) (aCons (dNew (dLC (iL (dV 0)) [1] (gN 1) (dYes) (dCallP 3 den_is_within (aCons (dV 1) (aCons (dC (.int 0)) (aCons (dC (.int 1000000)) (aNil))))))) (aNil)))) (dSkip))
noncomputable def den_are_counts : Den := runF 1 2 b_are_counts
theorem sc_are_counts : FnScope ["value", "one"] ["value"] (defScope (top 18)) := ⟨rfl, rfl, rfl, by decide +kernel, rfl, by decide +kernel, by decide +kernel⟩
theorem bo_are_counts (G : Gl K mg) (h_is_within : Fn P w K mg base 2 "is_within" 3 den_is_within) {f : Addr} : BodyOk P w K mg base ["value", "one"] "are_counts" (defScope (top 18)) f 2 (defBody (top 18)) b_are_counts := fun cdv A outer s H E C => ss_cons (ss_if (SW.st (sw_or (st_not (st_val (se_isi G.f_isinstance G.f_list (se_var 0) PyProof.Rows.boot_list))) (sw_or1 (st_cmp (op_gtD C.hu) opD_rD (se_len G.f_len (sa_cons (se_var 0) (sa_nil))) (se_gint G.c_MOST_COUNTS))))) (ss_cons (ss_ret (se_bl)) (ss_nil)) (ss_nil)) (ss_cons (ss_ret (se_all C G.f_all (sa_cons (se_new (sf_lc [("one", 1)] C (si_list (se_var 0)) rfl (fun _ _ _ _ _ => sg_name 1 (C.blk).nd) (by decide) (fun _ _ _ _ _ => sc_nil) (fun _ _ _ _ _ => se_callP (C.blk) (by decide) h_is_within (sa_cons (se_var 1) (sa_cons (se_int) (sa_cons (se_gint G.c_HIGHEST) (sa_nil))))))) (sa_nil)))) (ss_nil))
theorem ok_are_counts (G : Gl K mg) (h_is_within : Fn P w K mg base 2 "is_within" 3 den_is_within) {f : Addr} {fd : FuncData} (F : FunD K "are_counts" "are_counts" (defArgs (top 18)) (defBody (top 18)) (defScope (top 18)) [] [] f fd) (hg : mg "are_counts" = some (.ref f)) : Fn P w K mg base 3 "are_counts" 1 den_are_counts :=
  ⟨f, fd, ["value"], fn_ok F sc_are_counts (bo_are_counts G h_is_within), F.bindsN fun _ _ _ _ _ _ us hl => match us, hl with | [_], _ => rfl, F.kp, hg⟩
noncomputable def b_check_counts : dS := dSeq (dExp (dCallP 1 den_check (aCons (dCallP 1 den_are_counts (aCons (dV 0) (aNil))) (aNil)))) (dSkip)
noncomputable def den_check_counts : Den := runF 1 1 b_check_counts
theorem sc_check_counts : FnScope ["counts"] ["counts"] (defScope (top 19)) := ⟨rfl, rfl, rfl, by decide +kernel, rfl, by decide +kernel, by decide +kernel⟩
theorem bo_check_counts (G : Gl K mg) (h_check : Fn P w K mg base 1 "check" 1 den_check) (h_are_counts : Fn P w K mg base 3 "are_counts" 1 den_are_counts) {f : Addr} : BodyOk P w K mg base ["counts"] "check_counts" (defScope (top 19)) f 3 (defBody (top 19)) b_check_counts := fun cdv A outer s H E C => ss_cons (ss_expr (se_callP C (by decide) h_check (sa_cons (se_callP C (by decide) h_are_counts (sa_cons (se_var 0) (sa_nil))) (sa_nil)))) (ss_nil)
theorem ok_check_counts (G : Gl K mg) (h_check : Fn P w K mg base 1 "check" 1 den_check) (h_are_counts : Fn P w K mg base 3 "are_counts" 1 den_are_counts) {f : Addr} {fd : FuncData} (F : FunD K "check_counts" "check_counts" (defArgs (top 19)) (defBody (top 19)) (defScope (top 19)) [] [] f fd) (hg : mg "check_counts" = some (.ref f)) : Fn P w K mg base 4 "check_counts" 1 den_check_counts :=
  ⟨f, fd, ["counts"], fn_ok F sc_check_counts (bo_check_counts G h_check h_are_counts), F.bindsN fun _ _ _ _ _ _ us hl => match us, hl with | [_], _ => rfl, F.kp, hg⟩
noncomputable def b_falling : dS := dSeq (dRet (dNew (nRev (dNew (nCal (g1 fSorted) (aCons (dV 0) (aNil))))))) (dSkip)
noncomputable def den_falling : Den := runF 1 1 b_falling
theorem sc_falling : FnScope ["counts"] ["counts"] (defScope (top 20)) := ⟨rfl, rfl, rfl, by decide +kernel, rfl, by decide +kernel, by decide +kernel⟩
theorem bo_falling (G : Gl K mg)  {f : Addr} : BodyOk P w K mg base ["counts"] "falling" (defScope (top 20)) f 0 (defBody (top 20)) b_falling := fun cdv A outer s H E C => ss_cons (ss_ret (se_new (sf_rev (se_new (sf_sorted C G.f_sorted (sa_cons (se_var 0) (sa_nil))))))) (ss_nil)
theorem ok_falling (G : Gl K mg)  {f : Addr} {fd : FuncData} (F : FunD K "falling" "falling" (defArgs (top 20)) (defBody (top 20)) (defScope (top 20)) [] [] f fd) (hg : mg "falling" = some (.ref f)) : Fn P w K mg base 1 "falling" 1 den_falling :=
  ⟨f, fd, ["counts"], fn_ok F sc_falling (bo_falling G ), F.bindsN fun _ _ _ _ _ _ us hl => match us, hl with | [_], _ => rfl, F.kp, hg⟩
noncomputable def b_h_by : dS := dSeq (dRet (dCal (g1 fLen) (aCons (dNew (dLC (iE (aCons (dCallP 1 den_falling (aCons (dV 0) (aNil))) (aNil))) [1, 2] (gT 2 (gConsD (gN 1) (gConsD (gN 2) (gNilD)))) (dTest (dOp2 (oB gGt) (dV 2) (dV 1))) (dC (.int 1)))) (aNil)))) (dSkip)
noncomputable def den_h_by : Den := runF 1 3 b_h_by
theorem sc_h_by : FnScope ["counts", "at", "one"] ["counts"] (defScope (top 21)) := ⟨rfl, rfl, rfl, by decide +kernel, rfl, by decide +kernel, by decide +kernel⟩
theorem bo_h_by (G : Gl K mg) (h_falling : Fn P w K mg base 1 "falling" 1 den_falling) {f : Addr} : BodyOk P w K mg base ["counts", "at", "one"] "h_by" (defScope (top 21)) f 1 (defBody (top 21)) b_h_by := fun cdv A outer s H E C => ss_cons (ss_ret (se_len G.f_len (sa_cons (se_new (sf_lc [("at", 1), ("one", 2)] C (si_enum G.f_enumerate (sa_cons (se_callP C (by decide) h_falling (sa_cons (se_var 0) (sa_nil))) (sa_nil))) rfl (fun _ _ _ _ _ => sg_tup 2 (C.blk).calm (sgs_cons (sg_name 1 (C.blk).nd) (sgs_cons (sg_name 2 (C.blk).nd) (sgs_nil)))) (by decide) (fun _ _ _ _ _ => sc_one (st_cmp (op_gtD (C.blk).hu) opD_rD (se_var 2) (se_var 1))) (fun _ _ _ _ _ => se_int))) (sa_nil)))) (ss_nil)
theorem ok_h_by (G : Gl K mg) (h_falling : Fn P w K mg base 1 "falling" 1 den_falling) {f : Addr} {fd : FuncData} (F : FunD K "h_by" "h_by" (defArgs (top 21)) (defBody (top 21)) (defScope (top 21)) [] [] f fd) (hg : mg "h_by" = some (.ref f)) : Fn P w K mg base 2 "h_by" 1 den_h_by :=
  ⟨f, fd, ["counts"], fn_ok F sc_h_by (bo_h_by G h_falling), F.bindsN fun _ _ _ _ _ _ us hl => match us, hl with | [_], _ => rfl, F.kp, hg⟩
noncomputable def b_g_by : dS := dSeq (dAsgG (gT 2 (gConsD (gN 1) (gConsD (gN 2) (gNilD)))) (dTup (aCons (dC (.int 0)) (aCons (dC (.int 0)) (aNil))))) (dSeq (dFor (iE (aCons (dCallP 1 den_falling (aCons (dV 0) (aNil))) (aNil))) (gT 2 (gConsD (gN 3) (gConsD (gN 4) (gNilD)))) (dSeq (dAug 2 oAugI (dV 4)) (dSeq (dIfS (dTest (dOp2 (oB gGe) (dV 2) (dOp2 oMulA (dOp2 oAddA (dV 3) (dC (.int 1))) (dOp2 oAddA (dV 3) (dC (.int 1)))))) (dSeq (dAsg 1 (dOp2 oAddA (dV 3) (dC (.int 1)))) (dSkip)) (dSkip)) (dSkip)))) (dSeq (dRet (dV 1)) (dSkip)))
noncomputable def den_g_by : Den := runF 1 5 b_g_by
theorem sc_g_by : FnScope ["counts", "found", "whole", "at", "one"] ["counts"] (defScope (top 22)) := ⟨rfl, rfl, rfl, by decide +kernel, rfl, by decide +kernel, by decide +kernel⟩
theorem bo_g_by (G : Gl K mg) (h_falling : Fn P w K mg base 1 "falling" 1 den_falling) {f : Addr} : BodyOk P w K mg base ["counts", "found", "whole", "at", "one"] "g_by" (defScope (top 22)) f 1 (defBody (top 22)) b_g_by := fun cdv A outer s H E C => ss_cons (ss_asgG (se_tup (sa_cons (se_int) (sa_cons (se_int) (sa_nil)))) (sg_tup 2 C.calm (sgs_cons (sg_name 1 C.nd) (sgs_cons (sg_name 2 C.nd) (sgs_nil))))) (ss_cons (ss_for C (si_enum G.f_enumerate (sa_cons (se_callP C (by decide) h_falling (sa_cons (se_var 0) (sa_nil))) (sa_nil))) (sg_tup 2 C.calm (sgs_cons (sg_name 3 C.nd) (sgs_cons (sg_name 4 C.nd) (sgs_nil)))) (ss_cons (ss_aug 2 C.nd ipd_addI (se_var 4)) (ss_cons (ss_if (st_cmp (op_geD C.hu) opD_rD (se_var 2) (se_mulA (se_addA (se_var 3) (se_int)) (se_addA (se_var 3) (se_int)))) (ss_cons (ss_asg 1 C.nd (se_addA (se_var 3) (se_int))) (ss_nil)) (ss_nil)) (ss_nil)))) (ss_cons (ss_ret (se_var 1)) (ss_nil)))
theorem ok_g_by (G : Gl K mg) (h_falling : Fn P w K mg base 1 "falling" 1 den_falling) {f : Addr} {fd : FuncData} (F : FunD K "g_by" "g_by" (defArgs (top 22)) (defBody (top 22)) (defScope (top 22)) [] [] f fd) (hg : mg "g_by" = some (.ref f)) : Fn P w K mg base 2 "g_by" 1 den_g_by :=
  ⟨f, fd, ["counts"], fn_ok F sc_g_by (bo_g_by G h_falling), F.bindsN fun _ _ _ _ _ _ us hl => match us, hl with | [_], _ => rfl, F.kp, hg⟩
noncomputable def b_h_of : dS := dSeq (dExp (dCallP 1 den_check_counts (aCons (dV 0) (aNil)))) (dSeq (dRet (dCallP 1 den_h_by (aCons (dV 0) (aNil)))) (dSkip))
noncomputable def den_h_of : Den := runF 1 1 b_h_of
theorem sc_h_of : FnScope ["counts"] ["counts"] (defScope (top 23)) := ⟨rfl, rfl, rfl, by decide +kernel, rfl, by decide +kernel, by decide +kernel⟩
theorem bo_h_of (G : Gl K mg) (h_check_counts : Fn P w K mg base 4 "check_counts" 1 den_check_counts) (h_h_by : Fn P w K mg base 2 "h_by" 1 den_h_by) {f : Addr} : BodyOk P w K mg base ["counts"] "h_of" (defScope (top 23)) f 4 (defBody (top 23)) b_h_of := fun cdv A outer s H E C => ss_cons (ss_expr (se_callP C (by decide) h_check_counts (sa_cons (se_var 0) (sa_nil)))) (ss_cons (ss_ret (se_callP C (by decide) h_h_by (sa_cons (se_var 0) (sa_nil)))) (ss_nil))
theorem ok_h_of (G : Gl K mg) (h_check_counts : Fn P w K mg base 4 "check_counts" 1 den_check_counts) (h_h_by : Fn P w K mg base 2 "h_by" 1 den_h_by) {f : Addr} {fd : FuncData} (F : FunD K "h_of" "h_of" (defArgs (top 23)) (defBody (top 23)) (defScope (top 23)) [] [] f fd) (hg : mg "h_of" = some (.ref f)) : Fn P w K mg base 5 "h_of" 1 den_h_of :=
  ⟨f, fd, ["counts"], fn_ok F sc_h_of (bo_h_of G h_check_counts h_h_by), F.bindsN fun _ _ _ _ _ _ us hl => match us, hl with | [_], _ => rfl, F.kp, hg⟩
noncomputable def b_g_of : dS := dSeq (dExp (dCallP 1 den_check_counts (aCons (dV 0) (aNil)))) (dSeq (dRet (dCallP 1 den_g_by (aCons (dV 0) (aNil)))) (dSkip))
noncomputable def den_g_of : Den := runF 1 1 b_g_of
theorem sc_g_of : FnScope ["counts"] ["counts"] (defScope (top 24)) := ⟨rfl, rfl, rfl, by decide +kernel, rfl, by decide +kernel, by decide +kernel⟩
theorem bo_g_of (G : Gl K mg) (h_check_counts : Fn P w K mg base 4 "check_counts" 1 den_check_counts) (h_g_by : Fn P w K mg base 2 "g_by" 1 den_g_by) {f : Addr} : BodyOk P w K mg base ["counts"] "g_of" (defScope (top 24)) f 4 (defBody (top 24)) b_g_of := fun cdv A outer s H E C => ss_cons (ss_expr (se_callP C (by decide) h_check_counts (sa_cons (se_var 0) (sa_nil)))) (ss_cons (ss_ret (se_callP C (by decide) h_g_by (sa_cons (se_var 0) (sa_nil)))) (ss_nil))
theorem ok_g_of (G : Gl K mg) (h_check_counts : Fn P w K mg base 4 "check_counts" 1 den_check_counts) (h_g_by : Fn P w K mg base 2 "g_by" 1 den_g_by) {f : Addr} {fd : FuncData} (F : FunD K "g_of" "g_of" (defArgs (top 24)) (defBody (top 24)) (defScope (top 24)) [] [] f fd) (hg : mg "g_of" = some (.ref f)) : Fn P w K mg base 5 "g_of" 1 den_g_of :=
  ⟨f, fd, ["counts"], fn_ok F sc_g_of (bo_g_of G h_check_counts h_g_by), F.bindsN fun _ _ _ _ _ _ us hl => match us, hl with | [_], _ => rfl, F.kp, hg⟩
noncomputable def b_w_of : dS := dSeq (dExp (dCallP 1 den_check_counts (aCons (dV 0) (aNil)))) (dSeq (dRet (dCal (g1 fLen) (aCons (dNew (dLC (iE (aCons (dCallP 1 den_falling (aCons (dV 0) (aNil))) (aNil))) [1, 2] (gT 2 (gConsD (gN 1) (gConsD (gN 2) (gNilD)))) (dTest (dOp2 (oB gGe) (dV 2) (dOp2 oMulA (dC (.int 10)) (dOp2 oAddA (dV 1) (dC (.int 1)))))) (dC (.int 1)))) (aNil)))) (dSkip))
noncomputable def den_w_of : Den := runF 1 3 b_w_of
theorem sc_w_of : FnScope ["counts", "at", "one"] ["counts"] (defScope (top 25)) := ⟨rfl, rfl, rfl, by decide +kernel, rfl, by decide +kernel, by decide +kernel⟩
theorem bo_w_of (G : Gl K mg) (h_check_counts : Fn P w K mg base 4 "check_counts" 1 den_check_counts) (h_falling : Fn P w K mg base 1 "falling" 1 den_falling) {f : Addr} : BodyOk P w K mg base ["counts", "at", "one"] "w_of" (defScope (top 25)) f 4 (defBody (top 25)) b_w_of := fun cdv A outer s H E C => ss_cons (ss_expr (se_callP C (by decide) h_check_counts (sa_cons (se_var 0) (sa_nil)))) (ss_cons (ss_ret (se_len G.f_len (sa_cons (se_new (sf_lc [("at", 1), ("one", 2)] C (si_enum G.f_enumerate (sa_cons (se_callP C (by decide) h_falling (sa_cons (se_var 0) (sa_nil))) (sa_nil))) rfl (fun _ _ _ _ _ => sg_tup 2 (C.blk).calm (sgs_cons (sg_name 1 (C.blk).nd) (sgs_cons (sg_name 2 (C.blk).nd) (sgs_nil)))) (by decide) (fun _ _ _ _ _ => sc_one (st_cmp (op_geD (C.blk).hu) opD_rD (se_var 2) (se_mulA (se_gint G.c_STEP_OF_W) (se_addA (se_var 1) (se_int))))) (fun _ _ _ _ _ => se_int))) (sa_nil)))) (ss_nil))
theorem ok_w_of (G : Gl K mg) (h_check_counts : Fn P w K mg base 4 "check_counts" 1 den_check_counts) (h_falling : Fn P w K mg base 1 "falling" 1 den_falling) {f : Addr} {fd : FuncData} (F : FunD K "w_of" "w_of" (defArgs (top 25)) (defBody (top 25)) (defScope (top 25)) [] [] f fd) (hg : mg "w_of" = some (.ref f)) : Fn P w K mg base 5 "w_of" 1 den_w_of :=
  ⟨f, fd, ["counts"], fn_ok F sc_w_of (bo_w_of G h_check_counts h_falling), F.bindsN fun _ _ _ _ _ _ us hl => match us, hl with | [_], _ => rfl, F.kp, hg⟩
noncomputable def b_core_of : dS := dSeq (dExp (dCallP 1 den_check_counts (aCons (dV 0) (aNil)))) (dSeq (dAsg 1 (dCallP 1 den_h_by (aCons (dV 0) (aNil)))) (dSeq (dRet (dNew (dLC (iL (dCallP 1 den_falling (aCons (dV 0) (aNil)))) [2] (gN 2) (dTest (dOp2 (oB gGe) (dV 2) (dV 1))) (dV 2)))) (dSkip)))
noncomputable def den_core_of : Den := runF 1 3 b_core_of
theorem sc_core_of : FnScope ["counts", "h", "one"] ["counts"] (defScope (top 26)) := ⟨rfl, rfl, rfl, by decide +kernel, rfl, by decide +kernel, by decide +kernel⟩
theorem bo_core_of (G : Gl K mg) (h_check_counts : Fn P w K mg base 4 "check_counts" 1 den_check_counts) (h_falling : Fn P w K mg base 1 "falling" 1 den_falling) (h_h_by : Fn P w K mg base 2 "h_by" 1 den_h_by) {f : Addr} : BodyOk P w K mg base ["counts", "h", "one"] "core_of" (defScope (top 26)) f 4 (defBody (top 26)) b_core_of := fun cdv A outer s H E C => ss_cons (ss_expr (se_callP C (by decide) h_check_counts (sa_cons (se_var 0) (sa_nil)))) (ss_cons (ss_asg 1 C.nd (se_callP C (by decide) h_h_by (sa_cons (se_var 0) (sa_nil)))) (ss_cons (ss_ret (se_new (sf_lc [("one", 2)] C (si_list (se_callP C (by decide) h_falling (sa_cons (se_var 0) (sa_nil)))) rfl (fun _ _ _ _ _ => sg_name 2 (C.blk).nd) (by decide) (fun _ _ _ _ _ => sc_one (st_cmp (op_geD (C.blk).hu) opD_rD (se_var 2) (se_var 1))) (fun _ _ _ _ _ => se_var 2)))) (ss_nil)))
theorem ok_core_of (G : Gl K mg) (h_check_counts : Fn P w K mg base 4 "check_counts" 1 den_check_counts) (h_falling : Fn P w K mg base 1 "falling" 1 den_falling) (h_h_by : Fn P w K mg base 2 "h_by" 1 den_h_by) {f : Addr} {fd : FuncData} (F : FunD K "core_of" "core_of" (defArgs (top 26)) (defBody (top 26)) (defScope (top 26)) [] [] f fd) (hg : mg "core_of" = some (.ref f)) : Fn P w K mg base 5 "core_of" 1 den_core_of :=
  ⟨f, fd, ["counts"], fn_ok F sc_core_of (bo_core_of G h_check_counts h_falling h_h_by), F.bindsN fun _ _ _ _ _ _ us hl => match us, hl with | [_], _ => rfl, F.kp, hg⟩
noncomputable def b_tail_of : dS := dSeq (dExp (dCallP 1 den_check_counts (aCons (dV 0) (aNil)))) (dSeq (dRet (dOp2 oSub (dCal (g1 fSumA) (aCons (dV 0) (aNil))) (dOp2 oMulA (dCallP 1 den_h_by (aCons (dV 0) (aNil))) (dCallP 1 den_h_by (aCons (dV 0) (aNil)))))) (dSkip))
noncomputable def den_tail_of : Den := runF 1 1 b_tail_of
theorem sc_tail_of : FnScope ["counts"] ["counts"] (defScope (top 27)) := ⟨rfl, rfl, rfl, by decide +kernel, rfl, by decide +kernel, by decide +kernel⟩
theorem bo_tail_of (G : Gl K mg) (h_check_counts : Fn P w K mg base 4 "check_counts" 1 den_check_counts) (h_h_by : Fn P w K mg base 2 "h_by" 1 den_h_by) {f : Addr} : BodyOk P w K mg base ["counts"] "tail_of" (defScope (top 27)) f 4 (defBody (top 27)) b_tail_of := fun cdv A outer s H E C => ss_cons (ss_expr (se_callP C (by decide) h_check_counts (sa_cons (se_var 0) (sa_nil)))) (ss_cons (ss_ret (se_sub (se_sumA C G.f_sum (sa_cons (se_var 0) (sa_nil))) (se_mulA (se_callP C (by decide) h_h_by (sa_cons (se_var 0) (sa_nil))) (se_callP C (by decide) h_h_by (sa_cons (se_var 0) (sa_nil)))))) (ss_nil))
theorem ok_tail_of (G : Gl K mg) (h_check_counts : Fn P w K mg base 4 "check_counts" 1 den_check_counts) (h_h_by : Fn P w K mg base 2 "h_by" 1 den_h_by) {f : Addr} {fd : FuncData} (F : FunD K "tail_of" "tail_of" (defArgs (top 27)) (defBody (top 27)) (defScope (top 27)) [] [] f fd) (hg : mg "tail_of" = some (.ref f)) : Fn P w K mg base 5 "tail_of" 1 den_tail_of :=
  ⟨f, fd, ["counts"], fn_ok F sc_tail_of (bo_tail_of G h_check_counts h_h_by), F.bindsN fun _ _ _ _ _ _ us hl => match us, hl with | [_], _ => rfl, F.kp, hg⟩
noncomputable def b_lacking : dS := dSeq (dRet (dCal (g1 fSumA) (aCons (dNew (dLC (iL (dNew (dSl (dCallP 1 den_falling (aCons (dV 0) (aNil))) (pNo) (pAt (dV 1))))) [2] (gN 2) (dYes) (dCal (g2 fMax2) (aCons (dC (.int 0)) (aCons (dOp2 oSub (dV 1) (dV 2)) (aNil)))))) (aNil)))) (dSkip)
noncomputable def den_lacking : Den := runF 2 3 b_lacking
theorem sc_lacking : FnScope ["counts", "h", "one"] ["counts", "h"] (defScope (top 28)) := ⟨rfl, rfl, rfl, by decide +kernel, rfl, by decide +kernel, by decide +kernel⟩
theorem bo_lacking (G : Gl K mg) (h_falling : Fn P w K mg base 1 "falling" 1 den_falling) {f : Addr} : BodyOk P w K mg base ["counts", "h", "one"] "lacking" (defScope (top 28)) f 1 (defBody (top 28)) b_lacking := fun cdv A outer s H E C => ss_cons (ss_ret (se_sumA C G.f_sum (sa_cons (se_new (sf_lc [("one", 2)] C (si_list (se_new (sf_slL (se_callP C (by decide) h_falling (sa_cons (se_var 0) (sa_nil))) (so_no) (so_at (se_var 1))))) rfl (fun _ _ _ _ _ => sg_name 2 (C.blk).nd) (by decide) (fun _ _ _ _ _ => sc_nil) (fun _ _ _ _ _ => se_max2 (C.blk) G.f_max (sa_cons (se_int) (sa_cons (se_sub (se_var 1) (se_var 2)) (sa_nil)))))) (sa_nil)))) (ss_nil)
theorem ok_lacking (G : Gl K mg) (h_falling : Fn P w K mg base 1 "falling" 1 den_falling) {f : Addr} {fd : FuncData} (F : FunD K "lacking" "lacking" (defArgs (top 28)) (defBody (top 28)) (defScope (top 28)) [] [] f fd) (hg : mg "lacking" = some (.ref f)) : Fn P w K mg base 2 "lacking" 2 den_lacking :=
  ⟨f, fd, ["counts", "h"], fn_ok F sc_lacking (bo_lacking G h_falling), F.bindsN fun _ _ _ _ _ _ us hl => match us, hl with | [_, _], _ => rfl, F.kp, hg⟩
noncomputable def b_next_step : dS := dSeq (dExp (dCallP 1 den_check_counts (aCons (dV 0) (aNil)))) (dSeq (dExp (dCallP 1 den_check (aCons (dIsi "bool" (dV 1)) (aNil)))) (dSeq (dAsg 2 (dOp2 oAddA (dCallP 1 den_h_by (aCons (dV 0) (aNil))) (dC (.int 1)))) (dSeq (dIfS (tdAnd (dTest (dOp2 (oB gLt) (dCal (g1 fLen) (aCons (dV 0) (aNil))) (dV 2))) (tdNot (dTru (dV 1)))) (dSeq (dRet (dC .none)) (dSkip)) (dSkip)) (dSeq (dRet (dCallP 2 den_lacking (aCons (dNew (nLst (aStar (dV 0) (aCons (dC (.int 0)) (aNil))))) (aCons (dV 2) (aNil))))) (dSkip)))))
noncomputable def den_next_step : Den := runF 2 3 b_next_step
theorem sc_next_step : FnScope ["counts", "may_come", "h"] ["counts", "may_come"] (defScope (top 29)) := ⟨rfl, rfl, rfl, by decide +kernel, rfl, by decide +kernel, by decide +kernel⟩
theorem bo_next_step (G : Gl K mg) (h_check : Fn P w K mg base 1 "check" 1 den_check) (h_check_counts : Fn P w K mg base 4 "check_counts" 1 den_check_counts) (h_h_by : Fn P w K mg base 2 "h_by" 1 den_h_by) (h_lacking : Fn P w K mg base 2 "lacking" 2 den_lacking) {f : Addr} : BodyOk P w K mg base ["counts", "may_come", "h"] "next_step" (defScope (top 29)) f 4 (defBody (top 29)) b_next_step := fun cdv A outer s H E C => ss_cons (ss_expr (se_callP C (by decide) h_check_counts (sa_cons (se_var 0) (sa_nil)))) (ss_cons (ss_expr (se_callP C (by decide) h_check (sa_cons (se_isi G.f_isinstance G.f_bool (se_var 1) CB.boot_bool) (sa_nil)))) (ss_cons (ss_asg 2 C.nd (se_addA (se_callP C (by decide) h_h_by (sa_cons (se_var 0) (sa_nil))) (se_int))) (ss_cons (ss_if (SW.st (sw_and (st_cmp (op_ltD C.hu) opD_rD (se_len G.f_len (sa_cons (se_var 0) (sa_nil))) (se_var 2)) (sw_and1 (st_not (st_val (se_var 1)))))) (ss_cons (ss_ret (se_non)) (ss_nil)) (ss_nil)) (ss_cons (ss_ret (se_callP C (by decide) h_lacking (sa_cons (se_new (sf_lst (sa_star (se_var 0) (sa_cons (se_int) (sa_nil))))) (sa_cons (se_var 2) (sa_nil))))) (ss_nil)))))
theorem ok_next_step (G : Gl K mg) (h_check : Fn P w K mg base 1 "check" 1 den_check) (h_check_counts : Fn P w K mg base 4 "check_counts" 1 den_check_counts) (h_h_by : Fn P w K mg base 2 "h_by" 1 den_h_by) (h_lacking : Fn P w K mg base 2 "lacking" 2 den_lacking) {f : Addr} {fd : FuncData} (F : FunD K "next_step" "next_step" (defArgs (top 29)) (defBody (top 29)) (defScope (top 29)) [] [] f fd) (hg : mg "next_step" = some (.ref f)) : Fn P w K mg base 5 "next_step" 2 den_next_step :=
  ⟨f, fd, ["counts", "may_come"], fn_ok F sc_next_step (bo_next_step G h_check h_check_counts h_h_by h_lacking), F.bindsN fun _ _ _ _ _ _ us hl => match us, hl with | [_, _], _ => rfl, F.kp, hg⟩
noncomputable def b_least_counts : dS := dSeq (dExp (dCallP 1 den_check (aCons (dCallP 3 den_is_within (aCons (dV 0) (aCons (dC (.int 0)) (aCons (dC (.int 200)) (aNil))))) (aNil)))) (dSeq (dRet (dOp2 oMulA (dNew (nLst (aCons (dV 0) (aNil)))) (dV 0))) (dSkip))
noncomputable def den_least_counts : Den := runF 1 1 b_least_counts
theorem sc_least_counts : FnScope ["h"] ["h"] (defScope (top 30)) := ⟨rfl, rfl, rfl, by decide +kernel, rfl, by decide +kernel, by decide +kernel⟩
theorem bo_least_counts (G : Gl K mg) (h_is_within : Fn P w K mg base 2 "is_within" 3 den_is_within) (h_check : Fn P w K mg base 1 "check" 1 den_check) {f : Addr} : BodyOk P w K mg base ["h"] "least_counts" (defScope (top 30)) f 2 (defBody (top 30)) b_least_counts := fun cdv A outer s H E C => ss_cons (ss_expr (se_callP C (by decide) h_check (sa_cons (se_callP C (by decide) h_is_within (sa_cons (se_var 0) (sa_cons (se_int) (sa_cons (se_gint G.c_MOST_H) (sa_nil))))) (sa_nil)))) (ss_cons (ss_ret (se_mulA (se_new (sf_lst (sa_cons (se_var 0) (sa_nil)))) (se_var 0))) (ss_nil))
theorem ok_least_counts (G : Gl K mg) (h_is_within : Fn P w K mg base 2 "is_within" 3 den_is_within) (h_check : Fn P w K mg base 1 "check" 1 den_check) {f : Addr} {fd : FuncData} (F : FunD K "least_counts" "least_counts" (defArgs (top 30)) (defBody (top 30)) (defScope (top 30)) [] [] f fd) (hg : mg "least_counts" = some (.ref f)) : Fn P w K mg base 3 "least_counts" 1 den_least_counts :=
  ⟨f, fd, ["h"], fn_ok F sc_least_counts (bo_least_counts G h_is_within h_check), F.bindsN fun _ _ _ _ _ _ us hl => match us, hl with | [_], _ => rfl, F.kp, hg⟩
noncomputable def b_most_h : dS := dSeq (dAsg 2 (dCallP 1 den_h_by (aCons (dV 0) (aNil)))) (dSeq (dWhile (tdAnd (dTest (dOp2 (oB gLt) (dV 2) (dCal (g1 fLen) (aCons (dV 0) (aNil))))) (dTest (dOp2 (oB gLe) (dCallP 2 den_lacking (aCons (dV 0) (aCons (dOp2 oAddA (dV 2) (dC (.int 1))) (aNil)))) (dV 1)))) (dSeq (dAug 2 oAugI (dC (.int 1))) (dSkip))) (dSeq (dRet (dV 2)) (dSkip)))
noncomputable def den_most_h : Den := runF 2 3 b_most_h
theorem sc_most_h : FnScope ["counts", "more", "found"] ["counts", "more"] (defScope (top 31)) := ⟨rfl, rfl, rfl, by decide +kernel, rfl, by decide +kernel, by decide +kernel⟩
theorem bo_most_h (G : Gl K mg) (h_h_by : Fn P w K mg base 2 "h_by" 1 den_h_by) (h_lacking : Fn P w K mg base 2 "lacking" 2 den_lacking) {f : Addr} : BodyOk P w K mg base ["counts", "more", "found"] "most_h" (defScope (top 31)) f 2 (defBody (top 31)) b_most_h := fun cdv A outer s H E C => ss_cons (ss_asg 2 C.nd (se_callP C (by decide) h_h_by (sa_cons (se_var 0) (sa_nil)))) (ss_cons (ss_while C (SW.st (sw_and (st_cmp (op_ltD C.hu) opD_rD (se_var 2) (se_len G.f_len (sa_cons (se_var 0) (sa_nil)))) (sw_and1 (st_cmp (op_leD C.hu) opD_rD (se_callP C (by decide) h_lacking (sa_cons (se_var 0) (sa_cons (se_addA (se_var 2) (se_int)) (sa_nil)))) (se_var 1))))) (ss_cons (ss_aug 2 C.nd ipd_addI (se_int)) (ss_nil))) (ss_cons (ss_ret (se_var 2)) (ss_nil)))
theorem ok_most_h (G : Gl K mg) (h_h_by : Fn P w K mg base 2 "h_by" 1 den_h_by) (h_lacking : Fn P w K mg base 2 "lacking" 2 den_lacking) {f : Addr} {fd : FuncData} (F : FunD K "most_h" "most_h" (defArgs (top 31)) (defBody (top 31)) (defScope (top 31)) [] [] f fd) (hg : mg "most_h" = some (.ref f)) : Fn P w K mg base 3 "most_h" 2 den_most_h :=
  ⟨f, fd, ["counts", "more"], fn_ok F sc_most_h (bo_most_h G h_h_by h_lacking), F.bindsN fun _ _ _ _ _ _ us hl => match us, hl with | [_, _], _ => rfl, F.kp, hg⟩
noncomputable def b_h_with : dS := dSeq (dExp (dCallP 1 den_check_counts (aCons (dV 0) (aNil)))) (dSeq (dExp (dCallP 1 den_check (aCons (dCallP 1 den_is_count (aCons (dV 1) (aNil))) (aNil)))) (dSeq (dRet (dCallP 2 den_most_h (aCons (dV 0) (aCons (dV 1) (aNil))))) (dSkip)))
noncomputable def den_h_with : Den := runF 2 2 b_h_with
theorem sc_h_with : FnScope ["counts", "more"] ["counts", "more"] (defScope (top 32)) := ⟨rfl, rfl, rfl, by decide +kernel, rfl, by decide +kernel, by decide +kernel⟩
theorem bo_h_with (G : Gl K mg) (h_check : Fn P w K mg base 1 "check" 1 den_check) (h_is_count : Fn P w K mg base 2 "is_count" 1 den_is_count) (h_check_counts : Fn P w K mg base 4 "check_counts" 1 den_check_counts) (h_most_h : Fn P w K mg base 3 "most_h" 2 den_most_h) {f : Addr} : BodyOk P w K mg base ["counts", "more"] "h_with" (defScope (top 32)) f 4 (defBody (top 32)) b_h_with := fun cdv A outer s H E C => ss_cons (ss_expr (se_callP C (by decide) h_check_counts (sa_cons (se_var 0) (sa_nil)))) (ss_cons (ss_expr (se_callP C (by decide) h_check (sa_cons (se_callP C (by decide) h_is_count (sa_cons (se_var 1) (sa_nil))) (sa_nil)))) (ss_cons (ss_ret (se_callP C (by decide) h_most_h (sa_cons (se_var 0) (sa_cons (se_var 1) (sa_nil))))) (ss_nil)))
theorem ok_h_with (G : Gl K mg) (h_check : Fn P w K mg base 1 "check" 1 den_check) (h_is_count : Fn P w K mg base 2 "is_count" 1 den_is_count) (h_check_counts : Fn P w K mg base 4 "check_counts" 1 den_check_counts) (h_most_h : Fn P w K mg base 3 "most_h" 2 den_most_h) {f : Addr} {fd : FuncData} (F : FunD K "h_with" "h_with" (defArgs (top 32)) (defBody (top 32)) (defScope (top 32)) [] [] f fd) (hg : mg "h_with" = some (.ref f)) : Fn P w K mg base 5 "h_with" 2 den_h_with :=
  ⟨f, fd, ["counts", "more"], fn_ok F sc_h_with (bo_h_with G h_check h_is_count h_check_counts h_most_h), F.bindsN fun _ _ _ _ _ _ us hl => match us, hl with | [_, _], _ => rfl, F.kp, hg⟩
noncomputable def b_best_putting : dS := dSeq (dExp (dCallP 1 den_check_counts (aCons (dV 0) (aNil)))) (dSeq (dExp (dCallP 1 den_check (aCons (dCallP 1 den_is_count (aCons (dV 1) (aNil))) (aNil)))) (dSeq (dPar [2, 3] (aCons (dCallP 2 den_most_h (aCons (dV 0) (aCons (dV 1) (aNil)))) (aBox (nCal (g1 fList) (aCons (dV 0) (aNil))) (aNil)))) (dSeq (dFor (iL (dNew (dSl (dNew (nCal (g1 fSorted) (aCons (dNew (dLC (iE (aCons (dV 0) (aNil))) [5, 6] (gT 2 (gConsD (gN 5) (gConsD (gN 6) (gNilD)))) (dYes) (dTup (aCons (dOp1 oNeg (dV 6)) (aCons (dV 5) (aNil)))))) (aNil)))) (pNo) (pAt (dV 2))))) (gT 2 (gConsD (gN 4) (gConsD (gN 5) (gNilD)))) (dSeq (dSetIx (dCal (g2 fMax2) (aCons (dOp2 oIx (dV 3) (dV 5)) (aCons (dV 2) (aNil)))) (dV 3) (dV 5)) (dSkip))) (dSeq (dRet (dV 3)) (dSkip)))))
noncomputable def den_best_putting : Den := runF 2 7 b_best_putting
theorem sc_best_putting : FnScope ["counts", "more", "h", "found", "_", "at", "one"] ["counts", "more"] (defScope (top 33)) := ⟨rfl, rfl, rfl, by decide +kernel, rfl, by decide +kernel, by decide +kernel⟩
theorem bo_best_putting (G : Gl K mg) (h_check : Fn P w K mg base 1 "check" 1 den_check) (h_is_count : Fn P w K mg base 2 "is_count" 1 den_is_count) (h_check_counts : Fn P w K mg base 4 "check_counts" 1 den_check_counts) (h_most_h : Fn P w K mg base 3 "most_h" 2 den_most_h) {f : Addr} : BodyOk P w K mg base ["counts", "more", "h", "found", "_", "at", "one"] "best_putting" (defScope (top 33)) f 4 (defBody (top 33)) b_best_putting := fun cdv A outer s H E C => ss_cons (ss_expr (se_callP C (by decide) h_check_counts (sa_cons (se_var 0) (sa_nil)))) (ss_cons (ss_expr (se_callP C (by decide) h_check (sa_cons (se_callP C (by decide) h_is_count (sa_cons (se_var 1) (sa_nil))) (sa_nil)))) (ss_cons (ss_par2 2 3 C (sb_cons (se_callP C (by decide) h_most_h (sa_cons (se_var 0) (sa_cons (se_var 1) (sa_nil)))) (sb_box (sf_listOf G.f_list (sa_cons (se_var 0) (sa_nil))) (sb_nil)))) (ss_cons (ss_for C (si_list (se_new (sf_slL (se_new (sf_sorted C G.f_sorted (sa_cons (se_new (sf_lc [("at", 5), ("one", 6)] C (si_enum G.f_enumerate (sa_cons (se_var 0) (sa_nil))) rfl (fun _ _ _ _ _ => sg_tup 2 (C.blk).calm (sgs_cons (sg_name 5 (C.blk).nd) (sgs_cons (sg_name 6 (C.blk).nd) (sgs_nil)))) (by decide) (fun _ _ _ _ _ => sc_nil) (fun _ _ _ _ _ => se_tup (sa_cons (se_neg (se_var 6)) (sa_cons (se_var 5) (sa_nil)))))) (sa_nil)))) (so_no) (so_at (se_var 2))))) (sg_tup 2 C.calm (sgs_cons (sg_name 4 C.nd) (sgs_cons (sg_name 5 C.nd) (sgs_nil)))) (ss_cons (ss_setIx (se_max2 C G.f_max (sa_cons (se_ix (se_var 3) (se_var 5)) (sa_cons (se_var 2) (sa_nil)))) (se_var 3) (se_var 5)) (ss_nil))) (ss_cons (ss_ret (se_var 3)) (ss_nil)))))
theorem ok_best_putting (G : Gl K mg) (h_check : Fn P w K mg base 1 "check" 1 den_check) (h_is_count : Fn P w K mg base 2 "is_count" 1 den_is_count) (h_check_counts : Fn P w K mg base 4 "check_counts" 1 den_check_counts) (h_most_h : Fn P w K mg base 3 "most_h" 2 den_most_h) {f : Addr} {fd : FuncData} (F : FunD K "best_putting" "best_putting" (defArgs (top 33)) (defBody (top 33)) (defScope (top 33)) [] [] f fd) (hg : mg "best_putting" = some (.ref f)) : Fn P w K mg base 5 "best_putting" 2 den_best_putting :=
  ⟨f, fd, ["counts", "more"], fn_ok F sc_best_putting (bo_best_putting G h_check h_is_count h_check_counts h_most_h), F.bindsN fun _ _ _ _ _ _ us hl => match us, hl with | [_, _], _ => rfl, F.kp, hg⟩
noncomputable def b_mean_of : dS := dSeq (dExp (dCallP 1 den_check_counts (aCons (dV 0) (aNil)))) (dSeq (dIfS (dTest (dOp2 (oB gEq) (dCal (g1 fLen) (aCons (dV 0) (aNil))) (dC (.int 0)))) (dSeq (dRaise "NoAnswer") (dSkip)) (dSkip)) (dSeq (dRet (dCallP 2 den_ratio (aCons (dCal (g1 fSumA) (aCons (dV 0) (aNil))) (aCons (dCal (g1 fLen) (aCons (dV 0) (aNil))) (aNil))))) (dSkip)))
noncomputable def den_mean_of : Den := runF 1 1 b_mean_of
theorem sc_mean_of : FnScope ["counts"] ["counts"] (defScope (top 34)) := ⟨rfl, rfl, rfl, by decide +kernel, rfl, by decide +kernel, by decide +kernel⟩
theorem bo_mean_of (G : Gl K mg) (h_ratio : Fn P w K mg base 2 "ratio" 2 den_ratio) (h_check_counts : Fn P w K mg base 4 "check_counts" 1 den_check_counts) {f : Addr} : BodyOk P w K mg base ["counts"] "mean_of" (defScope (top 34)) f 4 (defBody (top 34)) b_mean_of := fun cdv A outer s H E C => ss_cons (ss_expr (se_callP C (by decide) h_check_counts (sa_cons (se_var 0) (sa_nil)))) (ss_cons (ss_if (st_cmp (op_eqP C.hu) opD_rD (se_len G.f_len (sa_cons (se_var 0) (sa_nil))) (se_int)) (ss_cons (ss_raiseX C G.x_NoAnswer) (ss_nil)) (ss_nil)) (ss_cons (ss_ret (se_callP C (by decide) h_ratio (sa_cons (se_sumA C G.f_sum (sa_cons (se_var 0) (sa_nil))) (sa_cons (se_len G.f_len (sa_cons (se_var 0) (sa_nil))) (sa_nil))))) (ss_nil)))
theorem ok_mean_of (G : Gl K mg) (h_ratio : Fn P w K mg base 2 "ratio" 2 den_ratio) (h_check_counts : Fn P w K mg base 4 "check_counts" 1 den_check_counts) {f : Addr} {fd : FuncData} (F : FunD K "mean_of" "mean_of" (defArgs (top 34)) (defBody (top 34)) (defScope (top 34)) [] [] f fd) (hg : mg "mean_of" = some (.ref f)) : Fn P w K mg base 5 "mean_of" 1 den_mean_of :=
  ⟨f, fd, ["counts"], fn_ok F sc_mean_of (bo_mean_of G h_ratio h_check_counts), F.bindsN fun _ _ _ _ _ _ us hl => match us, hl with | [_], _ => rfl, F.kp, hg⟩
noncomputable def b_middle_of : dS := dSeq (dExp (dCallP 1 den_check_counts (aCons (dV 0) (aNil)))) (dSeq (dIfS (dTest (dOp2 (oB gEq) (dCal (g1 fLen) (aCons (dV 0) (aNil))) (dC (.int 0)))) (dSeq (dRaise "NoAnswer") (dSkip)) (dSkip)) (dSeq (dRet (dOp2 oIx (dNew (nCal (g1 fSorted) (aCons (dV 0) (aNil)))) (dOp2 oDiv (dOp2 oSub (dCal (g1 fLen) (aCons (dV 0) (aNil))) (dC (.int 1))) (dC (.int 2))))) (dSkip)))
noncomputable def den_middle_of : Den := runF 1 1 b_middle_of
theorem sc_middle_of : FnScope ["counts"] ["counts"] (defScope (top 35)) := ⟨rfl, rfl, rfl, by decide +kernel, rfl, by decide +kernel, by decide +kernel⟩
theorem bo_middle_of (G : Gl K mg) (h_check_counts : Fn P w K mg base 4 "check_counts" 1 den_check_counts) {f : Addr} : BodyOk P w K mg base ["counts"] "middle_of" (defScope (top 35)) f 4 (defBody (top 35)) b_middle_of := fun cdv A outer s H E C => ss_cons (ss_expr (se_callP C (by decide) h_check_counts (sa_cons (se_var 0) (sa_nil)))) (ss_cons (ss_if (st_cmp (op_eqP C.hu) opD_rD (se_len G.f_len (sa_cons (se_var 0) (sa_nil))) (se_int)) (ss_cons (ss_raiseX C G.x_NoAnswer) (ss_nil)) (ss_nil)) (ss_cons (ss_ret (se_ix (se_new (sf_sorted C G.f_sorted (sa_cons (se_var 0) (sa_nil)))) (se_div (se_sub (se_len G.f_len (sa_cons (se_var 0) (sa_nil))) (se_int)) (se_int)))) (ss_nil)))
theorem ok_middle_of (G : Gl K mg) (h_check_counts : Fn P w K mg base 4 "check_counts" 1 den_check_counts) {f : Addr} {fd : FuncData} (F : FunD K "middle_of" "middle_of" (defArgs (top 35)) (defBody (top 35)) (defScope (top 35)) [] [] f fd) (hg : mg "middle_of" = some (.ref f)) : Fn P w K mg base 5 "middle_of" 1 den_middle_of :=
  ⟨f, fd, ["counts"], fn_ok F sc_middle_of (bo_middle_of G h_check_counts), F.bindsN fun _ _ _ _ _ _ us hl => match us, hl with | [_], _ => rfl, F.kp, hg⟩
noncomputable def b_at_least : dS := dSeq (dExp (dCallP 1 den_check_counts (aCons (dV 0) (aNil)))) (dSeq (dExp (dCallP 1 den_check (aCons (dCallP 1 den_is_count (aCons (dV 1) (aNil))) (aNil)))) (dSeq (dRet (dCal (g1 fLen) (aCons (dNew (dLC (iL (dV 0)) [2] (gN 2) (dTest (dOp2 (oB gGe) (dV 2) (dV 1))) (dC (.int 1)))) (aNil)))) (dSkip)))
noncomputable def den_at_least : Den := runF 2 3 b_at_least
theorem sc_at_least : FnScope ["counts", "n", "one"] ["counts", "n"] (defScope (top 36)) := ⟨rfl, rfl, rfl, by decide +kernel, rfl, by decide +kernel, by decide +kernel⟩
theorem bo_at_least (G : Gl K mg) (h_check : Fn P w K mg base 1 "check" 1 den_check) (h_is_count : Fn P w K mg base 2 "is_count" 1 den_is_count) (h_check_counts : Fn P w K mg base 4 "check_counts" 1 den_check_counts) {f : Addr} : BodyOk P w K mg base ["counts", "n", "one"] "at_least" (defScope (top 36)) f 4 (defBody (top 36)) b_at_least := fun cdv A outer s H E C => ss_cons (ss_expr (se_callP C (by decide) h_check_counts (sa_cons (se_var 0) (sa_nil)))) (ss_cons (ss_expr (se_callP C (by decide) h_check (sa_cons (se_callP C (by decide) h_is_count (sa_cons (se_var 1) (sa_nil))) (sa_nil)))) (ss_cons (ss_ret (se_len G.f_len (sa_cons (se_new (sf_lc [("one", 2)] C (si_list (se_var 0)) rfl (fun _ _ _ _ _ => sg_name 2 (C.blk).nd) (by decide) (fun _ _ _ _ _ => sc_one (st_cmp (op_geD (C.blk).hu) opD_rD (se_var 2) (se_var 1))) (fun _ _ _ _ _ => se_int))) (sa_nil)))) (ss_nil)))
theorem ok_at_least (G : Gl K mg) (h_check : Fn P w K mg base 1 "check" 1 den_check) (h_is_count : Fn P w K mg base 2 "is_count" 1 den_is_count) (h_check_counts : Fn P w K mg base 4 "check_counts" 1 den_check_counts) {f : Addr} {fd : FuncData} (F : FunD K "at_least" "at_least" (defArgs (top 36)) (defBody (top 36)) (defScope (top 36)) [] [] f fd) (hg : mg "at_least" = some (.ref f)) : Fn P w K mg base 5 "at_least" 2 den_at_least :=
  ⟨f, fd, ["counts", "n"], fn_ok F sc_at_least (bo_at_least G h_check h_is_count h_check_counts), F.bindsN fun _ _ _ _ _ _ us hl => match us, hl with | [_, _], _ => rfl, F.kp, hg⟩
noncomputable def b_ranks : dS := dSeq (dExp (dCallP 1 den_check (aCons (dAnd (dIsi "list" (dV 0)) (dAnd (dChain gLe gLe (dC (.int 1)) (dCal (g1 fLen) (aCons (dV 0) (aNil))) (dC (.int 50))) (dCal (g1 fAll) (aCons (dNew (dLC (iL (dV 0)) [2] (gN 2) (dYes) (dCallP 1 den_are_counts (aCons (dV 2) (aNil))))) (aNil))))) (aNil)))) (dSeq (dAsg 1 (dNew (dLC (iL (dV 0)) [2] (gN 2) (dYes) (dTup (aCons (dCallP 1 den_h_by (aCons (dV 2) (aNil))) (aCons (dCallP 1 den_g_by (aCons (dV 2) (aNil))) (aCons (dCal (g1 fSumA) (aCons (dV 2) (aNil))) (aNil)))))))) (dSeq (dRet (dNew (dLC (iL (dV 1)) [3] (gN 3) (dYes) (dOp2 oAddA (dC (.int 1)) (dCal (g1 fLen) (aCons (dNew (dLC (iL (dV 1)) [4] (gN 4) (dTest (dOp2 (oB gGt) (dV 4) (dV 3))) (dC (.int 1)))) (aNil))))))) (dSkip)))
noncomputable def den_ranks : Den := runF 1 5 b_ranks
theorem sc_ranks : FnScope ["rows", "worths", "row", "one", "other"] ["rows"] (defScope (top 37)) := ⟨rfl, rfl, rfl, by decide +kernel, rfl, by decide +kernel, by decide +kernel⟩
theorem bo_ranks (G : Gl K mg) (h_check : Fn P w K mg base 1 "check" 1 den_check) (h_are_counts : Fn P w K mg base 3 "are_counts" 1 den_are_counts) (h_h_by : Fn P w K mg base 2 "h_by" 1 den_h_by) (h_g_by : Fn P w K mg base 2 "g_by" 1 den_g_by) {f : Addr} : BodyOk P w K mg base ["rows", "worths", "row", "one", "other"] "ranks" (defScope (top 37)) f 3 (defBody (top 37)) b_ranks := fun cdv A outer s H E C => ss_cons (ss_expr (se_callP C (by decide) h_check (sa_cons (se_and (se_isi G.f_isinstance G.f_list (se_var 0) PyProof.Rows.boot_list) (se_and (se_chain (op_leD C.hu) (op_leD C.hu) (se_int) (se_len G.f_len (sa_cons (se_var 0) (sa_nil))) (se_gint G.c_MOST_ROWS)) (se_one (se_all C G.f_all (sa_cons (se_new (sf_lc [("row", 2)] C (si_list (se_var 0)) rfl (fun _ _ _ _ _ => sg_name 2 (C.blk).nd) (by decide) (fun _ _ _ _ _ => sc_nil) (fun _ _ _ _ _ => se_callP (C.blk) (by decide) h_are_counts (sa_cons (se_var 2) (sa_nil))))) (sa_nil)))))) (sa_nil)))) (ss_cons (ss_asg 1 C.nd (se_new (sf_lc [("row", 2)] C (si_list (se_var 0)) rfl (fun _ _ _ _ _ => sg_name 2 (C.blk).nd) (by decide) (fun _ _ _ _ _ => sc_nil) (fun _ _ _ _ _ => se_tup (sa_cons (se_callP (C.blk) (by decide) h_h_by (sa_cons (se_var 2) (sa_nil))) (sa_cons (se_callP (C.blk) (by decide) h_g_by (sa_cons (se_var 2) (sa_nil))) (sa_cons (se_sumA (C.blk) G.f_sum (sa_cons (se_var 2) (sa_nil))) (sa_nil)))))))) (ss_cons (ss_ret (se_new (sf_lc [("one", 3)] C (si_list (se_var 1)) rfl (fun _ _ _ _ _ => sg_name 3 (C.blk).nd) (by decide) (fun _ _ _ _ _ => sc_nil) (fun _ _ _ _ _ => se_addA (se_int) (se_len G.f_len (sa_cons (se_new (sf_lc [("other", 4)] (C.blk) (si_list (se_var 1)) rfl (fun _ _ _ _ _ => sg_name 4 (C.blk.blk).nd) (by decide) (fun _ _ _ _ _ => sc_one (st_cmp (op_gtD (C.blk.blk).hu) opD_rD (se_var 4) (se_var 3))) (fun _ _ _ _ _ => se_int))) (sa_nil))))))) (ss_nil)))
theorem ok_ranks (G : Gl K mg) (h_check : Fn P w K mg base 1 "check" 1 den_check) (h_are_counts : Fn P w K mg base 3 "are_counts" 1 den_are_counts) (h_h_by : Fn P w K mg base 2 "h_by" 1 den_h_by) (h_g_by : Fn P w K mg base 2 "g_by" 1 den_g_by) {f : Addr} {fd : FuncData} (F : FunD K "ranks" "ranks" (defArgs (top 37)) (defBody (top 37)) (defScope (top 37)) [] [] f fd) (hg : mg "ranks" = some (.ref f)) : Fn P w K mg base 4 "ranks" 1 den_ranks :=
  ⟨f, fd, ["rows"], fn_ok F sc_ranks (bo_ranks G h_check h_are_counts h_h_by h_g_by), F.bindsN fun _ _ _ _ _ _ us hl => match us, hl with | [_], _ => rfl, F.kp, hg⟩
noncomputable def b_takes_h : dS := dSeq (dExp (dCallP 1 den_check (aCons (dAnd (dIsi "list" (dV 0)) (dAnd (dOp2 (oB gLe) (dCal (g1 fLen) (aCons (dV 0) (aNil))) (dC (.int 500))) (dCal (g1 fAll) (aCons (dNew (dLC (iL (dV 0)) [2] (gN 2) (dYes) (dCallP 3 den_is_within (aCons (dV 2) (aCons (dC (.int 0)) (aCons (dC (.int 1000000)) (aNil))))))) (aNil))))) (aNil)))) (dSeq (dIfS (tdOr (tdNot (dTru (dCallP 1 den_is_integer (aCons (dV 1) (aNil))))) (dTest (dOp2 (oB gLt) (dV 1) (dC (.int 0))))) (dSeq (dRet (dC (.bool false))) (dSkip)) (dSkip)) (dSeq (dRet (dAnd (dOp2 (oB gGe) (dCal (g1 fLen) (aCons (dNew (dLC (iL (dV 0)) [2] (gN 2) (dTest (dOp2 (oB gGe) (dV 2) (dV 1))) (dC (.int 1)))) (aNil))) (dV 1)) (dOp2 (oB gLe) (dCal (g1 fLen) (aCons (dNew (dLC (iL (dV 0)) [2] (gN 2) (dTest (dOp2 (oB gGt) (dV 2) (dV 1))) (dC (.int 1)))) (aNil))) (dV 1)))) (dSkip)))
noncomputable def den_takes_h : Den := runF 2 3 b_takes_h
theorem sc_takes_h : FnScope ["counts", "h", "one"] ["counts", "h"] (defScope (top 39)) := ⟨rfl, rfl, rfl, by decide +kernel, rfl, by decide +kernel, by decide +kernel⟩
theorem bo_takes_h (G : Gl K mg) (h_is_integer : Fn P w K mg base 1 "is_integer" 1 den_is_integer) (h_is_within : Fn P w K mg base 2 "is_within" 3 den_is_within) (h_check : Fn P w K mg base 1 "check" 1 den_check) {f : Addr} : BodyOk P w K mg base ["counts", "h", "one"] "takes_h" (defScope (top 39)) f 2 (defBody (top 39)) b_takes_h := fun cdv A outer s H E C => ss_cons (ss_expr (se_callP C (by decide) h_check (sa_cons (se_and (se_isi G.f_isinstance G.f_list (se_var 0) PyProof.Rows.boot_list) (se_and (se_cmp (op_leD C.hu) opD_rD (se_len G.f_len (sa_cons (se_var 0) (sa_nil))) (se_int)) (se_one (se_all C G.f_all (sa_cons (se_new (sf_lc [("one", 2)] C (si_list (se_var 0)) rfl (fun _ _ _ _ _ => sg_name 2 (C.blk).nd) (by decide) (fun _ _ _ _ _ => sc_nil) (fun _ _ _ _ _ => se_callP (C.blk) (by decide) h_is_within (sa_cons (se_var 2) (sa_cons (se_int) (sa_cons (se_int) (sa_nil))))))) (sa_nil)))))) (sa_nil)))) (ss_cons (ss_if (SW.st (sw_or (st_not (st_val (se_callP C (by decide) h_is_integer (sa_cons (se_var 1) (sa_nil))))) (sw_or1 (st_cmp (op_ltD C.hu) opD_rD (se_var 1) (se_int))))) (ss_cons (ss_ret (se_bl)) (ss_nil)) (ss_nil)) (ss_cons (ss_ret (se_and (se_cmp (op_geD C.hu) opD_rD (se_len G.f_len (sa_cons (se_new (sf_lc [("one", 2)] C (si_list (se_var 0)) rfl (fun _ _ _ _ _ => sg_name 2 (C.blk).nd) (by decide) (fun _ _ _ _ _ => sc_one (st_cmp (op_geD (C.blk).hu) opD_rD (se_var 2) (se_var 1))) (fun _ _ _ _ _ => se_int))) (sa_nil))) (se_var 1)) (se_one (se_cmp (op_leD C.hu) opD_rD (se_len G.f_len (sa_cons (se_new (sf_lc [("one", 2)] C (si_list (se_var 0)) rfl (fun _ _ _ _ _ => sg_name 2 (C.blk).nd) (by decide) (fun _ _ _ _ _ => sc_one (st_cmp (op_gtD (C.blk).hu) opD_rD (se_var 2) (se_var 1))) (fun _ _ _ _ _ => se_int))) (sa_nil))) (se_var 1))))) (ss_nil)))
theorem ok_takes_h (G : Gl K mg) (h_is_integer : Fn P w K mg base 1 "is_integer" 1 den_is_integer) (h_is_within : Fn P w K mg base 2 "is_within" 3 den_is_within) (h_check : Fn P w K mg base 1 "check" 1 den_check) {f : Addr} {fd : FuncData} (F : FunD K "takes_h" "takes_h" (defArgs (top 39)) (defBody (top 39)) (defScope (top 39)) [] [] f fd) (hg : mg "takes_h" = some (.ref f)) : Fn P w K mg base 3 "takes_h" 2 den_takes_h :=
  ⟨f, fd, ["counts", "h"], fn_ok F sc_takes_h (bo_takes_h G h_is_integer h_is_within h_check), F.bindsN fun _ _ _ _ _ _ us hl => match us, hl with | [_, _], _ => rfl, F.kp, hg⟩
noncomputable def b__law_draws : dS := dSeq (dBox 1 (nLst (aNil))) (dSeq (dFor (iL (dV 0)) (gN 2) (dSeq (dAsg 3 (dOp2 oMod (dCal (g1 fInt) (aCons (dCal (g1 fAbs) (aCons (dV 2) (aNil))) (aNil))) (dOp2 oPow (dC (.int 997)) (dC (.int 60))))) (dSeq (dIfS (dTest (dOp2 (oB gLt) (dV 3) (dOp2 oPow (dC (.int 10)) (dC (.int 18))))) (dSeq (dAsg 4 (dOp2 oMod (dCal (g1 fInt) (aCons (dOp2 oAddA (dOp2 oMulA (dV 3) (dC (.int 48271))) (dC (.int 11))) (aNil))) (dC (.int 2147483647)))) (dSeq (dExp (dApp (dV 1) (aCons (dOp2 oMod (dCal (g1 fInt) (aCons (dOp2 oAddA (dOp2 oMulA (dV 4) (dC (.int 69621))) (dV 3)) (aNil))) (dC (.int 2147483629))) (aNil)))) (dSeq (dExp (dApp (dV 1) (aCons (dOp2 oMod (dCal (g1 fInt) (aCons (dOp2 oAddA (dV 4) (dOp2 oDiv (dV 3) (dC (.int 7)))) (aNil))) (dC (.int 1000003))) (aNil)))) (dSeq (dAsg 3 (dC (.int 0))) (dSkip))))) (dSkip)) (dSeq (dFor (iR1 (aCons (dC (.int 60)) (aNil))) (gN 5) (dSeq (dIfS (dTest (dOp2 (oB gGt) (dV 3) (dC (.int 0)))) (dSeq (dExp (dApp (dV 1) (aCons (dOp2 oMod (dCal (g1 fInt) (aCons (dV 3) (aNil))) (dC (.int 997))) (aNil)))) (dSeq (dAsg 3 (dOp2 oDiv (dV 3) (dC (.int 997)))) (dSkip))) (dSkip)) (dSkip))) (dSkip))))) (dSeq (dAsg 6 (dC (.int 1))) (dSeq (dIfS (dTest (dOp2 (oB gGt) (dCal (g1 fLen) (aCons (dV 0) (aNil))) (dC (.int 0)))) (dSeq (dAsg 6 (dOp2 oAddA (dC (.int 1)) (dCal (g1 fAbs) (aCons (dOp2 oIx (dV 0) (dC (.int 0))) (aNil))))) (dSkip)) (dSkip)) (dSeq (dFor (iR1 (aCons (dC (.int 2000)) (aNil))) (gN 5) (dSeq (dAsg 6 (dOp2 oMod (dCal (g1 fInt) (aCons (dOp2 oAddA (dOp2 oMulA (dV 6) (dC (.int 48271))) (dC (.int 69621))) (aNil))) (dC (.int 2147483647)))) (dSeq (dExp (dApp (dV 1) (aCons (dOp2 oDiv (dV 6) (dC (.int 5))) (aNil)))) (dSkip)))) (dSeq (dRetB (nRev (dV 1))) (dSkip))))))
noncomputable def den__law_draws : List SV → Sto → R D := runFF 1 7 b__law_draws
theorem sc__law_draws : FnScope ["script", "draws", "cell", "number", "first", "k", "seed"] ["script"] (defScope (top 41)) := ⟨rfl, rfl, rfl, by decide +kernel, rfl, by decide +kernel, by decide +kernel⟩
theorem bo__law_draws (G : Gl K mg)  {f : Addr} : BodyOk P w K mg base ["script", "draws", "cell", "number", "first", "k", "seed"] "_law_draws" (defScope (top 41)) f 0 (defBody (top 41)) b__law_draws := fun cdv A outer s H E C => ss_cons (ss_box 1 C.nd (sf_lst (sa_nil))) (ss_cons (ss_for C (si_list (se_var 0)) (sg_name 2 C.nd) (ss_cons (ss_asg 3 C.nd (se_mod (se_intOf G.f_int (sa_cons (se_abs G.f_abs (sa_cons (se_var 2) (sa_nil))) (sa_nil))) (se_pow (se_int) (se_int)))) (ss_cons (ss_if (st_cmp (op_ltD C.hu) opD_rD (se_var 3) (se_pow (se_int) (se_int))) (ss_cons (ss_asg 4 C.nd (se_mod (se_intOf G.f_int (sa_cons (se_addA (se_mulA (se_var 3) (se_int)) (se_int)) (sa_nil))) (se_int))) (ss_cons (ss_expr (se_app (se_var 1) (sa_cons (se_mod (se_intOf G.f_int (sa_cons (se_addA (se_mulA (se_var 4) (se_int)) (se_var 3)) (sa_nil))) (se_int)) (sa_nil)))) (ss_cons (ss_expr (se_app (se_var 1) (sa_cons (se_mod (se_intOf G.f_int (sa_cons (se_addA (se_var 4) (se_div (se_var 3) (se_int))) (sa_nil))) (se_int)) (sa_nil)))) (ss_cons (ss_asg 3 C.nd (se_int)) (ss_nil))))) (ss_nil)) (ss_cons (ss_for C (si_range1 G.f_range (sa_cons (se_int) (sa_nil))) (sg_name 5 C.nd) (ss_cons (ss_if (st_cmp (op_gtD C.hu) opD_rD (se_var 3) (se_int)) (ss_cons (ss_expr (se_app (se_var 1) (sa_cons (se_mod (se_intOf G.f_int (sa_cons (se_var 3) (sa_nil))) (se_int)) (sa_nil)))) (ss_cons (ss_asg 3 C.nd (se_div (se_var 3) (se_int))) (ss_nil))) (ss_nil)) (ss_nil))) (ss_nil))))) (ss_cons (ss_asg 6 C.nd (se_int)) (ss_cons (ss_if (st_cmp (op_gtD C.hu) opD_rD (se_len G.f_len (sa_cons (se_var 0) (sa_nil))) (se_int)) (ss_cons (ss_asg 6 C.nd (se_addA (se_int) (se_abs G.f_abs (sa_cons (se_ix (se_var 0) (se_int)) (sa_nil))))) (ss_nil)) (ss_nil)) (ss_cons (ss_for C (si_range1 G.f_range (sa_cons (se_int) (sa_nil))) (sg_name 5 C.nd) (ss_cons (ss_asg 6 C.nd (se_mod (se_intOf G.f_int (sa_cons (se_addA (se_mulA (se_var 6) (se_int)) (se_int)) (sa_nil))) (se_int))) (ss_cons (ss_expr (se_app (se_var 1) (sa_cons (se_div (se_var 6) (se_int)) (sa_nil)))) (ss_nil)))) (ss_cons (ss_retB (sf_lstRev C G.f_list G.f_reversed (se_var 1))) (ss_nil))))))
theorem ok__law_draws (G : Gl K mg)  {f : Addr} {fd : FuncData} (F : FunD K "_law_draws" "_law_draws" (defArgs (top 41)) (defBody (top 41)) (defScope (top 41)) [] [] f fd) (hg : mg "_law_draws" = some (.ref f)) : FnF P w K mg base 1 "_law_draws" 1 den__law_draws :=
  ⟨f, fd, ["script"], fn_okF F sc__law_draws (bo__law_draws G ), F.bindsN fun _ _ _ _ _ _ us hl => match us, hl with | [_], _ => rfl, F.kp, hg⟩
noncomputable def b__law_take : dS := dSeq (dIfS (dTest (dOp2 (oB gEq) (dCal (g1 fLen) (aCons (dV 0) (aNil))) (dC (.int 0)))) (dSeq (dRet (dC (.int 0))) (dSkip)) (dSkip)) (dSeq (dRet (dOp2 oMod (dCal (g1 fInt) (aCons (dPop (dV 0)) (aNil))) (dV 1))) (dSkip))
noncomputable def den__law_take : Den := runF 2 2 b__law_take
theorem sc__law_take : FnScope ["draws", "bound"] ["draws", "bound"] (defScope (top 42)) := ⟨rfl, rfl, rfl, by decide +kernel, rfl, by decide +kernel, by decide +kernel⟩
theorem bo__law_take (G : Gl K mg)  {f : Addr} : BodyOk P w K mg base ["draws", "bound"] "_law_take" (defScope (top 42)) f 0 (defBody (top 42)) b__law_take := fun cdv A outer s H E C => ss_cons (ss_if (st_cmp (op_eqP C.hu) opD_rD (se_len G.f_len (sa_cons (se_var 0) (sa_nil))) (se_int)) (ss_cons (ss_ret (se_int)) (ss_nil)) (ss_nil)) (ss_cons (ss_ret (se_mod (se_intOf G.f_int (sa_cons (se_pop (se_var 0)) (sa_nil))) (se_var 1))) (ss_nil))
theorem ok__law_take (G : Gl K mg)  {f : Addr} {fd : FuncData} (F : FunD K "_law_take" "_law_take" (defArgs (top 42)) (defBody (top 42)) (defScope (top 42)) [] [] f fd) (hg : mg "_law_take" = some (.ref f)) : Fn P w K mg base 1 "_law_take" 2 den__law_take :=
  ⟨f, fd, ["draws", "bound"], fn_ok F sc__law_take (bo__law_take G ), F.bindsN fun _ _ _ _ _ _ us hl => match us, hl with | [_, _], _ => rfl, F.kp, hg⟩
noncomputable def b__law_pick : dS := dSeq (dRet (dOp2 oIx (dV 1) (dCallB 2 den__law_take (aCons (dV 0) (aCons (dCal (g1 fLen) (aCons (dV 1) (aNil))) (aNil)))))) (dSkip)
noncomputable def den__law_pick : Den := runF 2 2 b__law_pick
theorem sc__law_pick : FnScope ["draws", "some"] ["draws", "some"] (defScope (top 43)) := ⟨rfl, rfl, rfl, by decide +kernel, rfl, by decide +kernel, by decide +kernel⟩
theorem bo__law_pick (G : Gl K mg) (h__law_take : Fn P w K mg base 1 "_law_take" 2 den__law_take) {f : Addr} : BodyOk P w K mg base ["draws", "some"] "_law_pick" (defScope (top 43)) f 1 (defBody (top 43)) b__law_pick := fun cdv A outer s H E C => ss_cons (ss_ret (se_ix (se_var 1) (se_callB C (by decide) h__law_take (sa_cons (se_var 0) (sa_cons (se_len G.f_len (sa_cons (se_var 1) (sa_nil))) (sa_nil)))))) (ss_nil)
theorem ok__law_pick (G : Gl K mg) (h__law_take : Fn P w K mg base 1 "_law_take" 2 den__law_take) {f : Addr} {fd : FuncData} (F : FunD K "_law_pick" "_law_pick" (defArgs (top 43)) (defBody (top 43)) (defScope (top 43)) [] [] f fd) (hg : mg "_law_pick" = some (.ref f)) : Fn P w K mg base 2 "_law_pick" 2 den__law_pick :=
  ⟨f, fd, ["draws", "some"], fn_ok F sc__law_pick (bo__law_pick G h__law_take), F.bindsN fun _ _ _ _ _ _ us hl => match us, hl with | [_, _], _ => rfl, F.kp, hg⟩
noncomputable def b__law_mixed : dS := dSeq (dBox 2 (nCal (g1 fList) (aCons (dV 1) (aNil)))) (dSeq (dBox 3 (nLst (aNil))) (dSeq (dFor (iR1 (aCons (dCal (g1 fLen) (aCons (dV 1) (aNil))) (aNil))) (gN 4) (dSeq (dExp (dApp (dV 3) (aCons (dPopI (dV 2) (aCons (dCallB 2 den__law_take (aCons (dV 0) (aCons (dCal (g1 fLen) (aCons (dV 2) (aNil))) (aNil)))) (aNil))) (aNil)))) (dSkip))) (dSeq (dRet (dV 3)) (dSkip))))
noncomputable def den__law_mixed : Den := runF 2 5 b__law_mixed
theorem sc__law_mixed : FnScope ["draws", "items", "left", "found", "k"] ["draws", "items"] (defScope (top 44)) := ⟨rfl, rfl, rfl, by decide +kernel, rfl, by decide +kernel, by decide +kernel⟩
theorem bo__law_mixed (G : Gl K mg) (h__law_take : Fn P w K mg base 1 "_law_take" 2 den__law_take) {f : Addr} : BodyOk P w K mg base ["draws", "items", "left", "found", "k"] "_law_mixed" (defScope (top 44)) f 1 (defBody (top 44)) b__law_mixed := fun cdv A outer s H E C => ss_cons (ss_box 2 C.nd (sf_listOf G.f_list (sa_cons (se_var 1) (sa_nil)))) (ss_cons (ss_box 3 C.nd (sf_lst (sa_nil))) (ss_cons (ss_for C (si_range1 G.f_range (sa_cons (se_len G.f_len (sa_cons (se_var 1) (sa_nil))) (sa_nil))) (sg_name 4 C.nd) (ss_cons (ss_expr (se_app (se_var 3) (sa_cons (se_popI (se_var 2) (sa_cons (se_callB C (by decide) h__law_take (sa_cons (se_var 0) (sa_cons (se_len G.f_len (sa_cons (se_var 2) (sa_nil))) (sa_nil)))) (sa_nil))) (sa_nil)))) (ss_nil))) (ss_cons (ss_ret (se_var 3)) (ss_nil))))
theorem ok__law_mixed (G : Gl K mg) (h__law_take : Fn P w K mg base 1 "_law_take" 2 den__law_take) {f : Addr} {fd : FuncData} (F : FunD K "_law_mixed" "_law_mixed" (defArgs (top 44)) (defBody (top 44)) (defScope (top 44)) [] [] f fd) (hg : mg "_law_mixed" = some (.ref f)) : Fn P w K mg base 2 "_law_mixed" 2 den__law_mixed :=
  ⟨f, fd, ["draws", "items"], fn_ok F sc__law_mixed (bo__law_mixed G h__law_take), F.bindsN fun _ _ _ _ _ _ us hl => match us, hl with | [_, _], _ => rfl, F.kp, hg⟩
noncomputable def b__law_same (rec : Den) : dS := dSeq (dIfS (dTru (dIsi "dict" (dV 1))) (dSeq (dIfS (tdOr (tdNot (dTru (dIsi "dict" (dV 0)))) (dTest (dOp2 (oB gNe) (dNew (nCal (g1 fSorted) (aCons (dNew (nCal (g1 fList) (aCons (dV 0) (aNil)))) (aNil)))) (dNew (nCal (g1 fSorted) (aCons (dNew (nCal (g1 fList) (aCons (dV 1) (aNil)))) (aNil))))))) (dSeq (dRet (dC (.bool false))) (dSkip)) (dSkip)) (dSeq (dRet (dCal (g1 fAll) (aCons (dNew (dLC (iL (dV 1)) [2] (gN 2) (dYes) (dCallP 2 rec (aCons (dOp2 oIx (dV 0) (dV 2)) (aCons (dOp2 oIx (dV 1) (dV 2)) (aNil)))))) (aNil)))) (dSkip))) (dSkip)) (dSeq (dIfS (tdOr (dTru (dIsi "tuple" (dV 1))) (dTru (dIsi "list" (dV 1)))) (dSeq (dIfS (tdOr (dTest (dOp2 (oB gNe) (dIsi "tuple" (dV 1)) (dIsi "tuple" (dV 0)))) (dTest (dOp2 (oB gNe) (dIsi "list" (dV 1)) (dIsi "list" (dV 0))))) (dSeq (dRet (dC (.bool false))) (dSkip)) (dSkip)) (dSeq (dRet (dAnd (dOp2 (oB gEq) (dCal (g1 fLen) (aCons (dV 0) (aNil))) (dCal (g1 fLen) (aCons (dV 1) (aNil)))) (dCal (g1 fAll) (aCons (dNew (dLC (iR1 (aCons (dCal (g1 fLen) (aCons (dV 1) (aNil))) (aNil))) [3] (gN 3) (dYes) (dCallP 2 rec (aCons (dOp2 oIx (dV 0) (dV 3)) (aCons (dOp2 oIx (dV 1) (dV 3)) (aNil)))))) (aNil))))) (dSkip))) (dSkip)) (dSeq (dIfS (dTest (dOp2 (oB gIs) (dV 1) (dC .none))) (dSeq (dRet (dOp2 (oB gIs) (dV 0) (dC .none))) (dSkip)) (dSkip)) (dSeq (dIfS (dTest (dOp2 (oB gNe) (dIsi "bool" (dV 1)) (dIsi "bool" (dV 0)))) (dSeq (dRet (dC (.bool false))) (dSkip)) (dSkip)) (dSeq (dIfS (tdOr (dTest (dOp2 (oB gNe) (dIsi "int" (dV 1)) (dIsi "int" (dV 0)))) (dTest (dOp2 (oB gNe) (dIsi "str" (dV 1)) (dIsi "str" (dV 0))))) (dSeq (dRet (dC (.bool false))) (dSkip)) (dSkip)) (dSeq (dRet (dOp2 (oB gEq) (dV 0) (dV 1))) (dSkip))))))
noncomputable def den__law_same : Nat → Den
  | 0 => fun _ _ => .bad
  | d + 1 => runF 2 4 (b__law_same (den__law_same d))
theorem sc__law_same : FnScope ["told", "due", "key", "k"] ["told", "due"] (defScope (top 45)) := ⟨rfl, rfl, rfl, by decide +kernel, rfl, by decide +kernel, by decide +kernel⟩
theorem bo__law_same (G : Gl K mg)  (rec : Den) {j : Nat} (h__law_same : Fn P w K mg base j "_law_same" 2 rec) (hj : 0 ≤ j) {f : Addr} : BodyOk P w K mg base ["told", "due", "key", "k"] "_law_same" (defScope (top 45)) f j (defBody (top 45)) (b__law_same rec) := fun cdv A outer s H E C => ss_cons (ss_if (st_val (se_isi G.f_isinstance G.f_dict (se_var 1) PyProof.Rows.boot_dict)) (ss_cons (ss_if (SW.st (sw_or (st_not (st_val (se_isi G.f_isinstance G.f_dict (se_var 0) PyProof.Rows.boot_dict))) (sw_or1 (st_cmp (op_neP C.hu) opD_rD (se_new (sf_sorted C G.f_sorted (sa_cons (se_new (sf_listOf G.f_list (sa_cons (se_var 0) (sa_nil)))) (sa_nil)))) (se_new (sf_sorted C G.f_sorted (sa_cons (se_new (sf_listOf G.f_list (sa_cons (se_var 1) (sa_nil)))) (sa_nil)))))))) (ss_cons (ss_ret (se_bl)) (ss_nil)) (ss_nil)) (ss_cons (ss_ret (se_all C G.f_all (sa_cons (se_new (sf_lc [("key", 2)] C (si_list (se_var 1)) rfl (fun _ _ _ _ _ => sg_name 2 (C.blk).nd) (by decide) (fun _ _ _ _ _ => sc_nil) (fun _ _ _ _ _ => se_callP (C.blk) (Nat.le_refl _) h__law_same (sa_cons (se_ix (se_var 0) (se_var 2)) (sa_cons (se_ix (se_var 1) (se_var 2)) (sa_nil)))))) (sa_nil)))) (ss_nil))) (ss_nil)) (ss_cons (ss_if (SW.st (sw_or (st_val (se_isi G.f_isinstance G.f_tuple (se_var 1) PyProof.Rows.boot_tuple)) (sw_or1 (st_val (se_isi G.f_isinstance G.f_list (se_var 1) PyProof.Rows.boot_list))))) (ss_cons (ss_if (SW.st (sw_or (st_cmp (op_neP C.hu) opD_rD (se_isi G.f_isinstance G.f_tuple (se_var 1) PyProof.Rows.boot_tuple) (se_isi G.f_isinstance G.f_tuple (se_var 0) PyProof.Rows.boot_tuple)) (sw_or1 (st_cmp (op_neP C.hu) opD_rD (se_isi G.f_isinstance G.f_list (se_var 1) PyProof.Rows.boot_list) (se_isi G.f_isinstance G.f_list (se_var 0) PyProof.Rows.boot_list))))) (ss_cons (ss_ret (se_bl)) (ss_nil)) (ss_nil)) (ss_cons (ss_ret (se_and (se_cmp (op_eqP C.hu) opD_rD (se_len G.f_len (sa_cons (se_var 0) (sa_nil))) (se_len G.f_len (sa_cons (se_var 1) (sa_nil)))) (se_one (se_all C G.f_all (sa_cons (se_new (sf_lc [("k", 3)] C (si_range1 G.f_range (sa_cons (se_len G.f_len (sa_cons (se_var 1) (sa_nil))) (sa_nil))) rfl (fun _ _ _ _ _ => sg_name 3 (C.blk).nd) (by decide) (fun _ _ _ _ _ => sc_nil) (fun _ _ _ _ _ => se_callP (C.blk) (Nat.le_refl _) h__law_same (sa_cons (se_ix (se_var 0) (se_var 3)) (sa_cons (se_ix (se_var 1) (se_var 3)) (sa_nil)))))) (sa_nil)))))) (ss_nil))) (ss_nil)) (ss_cons (ss_if (st_cmp op_isP opD_rD (se_var 1) (se_non)) (ss_cons (ss_ret (se_cmp op_isP opD_rD (se_var 0) (se_non))) (ss_nil)) (ss_nil)) (ss_cons (ss_if (st_cmp (op_neP C.hu) opD_rD (se_isi G.f_isinstance G.f_bool (se_var 1) CB.boot_bool) (se_isi G.f_isinstance G.f_bool (se_var 0) CB.boot_bool)) (ss_cons (ss_ret (se_bl)) (ss_nil)) (ss_nil)) (ss_cons (ss_if (SW.st (sw_or (st_cmp (op_neP C.hu) opD_rD (se_isi G.f_isinstance G.f_int (se_var 1) PyProof.Rows.boot_int) (se_isi G.f_isinstance G.f_int (se_var 0) PyProof.Rows.boot_int)) (sw_or1 (st_cmp (op_neP C.hu) opD_rD (se_isi G.f_isinstance G.f_str (se_var 1) PyProof.Rows.boot_str) (se_isi G.f_isinstance G.f_str (se_var 0) PyProof.Rows.boot_str))))) (ss_cons (ss_ret (se_bl)) (ss_nil)) (ss_nil)) (ss_cons (ss_ret (se_cmp (op_eqP C.hu) opD_rD (se_var 0) (se_var 1))) (ss_nil))))))
theorem ok__law_same_at (G : Gl K mg)  {f : Addr} {fd : FuncData} (F : FunD K "_law_same" "_law_same" (defArgs (top 45)) (defBody (top 45)) (defScope (top 45)) [] [] f fd) (hg : mg "_law_same" = some (.ref f)) : ∀ d : Nat, Fn P w K mg base (0 + d) "_law_same" 2 (den__law_same d)
  | 0 => ⟨f, fd, ["told", "due"], fn_bad, F.bindsN fun _ _ _ _ _ _ us hl => match us, hl with | [_, _], _ => rfl, F.kp, hg⟩
  | d + 1 => ⟨f, fd, ["told", "due"], fn_ok F sc__law_same (bo__law_same G  (den__law_same d) (ok__law_same_at G  F hg d) (Nat.le_add_right _ _)), F.bindsN fun _ _ _ _ _ _ us hl => match us, hl with | [_, _], _ => rfl, F.kp, hg⟩
theorem ok__law_same (G : Gl K mg)  {f : Addr} {fd : FuncData} (F : FunD K "_law_same" "_law_same" (defArgs (top 45)) (defBody (top 45)) (defScope (top 45)) [] [] f fd) (hg : mg "_law_same" = some (.ref f)) : Fn P w K mg base 8 "_law_same" 2 (den__law_same 8) := ok__law_same_at G  F hg 8
def b__law_kind : dS := dSeq (dRet (dOp2 oAddA (dC (.str "refused ")) (dCal (g1 fStr) (aCons (dCal (g1 fSum) (aCons (dNew (dLC (iR1 (aCons (dC (.int 4)) aNil)) [2] (gN 2) dYes (dOp2 oMulA (dOp2 oAddA (dV 2) (dC (.int 1))) (dCal (g1 fInt) (aCons (dOp2 oIx (dV 1) (dV 2)) aNil))))) aNil)) aNil)))) dSkip
theorem sc__law_kind : FnScope ["error", "kinds", "k"] ["error"] (defScope (top 46)) := ⟨rfl, rfl, rfl, by decide +kernel, rfl, by decide +kernel, by decide +kernel⟩
theorem one__law_kind (G : Gl K mg) {f : Addr} {cdv : Value} {A : Around} {outer : List PySem.Env} {s : Shared} {H F : Hp} {Q : VK} {E : XK} {p : Addr × Obj} {c m : Str} {vs0 : Array Value} {b0 b1 b2 b3 : Bool} (hot : CH.HotP (L2H.cxH (L2N.CX P w) P w K mg base ["error", "kinds", "k"] "_law_kind" (defScope (top 46)) f cdv A outer s H E p) p) (eC : ExcC K (He.ga K c)) (hz : Zc (.ref (He.ga K c)) none p.2) (hv : p.2.data = .fields vs0) (e : Same F H)
    (ki0 : PySem.W.kitOne K (.ref (He.ga K c)) (.ref (He.ga K "NotRight")) = some b0) (ki1 : PySem.W.kitOne K (.ref (He.ga K c)) (.ref (He.ga K "NotThere")) = some b1) (ki2 : PySem.W.kitOne K (.ref (He.ga K c)) (.ref (He.ga K "NoAnswer")) = some b2) (ki3 : PySem.W.kitOne K (.ref (He.ga K c)) (.ref (He.ga K "TooLarge")) = some b3)
    (hfb : b__law_kind [none, some (.d (.list (List.map PyData.bool [b0, b1, b2, b3]))), none] [] = .rt (.d (.str m)) []) (hQ : ∀ F' H', Gro F H F' H' → Q (.str m) H') :
    ∃ t, PSs (L2H.cxH (L2N.CX P w) P w K mg base ["error", "kinds", "k"] "_law_kind" (defScope (top 46)) f cdv A outer s H E p) (defBody (top 46)) t ∧ t { nx := fun _ H' => Q .non H', rt := Q } (L2.start ["error", "kinds", "k"] [.ref p.1]) H := by
  have nd : (["error", "kinds", "k"] : List Str).Nodup := sc__law_kind.nd
  have h2 : SSs (L2H.cxH (L2N.CX P w) P w K mg base ["error", "kinds", "k"] "_law_kind" (defScope (top 46)) f cdv A outer s H E p) (WX0 E) ((defBody (top 46)).tail) b__law_kind := ss_cons (ss_ret (se_addA se_str (se_strOf G.f_str (sa_cons (se_sumH hot G.f_sum (sa_cons (se_new (sf_lcH 2 hot nd G.f_range (sa_cons se_int sa_nil) rfl rfl rfl (fun _ _ _ _ _ => pg_name nd rfl (Or.inl rfl)) (fun _ _ _ _ _ => se_mulA (se_addA (se_var 2) se_int) (se_intOf G.f_int (sa_cons (se_ix (se_var 1) (se_var 2)) sa_nil))))) sa_nil)) sa_nil)))) ss_nil
  obtain ⟨t2, p2, k2⟩ := h2
  refine ⟨_, pss_cons (ps_set (i := 1) nd rfl (Or.inr rfl) (pe_lst (pa_cons (kind_pe (c' := "NotRight") hot.mem eC hz ⟨_, hv⟩ G.f_isinstance G.x_NotRight.g) (pa_cons (kind_pe (c' := "NotThere") hot.mem eC hz ⟨_, hv⟩ G.f_isinstance G.x_NotThere.g) (pa_cons (kind_pe (c' := "NoAnswer") hot.mem eC hz ⟨_, hv⟩ G.f_isinstance G.x_NoAnswer.g) (pa_cons (kind_pe (c' := "TooLarge") hot.mem eC hz ⟨_, hv⟩ G.f_isinstance G.x_TooLarge.g) (pa_nil))))))) p2, ?_⟩
  exact kind_sem rfl ki0 <| kind_sem rfl ki1 <| kind_sem rfl ki2 <| kind_sem rfl ki3 <| ⟨by show 4 ≤ sizeLine; decide, fun q hq => kind_end (t2 := t2) (X := L2H.cxH (L2N.CX P w) P w K mg base ["error", "kinds", "k"] "_law_kind" (defScope (top 46)) f cdv A outer s H E p) (W := WX0 E) (bs := [b0, b1, b2, b3]) k2 e hq hfb hQ⟩
theorem ok__law_kind (G : Gl K mg) {f : Addr} {fd : FuncData} (F : FunD K "_law_kind" "_law_kind" (defArgs (top 46)) (defBody (top 46)) (defScope (top 46)) [] [] f fd) (hg : mg "_law_kind" = some (.ref f)) : FnK P w K mg base 1 "_law_kind" kd := by
  refine ⟨f, fd, ["error"], CH.fn_ofX F sc__law_kind (fun p vs H Q E h => ?_) (fun cdv A outer s H vs Q E p ho h => ?_), F.bindsN fun _ _ _ _ _ _ us hl => match us, hl with | [_], _ => rfl, F.kp, hg⟩
  · obtain ⟨_, _, _, _, rfl, _⟩ := h; rfl
  obtain ⟨c, m, vs0, F0, rfl, hz, hv, hk, e, hQ⟩ := h
  have hot : CH.HotP (L2H.cxH (L2N.CX P w) P w K mg base ["error", "kinds", "k"] "_law_kind" (defScope (top 46)) f cdv A outer s H E p) p := ⟨ho, List.mem_cons_self⟩
  have hm := PySem.mem_of_lookup hk
  simp only [kd, List.mem_cons, List.not_mem_nil, or_false, Prod.mk.injEq] at hm
  rcases hm with ⟨rfl, rfl⟩ | ⟨rfl, rfl⟩ | ⟨rfl, rfl⟩ | ⟨rfl, rfl⟩
  · exact one__law_kind G hot G.e_NotRight hz hv e G.k_NotRight_NotRight G.k_NotRight_NotThere G.k_NotRight_NoAnswer G.k_NotRight_TooLarge rfl hQ
  · exact one__law_kind G hot G.e_NotThere hz hv e G.k_NotThere_NotRight G.k_NotThere_NotThere G.k_NotThere_NoAnswer G.k_NotThere_TooLarge rfl hQ
  · exact one__law_kind G hot G.e_NoAnswer hz hv e G.k_NoAnswer_NotRight G.k_NoAnswer_NotThere G.k_NoAnswer_NoAnswer G.k_NoAnswer_TooLarge rfl hQ
  · exact one__law_kind G hot G.e_TooLarge hz hv e G.k_TooLarge_NotRight G.k_TooLarge_NotThere G.k_TooLarge_NoAnswer G.k_TooLarge_TooLarge rfl hQ
noncomputable def b__law_told : dS := dSeq (dTryK kd 3 (dSeq (dIfS (dTest (dOp2 (oB gLt) (dV 0) (dC (.int 9)))) (dSeq (dRet (dSel 1 [den_h_of, den_g_of, den_w_of, den_core_of, den_tail_of, den_mean_of, den_middle_of, den_ranks, den_least_counts] (dV 0) (aCons (dV 1) (aNil)))) (dSkip)) (dSkip)) (dSeq (dRet (dSel 2 [den_next_step, den_h_with, den_best_putting, den_at_least] (dOp2 oSub (dV 0) (dC (.int 9))) (aCons (dV 1) (aCons (dV 2) (aNil))))) (dSkip)))) (dSkip)
noncomputable def den__law_told : Den := runF 3 4 b__law_told
theorem sc__law_told : FnScope ["which", "counts", "number", "error"] ["which", "counts", "number"] (defScope (top 47)) := ⟨rfl, rfl, rfl, by decide +kernel, rfl, by decide +kernel, by decide +kernel⟩
theorem bo__law_told (G : Gl K mg) (h_h_of : Fn P w K mg base 5 "h_of" 1 den_h_of) (h_g_of : Fn P w K mg base 5 "g_of" 1 den_g_of) (h_w_of : Fn P w K mg base 5 "w_of" 1 den_w_of) (h_core_of : Fn P w K mg base 5 "core_of" 1 den_core_of) (h_tail_of : Fn P w K mg base 5 "tail_of" 1 den_tail_of) (h_next_step : Fn P w K mg base 5 "next_step" 2 den_next_step) (h_least_counts : Fn P w K mg base 3 "least_counts" 1 den_least_counts) (h_h_with : Fn P w K mg base 5 "h_with" 2 den_h_with) (h_best_putting : Fn P w K mg base 5 "best_putting" 2 den_best_putting) (h_mean_of : Fn P w K mg base 5 "mean_of" 1 den_mean_of) (h_middle_of : Fn P w K mg base 5 "middle_of" 1 den_middle_of) (h_at_least : Fn P w K mg base 5 "at_least" 2 den_at_least) (h_ranks : Fn P w K mg base 4 "ranks" 1 den_ranks) (h__law_kind : FnK P w K mg base 1 "_law_kind" kd) {f : Addr} : BodyOk P w K mg base ["which", "counts", "number", "error"] "_law_told" (defScope (top 47)) f 5 (defBody (top 47)) b__law_told := fun cdv A outer s H E C => ss_cons (ss_tryK C rfl rfl (by decide) G.hx_CiteError G.x_CiteError.g h__law_kind (fun _ _ _ C => ss_cons (ss_if (st_cmp (op_ltD C.hu) opD_rD (se_var 0) (se_int)) (ss_cons (ss_ret (se_sel C (.cons h_h_of (by decide) rfl (by decide) rfl (.cons h_g_of (by decide) rfl (by decide) rfl (.cons h_w_of (by decide) rfl (by decide) rfl (.cons h_core_of (by decide) rfl (by decide) rfl (.cons h_tail_of (by decide) rfl (by decide) rfl (.cons h_mean_of (by decide) rfl (by decide) rfl (.cons h_middle_of (by decide) rfl (by decide) rfl (.cons h_ranks (by decide) rfl (by decide) rfl (.cons h_least_counts (by decide) rfl (by decide) rfl (.nil)))))))))) (by decide) (se_var 0) (sa_cons (se_var 1) (sa_nil)))) (ss_nil)) (ss_nil)) (ss_cons (ss_ret (se_sel C (.cons h_next_step (by decide) rfl (by decide) rfl (.cons h_h_with (by decide) rfl (by decide) rfl (.cons h_best_putting (by decide) rfl (by decide) rfl (.cons h_at_least (by decide) rfl (by decide) rfl (.nil))))) (by decide) (se_sub (se_var 0) (se_int)) (sa_cons (se_var 1) (sa_cons (se_var 2) (sa_nil))))) (ss_nil)))) (ss_nil)
theorem ok__law_told (G : Gl K mg) (h_h_of : Fn P w K mg base 5 "h_of" 1 den_h_of) (h_g_of : Fn P w K mg base 5 "g_of" 1 den_g_of) (h_w_of : Fn P w K mg base 5 "w_of" 1 den_w_of) (h_core_of : Fn P w K mg base 5 "core_of" 1 den_core_of) (h_tail_of : Fn P w K mg base 5 "tail_of" 1 den_tail_of) (h_next_step : Fn P w K mg base 5 "next_step" 2 den_next_step) (h_least_counts : Fn P w K mg base 3 "least_counts" 1 den_least_counts) (h_h_with : Fn P w K mg base 5 "h_with" 2 den_h_with) (h_best_putting : Fn P w K mg base 5 "best_putting" 2 den_best_putting) (h_mean_of : Fn P w K mg base 5 "mean_of" 1 den_mean_of) (h_middle_of : Fn P w K mg base 5 "middle_of" 1 den_middle_of) (h_at_least : Fn P w K mg base 5 "at_least" 2 den_at_least) (h_ranks : Fn P w K mg base 4 "ranks" 1 den_ranks) (h__law_kind : FnK P w K mg base 1 "_law_kind" kd) {f : Addr} {fd : FuncData} (F : FunD K "_law_told" "_law_told" (defArgs (top 47)) (defBody (top 47)) (defScope (top 47)) [] [] f fd) (hg : mg "_law_told" = some (.ref f)) : Fn P w K mg base 6 "_law_told" 3 den__law_told :=
  ⟨f, fd, ["which", "counts", "number"], fn_ok F sc__law_told (bo__law_told G h_h_of h_g_of h_w_of h_core_of h_tail_of h_next_step h_least_counts h_h_with h_best_putting h_mean_of h_middle_of h_at_least h_ranks h__law_kind), F.bindsN fun _ _ _ _ _ _ us hl => match us, hl with | [_, _, _], _ => rfl, F.kp, hg⟩
noncomputable def b__law_h : dS := dSeq (dRet (dCal (g1 fMaxL) (aCons (dNew (dLC (iR1 (aCons (dOp2 oAddA (dCal (g1 fLen) (aCons (dV 0) (aNil))) (dC (.int 1))) (aNil))) [1] (gN 1) (dTest (dOp2 (oB gGe) (dCal (g1 fLen) (aCons (dNew (dLC (iL (dV 0)) [2] (gN 2) (dTest (dOp2 (oB gGe) (dV 2) (dV 1))) (dV 2))) (aNil))) (dV 1))) (dV 1))) (aNil)))) (dSkip)
noncomputable def den__law_h : Den := runF 1 3 b__law_h
theorem sc__law_h : FnScope ["counts", "h", "one"] ["counts"] (defScope (top 48)) := ⟨rfl, rfl, rfl, by decide +kernel, rfl, by decide +kernel, by decide +kernel⟩
theorem bo__law_h (G : Gl K mg)  {f : Addr} : BodyOk P w K mg base ["counts", "h", "one"] "_law_h" (defScope (top 48)) f 0 (defBody (top 48)) b__law_h := fun cdv A outer s H E C => ss_cons (ss_ret (se_maxL C G.f_max (sa_cons (se_new (sf_lc [("h", 1)] C (si_range1 G.f_range (sa_cons (se_addA (se_len G.f_len (sa_cons (se_var 0) (sa_nil))) (se_int)) (sa_nil))) rfl (fun _ _ _ _ _ => sg_name 1 (C.blk).nd) (by decide) (fun _ _ _ _ _ => sc_one (st_cmp (op_geD (C.blk).hu) opD_rD (se_len G.f_len (sa_cons (se_new (sf_lc [("one", 2)] (C.blk) (si_list (se_var 0)) rfl (fun _ _ _ _ _ => sg_name 2 (C.blk.blk).nd) (by decide) (fun _ _ _ _ _ => sc_one (st_cmp (op_geD (C.blk.blk).hu) opD_rD (se_var 2) (se_var 1))) (fun _ _ _ _ _ => se_var 2))) (sa_nil))) (se_var 1))) (fun _ _ _ _ _ => se_var 1))) (sa_nil)))) (ss_nil)
theorem ok__law_h (G : Gl K mg)  {f : Addr} {fd : FuncData} (F : FunD K "_law_h" "_law_h" (defArgs (top 48)) (defBody (top 48)) (defScope (top 48)) [] [] f fd) (hg : mg "_law_h" = some (.ref f)) : Fn P w K mg base 1 "_law_h" 1 den__law_h :=
  ⟨f, fd, ["counts"], fn_ok F sc__law_h (bo__law_h G ), F.bindsN fun _ _ _ _ _ _ us hl => match us, hl with | [_], _ => rfl, F.kp, hg⟩
noncomputable def b__law_g : dS := dSeq (dAsg 1 (dNew (nRev (dNew (nCal (g1 fSorted) (aCons (dV 0) (aNil))))))) (dSeq (dRet (dCal (g1 fMaxL) (aCons (dNew (dLC (iR1 (aCons (dOp2 oAddA (dCal (g1 fLen) (aCons (dV 0) (aNil))) (dC (.int 1))) (aNil))) [2] (gN 2) (dTest (dOp2 (oB gGe) (dCal (g1 fSumA) (aCons (dNew (dSl (dV 1) (pNo) (pAt (dV 2)))) (aNil))) (dOp2 oMulA (dV 2) (dV 2)))) (dV 2))) (aNil)))) (dSkip))
noncomputable def den__law_g : Den := runF 1 3 b__law_g
theorem sc__law_g : FnScope ["counts", "falling_v", "g"] ["counts"] (defScope (top 49)) := ⟨rfl, rfl, rfl, by decide +kernel, rfl, by decide +kernel, by decide +kernel⟩
theorem bo__law_g (G : Gl K mg)  {f : Addr} : BodyOk P w K mg base ["counts", "falling_v", "g"] "_law_g" (defScope (top 49)) f 0 (defBody (top 49)) b__law_g := fun cdv A outer s H E C => ss_cons (ss_asg 1 C.nd (se_new (sf_rev (se_new (sf_sorted C G.f_sorted (sa_cons (se_var 0) (sa_nil))))))) (ss_cons (ss_ret (se_maxL C G.f_max (sa_cons (se_new (sf_lc [("g", 2)] C (si_range1 G.f_range (sa_cons (se_addA (se_len G.f_len (sa_cons (se_var 0) (sa_nil))) (se_int)) (sa_nil))) rfl (fun _ _ _ _ _ => sg_name 2 (C.blk).nd) (by decide) (fun _ _ _ _ _ => sc_one (st_cmp (op_geD (C.blk).hu) opD_rD (se_sumA (C.blk) G.f_sum (sa_cons (se_new (sf_slL (se_var 1) (so_no) (so_at (se_var 2)))) (sa_nil))) (se_mulA (se_var 2) (se_var 2)))) (fun _ _ _ _ _ => se_var 2))) (sa_nil)))) (ss_nil))
theorem ok__law_g (G : Gl K mg)  {f : Addr} {fd : FuncData} (F : FunD K "_law_g" "_law_g" (defArgs (top 49)) (defBody (top 49)) (defScope (top 49)) [] [] f fd) (hg : mg "_law_g" = some (.ref f)) : Fn P w K mg base 1 "_law_g" 1 den__law_g :=
  ⟨f, fd, ["counts"], fn_ok F sc__law_g (bo__law_g G ), F.bindsN fun _ _ _ _ _ _ us hl => match us, hl with | [_], _ => rfl, F.kp, hg⟩
noncomputable def b__law_ratio : dS := dSeq (dPar [2, 3] (aCons (dV 0) (aCons (dV 1) (aNil)))) (dSeq (dWhile (dTest (dOp2 (oB gGt) (dV 3) (dC (.int 0)))) (dSeq (dPar [2, 3] (aCons (dV 3) (aCons (dOp2 oMod (dCal (g1 fInt) (aCons (dV 2) (aNil))) (dV 3)) (aNil)))) (dSkip))) (dSeq (dRet (dTup (aCons (dOp2 oDiv (dV 0) (dV 2)) (aCons (dOp2 oDiv (dV 1) (dV 2)) (aNil))))) (dSkip)))
noncomputable def den__law_ratio : Den := runF 2 4 b__law_ratio
theorem sc__law_ratio : FnScope ["n", "d", "a", "b"] ["n", "d"] (defScope (top 50)) := ⟨rfl, rfl, rfl, by decide +kernel, rfl, by decide +kernel, by decide +kernel⟩
theorem bo__law_ratio (G : Gl K mg)  {f : Addr} : BodyOk P w K mg base ["n", "d", "a", "b"] "_law_ratio" (defScope (top 50)) f 0 (defBody (top 50)) b__law_ratio := fun cdv A outer s H E C => ss_cons (ss_par2 2 3 C (sb_cons (se_var 0) (sb_cons (se_var 1) (sb_nil)))) (ss_cons (ss_while C (st_cmp (op_gtD C.hu) opD_rD (se_var 3) (se_int)) (ss_cons (ss_par2 2 3 C (sb_cons (se_var 3) (sb_cons (se_mod (se_intOf G.f_int (sa_cons (se_var 2) (sa_nil))) (se_var 3)) (sb_nil)))) (ss_nil))) (ss_cons (ss_ret (se_tup (sa_cons (se_div (se_var 0) (se_var 2)) (sa_cons (se_div (se_var 1) (se_var 2)) (sa_nil))))) (ss_nil)))
theorem ok__law_ratio (G : Gl K mg)  {f : Addr} {fd : FuncData} (F : FunD K "_law_ratio" "_law_ratio" (defArgs (top 50)) (defBody (top 50)) (defScope (top 50)) [] [] f fd) (hg : mg "_law_ratio" = some (.ref f)) : Fn P w K mg base 1 "_law_ratio" 2 den__law_ratio :=
  ⟨f, fd, ["n", "d"], fn_ok F sc__law_ratio (bo__law_ratio G ), F.bindsN fun _ _ _ _ _ _ us hl => match us, hl with | [_, _], _ => rfl, F.kp, hg⟩
noncomputable def b__law_ways : dS := dSeq (dAsg 2 (dNew (nLst (aCons (dTup (aNil)) (aNil))))) (dSeq (dFor (iR1 (aCons (dV 1) (aNil))) (gN 3) (dSeq (dAsg 4 (dNew (nLst (aNil)))) (dSeq (dFor (iL (dV 2)) (gN 5) (dSeq (dAsg 4 (dOp2 oAddA (dV 4) (dNew (dLC (iR1 (aCons (dOp2 oAddA (dOp2 oSub (dV 0) (dCal (g1 fSumA) (aCons (dV 5) (aNil)))) (dC (.int 1))) (aNil))) [6] (gN 6) (dYes) (dOp2 oAddA (dV 5) (dTup (aCons (dV 6) (aNil)))))))) (dSkip))) (dSeq (dAsg 2 (dV 4)) (dSkip))))) (dSeq (dRet (dV 2)) (dSkip)))
noncomputable def den__law_ways : Den := runF 2 7 b__law_ways
theorem sc__law_ways : FnScope ["much", "many", "found", "k", "longer", "row", "one"] ["much", "many"] (defScope (top 51)) := ⟨rfl, rfl, rfl, by decide +kernel, rfl, by decide +kernel, by decide +kernel⟩
theorem bo__law_ways (G : Gl K mg)  {f : Addr} : BodyOk P w K mg base ["much", "many", "found", "k", "longer", "row", "one"] "_law_ways" (defScope (top 51)) f 0 (defBody (top 51)) b__law_ways := fun cdv A outer s H E C => ss_cons (ss_asg 2 C.nd (se_new (sf_lst (sa_cons (se_tup (sa_nil)) (sa_nil))))) (ss_cons (ss_for C (si_range1 G.f_range (sa_cons (se_var 1) (sa_nil))) (sg_name 3 C.nd) (ss_cons (ss_asg 4 C.nd (se_new (sf_lst (sa_nil)))) (ss_cons (ss_for C (si_list (se_var 2)) (sg_name 5 C.nd) (ss_cons (ss_asg 4 C.nd (se_addA (se_var 4) (se_new (sf_lc [("one", 6)] C (si_range1 G.f_range (sa_cons (se_addA (se_sub (se_var 0) (se_sumA C G.f_sum (sa_cons (se_var 5) (sa_nil)))) (se_int)) (sa_nil))) rfl (fun _ _ _ _ _ => sg_name 6 (C.blk).nd) (by decide) (fun _ _ _ _ _ => sc_nil) (fun _ _ _ _ _ => se_addA (se_var 5) (se_tup (sa_cons (se_var 6) (sa_nil)))))))) (ss_nil))) (ss_cons (ss_asg 2 C.nd (se_var 4)) (ss_nil))))) (ss_cons (ss_ret (se_var 2)) (ss_nil)))
theorem ok__law_ways (G : Gl K mg)  {f : Addr} {fd : FuncData} (F : FunD K "_law_ways" "_law_ways" (defArgs (top 51)) (defBody (top 51)) (defScope (top 51)) [] [] f fd) (hg : mg "_law_ways" = some (.ref f)) : Fn P w K mg base 1 "_law_ways" 2 den__law_ways :=
  ⟨f, fd, ["much", "many"], fn_ok F sc__law_ways (bo__law_ways G ), F.bindsN fun _ _ _ _ _ _ us hl => match us, hl with | [_, _], _ => rfl, F.kp, hg⟩
noncomputable def b__law_is_putting_due : dS := dSeq (dAsgG (gT 2 (gConsD (gN 1) (gConsD (gN 2) (gNilD)))) (dTup (aCons (dCallP 1 den__law_h (aCons (dV 0) (aNil))) (aCons (dCallP 2 den__law_ways (aCons (dC (.int 4)) (aCons (dCal (g1 fLen) (aCons (dV 0) (aNil))) (aNil)))) (aNil))))) (dSeq (dFor (iR1 (aCons (dC (.int 5)) (aNil))) (gN 3) (dSeq (dAsg 4 (dCal (g1 fMaxL) (aCons (dNew (dLC (iL (dV 2)) [9] (gN 9) (dTest (dOp2 (oB gLe) (dCal (g1 fSumA) (aCons (dV 9) (aNil))) (dV 3))) (dCallP 1 den__law_h (aCons (dNew (dLC (iR1 (aCons (dCal (g1 fLen) (aCons (dV 0) (aNil))) (aNil))) [10] (gN 10) (dYes) (dOp2 oAddA (dOp2 oIx (dV 0) (dV 10)) (dOp2 oIx (dV 9) (dV 10))))) (aNil))))) (aNil)))) (dSeq (dAsg 5 (dCallP 3 den__law_told (aCons (dC (.int 11)) (aCons (dV 0) (aCons (dV 3) (aNil)))))) (dSeq (dIfS (tdOr (dTest (dOp2 (oB gNe) (dCallP 3 den__law_told (aCons (dC (.int 10)) (aCons (dV 0) (aCons (dV 3) (aNil))))) (dV 4))) (tdOr (tdNot (dTru (dIsi "list" (dV 5)))) (tdOr (dTest (dOp2 (oB gNe) (dCal (g1 fLen) (aCons (dV 5) (aNil))) (dCal (g1 fLen) (aCons (dV 0) (aNil))))) (tdOr (dTest (dOp2 (oB gNe) (dCallP 1 den__law_h (aCons (dV 5) (aNil))) (dV 4))) (dTest (dOp2 (oB gGt) (dOp2 oSub (dCal (g1 fSumA) (aCons (dV 5) (aNil))) (dCal (g1 fSumA) (aCons (dV 0) (aNil)))) (dV 3))))))) (dSeq (dRet (dC (.bool false))) (dSkip)) (dSkip)) (dSeq (dAsg 6 (dNew (dSl (dNew (dLC (iL (dNew (nCal (g1 fSorted) (aCons (dNew (dLC (iR1 (aCons (dCal (g1 fLen) (aCons (dV 0) (aNil))) (aNil))) [10] (gN 10) (dYes) (dTup (aCons (dOp2 oSub (dC (.int 0)) (dOp2 oIx (dV 0) (dV 10))) (aCons (dV 10) (aNil)))))) (aNil))))) [11, 10] (gT 2 (gConsD (gN 11) (gConsD (gN 10) (gNilD)))) (dYes) (dV 10))) (pNo) (pAt (dV 4))))) (dSeq (dIfS (dTest (dOp2 (oB gNe) (dV 5) (dNew (dLC (iR1 (aCons (dCal (g1 fLen) (aCons (dV 0) (aNil))) (aNil))) [10] (gN 10) (dYes) (dIf (dTest (dOp2 (oB gIn) (dV 10) (dV 6))) (dCal (g2 fMax2) (aCons (dOp2 oIx (dV 0) (dV 10)) (aCons (dV 4) (aNil)))) (dOp2 oIx (dV 0) (dV 10))))))) (dSeq (dRet (dC (.bool false))) (dSkip)) (dSkip)) (dSkip))))))) (dSeq (dAsg 7 (dNew (dLC (iL (dV 2)) [9] (gN 9) (dTest (dOp2 (oB gGt) (dCallP 1 den__law_h (aCons (dNew (dLC (iR1 (aCons (dCal (g1 fLen) (aCons (dV 0) (aNil))) (aNil))) [10] (gN 10) (dYes) (dOp2 oAddA (dOp2 oIx (dV 0) (dV 10)) (dOp2 oIx (dV 9) (dV 10))))) (aNil))) (dV 1))) (dCal (g1 fSumA) (aCons (dV 9) (aNil)))))) (dSeq (dAsg 8 (dCallP 3 den__law_told (aCons (dC (.int 9)) (aCons (dV 0) (aCons (dC (.bool false)) (aNil)))))) (dSeq (dIfS (dTest (dOp2 (oB gLe) (dCal (g1 fLen) (aCons (dV 0) (aNil))) (dV 1))) (dSeq (dRet (dAnd (dOp2 (oB gIs) (dV 8) (dC .none)) (dOp2 (oB gEq) (dCallP 3 den__law_told (aCons (dC (.int 9)) (aCons (dV 0) (aCons (dC (.bool true)) (aNil))))) (dCal (g1 fSumA) (aCons (dNew (dLC (iL (dOp2 oAddA (dV 0) (dNew (nLst (aCons (dC (.int 0)) (aNil)))))) [12] (gN 12) (dYes) (dCal (g2 fMax2) (aCons (dC (.int 0)) (aCons (dOp2 oSub (dOp2 oAddA (dV 1) (dC (.int 1))) (dV 12)) (aNil)))))) (aNil)))))) (dSkip)) (dSkip)) (dSeq (dRet (dAnd (dIf (dTest (dOp2 (oB gNe) (dV 7) (dNew (nLst (aNil))))) (dOp2 (oB gEq) (dV 8) (dCal (g1 fMinL) (aCons (dV 7) (aNil)))) (dOp2 (oB gGt) (dV 8) (dC (.int 4)))) (dOp2 (oB gEq) (dCallP 3 den__law_told (aCons (dC (.int 9)) (aCons (dV 0) (aCons (dC (.bool true)) (aNil))))) (dV 8)))) (dSkip))))))
noncomputable def den__law_is_putting_due : Den := runF 1 13 b__law_is_putting_due
theorem sc__law_is_putting_due : FnScope ["counts", "h", "ways", "more", "best", "put", "order", "steps", "told", "way", "k", "worth", "one"] ["counts"] (defScope (top 52)) := ⟨rfl, rfl, rfl, by decide +kernel, rfl, by decide +kernel, by decide +kernel⟩
theorem bo__law_is_putting_due (G : Gl K mg) (h__law_told : Fn P w K mg base 6 "_law_told" 3 den__law_told) (h__law_h : Fn P w K mg base 1 "_law_h" 1 den__law_h) (h__law_ways : Fn P w K mg base 1 "_law_ways" 2 den__law_ways) {f : Addr} : BodyOk P w K mg base ["counts", "h", "ways", "more", "best", "put", "order", "steps", "told", "way", "k", "worth", "one"] "_law_is_putting_due" (defScope (top 52)) f 6 (defBody (top 52)) b__law_is_putting_due := fun cdv A outer s H E C => ss_cons (ss_asgG (se_tup (sa_cons (se_callP C (by decide) h__law_h (sa_cons (se_var 0) (sa_nil))) (sa_cons (se_callP C (by decide) h__law_ways (sa_cons (se_int) (sa_cons (se_len G.f_len (sa_cons (se_var 0) (sa_nil))) (sa_nil)))) (sa_nil)))) (sg_tup 2 C.calm (sgs_cons (sg_name 1 C.nd) (sgs_cons (sg_name 2 C.nd) (sgs_nil))))) (ss_cons (ss_for C (si_range1 G.f_range (sa_cons (se_int) (sa_nil))) (sg_name 3 C.nd) (ss_cons (ss_asg 4 C.nd (se_maxL C G.f_max (sa_cons (se_new (sf_lc [("way", 9)] C (si_list (se_var 2)) rfl (fun _ _ _ _ _ => sg_name 9 (C.blk).nd) (by decide) (fun _ _ _ _ _ => sc_one (st_cmp (op_leD (C.blk).hu) opD_rD (se_sumA (C.blk) G.f_sum (sa_cons (se_var 9) (sa_nil))) (se_var 3))) (fun _ _ _ _ _ => se_callP (C.blk) (by decide) h__law_h (sa_cons (se_new (sf_lc [("k", 10)] (C.blk) (si_range1 G.f_range (sa_cons (se_len G.f_len (sa_cons (se_var 0) (sa_nil))) (sa_nil))) rfl (fun _ _ _ _ _ => sg_name 10 (C.blk.blk).nd) (by decide) (fun _ _ _ _ _ => sc_nil) (fun _ _ _ _ _ => se_addA (se_ix (se_var 0) (se_var 10)) (se_ix (se_var 9) (se_var 10))))) (sa_nil))))) (sa_nil)))) (ss_cons (ss_asg 5 C.nd (se_callP C (by decide) h__law_told (sa_cons (se_int) (sa_cons (se_var 0) (sa_cons (se_var 3) (sa_nil)))))) (ss_cons (ss_if (SW.st (sw_or (st_cmp (op_neP C.hu) opD_rD (se_callP C (by decide) h__law_told (sa_cons (se_int) (sa_cons (se_var 0) (sa_cons (se_var 3) (sa_nil))))) (se_var 4)) (sw_or (st_not (st_val (se_isi G.f_isinstance G.f_list (se_var 5) PyProof.Rows.boot_list))) (sw_or (st_cmp (op_neP C.hu) opD_rD (se_len G.f_len (sa_cons (se_var 5) (sa_nil))) (se_len G.f_len (sa_cons (se_var 0) (sa_nil)))) (sw_or (st_cmp (op_neP C.hu) opD_rD (se_callP C (by decide) h__law_h (sa_cons (se_var 5) (sa_nil))) (se_var 4)) (sw_or1 (st_cmp (op_gtD C.hu) opD_rD (se_sub (se_sumA C G.f_sum (sa_cons (se_var 5) (sa_nil))) (se_sumA C G.f_sum (sa_cons (se_var 0) (sa_nil)))) (se_var 3)))))))) (ss_cons (ss_ret (se_bl)) (ss_nil)) (ss_nil)) (ss_cons (ss_asg 6 C.nd (se_new (sf_slL (se_new (sf_lc [("worth", 11), ("k", 10)] C (si_list (se_new (sf_sorted C G.f_sorted (sa_cons (se_new (sf_lc [("k", 10)] C (si_range1 G.f_range (sa_cons (se_len G.f_len (sa_cons (se_var 0) (sa_nil))) (sa_nil))) rfl (fun _ _ _ _ _ => sg_name 10 (C.blk).nd) (by decide) (fun _ _ _ _ _ => sc_nil) (fun _ _ _ _ _ => se_tup (sa_cons (se_sub (se_int) (se_ix (se_var 0) (se_var 10))) (sa_cons (se_var 10) (sa_nil)))))) (sa_nil))))) rfl (fun _ _ _ _ _ => sg_tup 2 (C.blk).calm (sgs_cons (sg_name 11 (C.blk).nd) (sgs_cons (sg_name 10 (C.blk).nd) (sgs_nil)))) (by decide) (fun _ _ _ _ _ => sc_nil) (fun _ _ _ _ _ => se_var 10))) (so_no) (so_at (se_var 4))))) (ss_cons (ss_if (st_cmp (op_neP C.hu) opD_rD (se_var 5) (se_new (sf_lc [("k", 10)] C (si_range1 G.f_range (sa_cons (se_len G.f_len (sa_cons (se_var 0) (sa_nil))) (sa_nil))) rfl (fun _ _ _ _ _ => sg_name 10 (C.blk).nd) (by decide) (fun _ _ _ _ _ => sc_nil) (fun _ _ _ _ _ => se_if (st_cmp (op_inP (C.blk).hu) opD_rD (se_var 10) (se_var 6)) (se_max2 (C.blk) G.f_max (sa_cons (se_ix (se_var 0) (se_var 10)) (sa_cons (se_var 4) (sa_nil)))) (se_ix (se_var 0) (se_var 10)))))) (ss_cons (ss_ret (se_bl)) (ss_nil)) (ss_nil)) (ss_nil))))))) (ss_cons (ss_lcD 7 [("way", 9)] C (si_list (se_var 2)) rfl (fun _ _ _ _ _ => sg_name 9 (C.blk).nd) (by decide) (fun _ _ _ _ _ => sc_one (st_cmp (op_gtD (C.blk).hu) opD_rD (se_callP (C.blk) (by decide) h__law_h (sa_cons (se_new (sf_lc [("k", 10)] (C.blk) (si_range1 G.f_range (sa_cons (se_len G.f_len (sa_cons (se_var 0) (sa_nil))) (sa_nil))) rfl (fun _ _ _ _ _ => sg_name 10 (C.blk.blk).nd) (by decide) (fun _ _ _ _ _ => sc_nil) (fun _ _ _ _ _ => se_addA (se_ix (se_var 0) (se_var 10)) (se_ix (se_var 9) (se_var 10))))) (sa_nil))) (se_var 1))) (fun _ _ _ _ _ => se_sumA (C.blk) G.f_sum (sa_cons (se_var 9) (sa_nil)))) (ss_cons (ss_asg 8 C.nd (se_callP C (by decide) h__law_told (sa_cons (se_int) (sa_cons (se_var 0) (sa_cons (se_bl) (sa_nil)))))) (ss_cons (ss_if (st_cmp (op_leD C.hu) opD_rD (se_len G.f_len (sa_cons (se_var 0) (sa_nil))) (se_var 1)) (ss_cons (ss_ret (se_and (se_cmp op_isP opD_rD (se_var 8) (se_non)) (se_one (se_cmp (op_eqP C.hu) opD_rD (se_callP C (by decide) h__law_told (sa_cons (se_int) (sa_cons (se_var 0) (sa_cons (se_bl) (sa_nil))))) (se_sumA C G.f_sum (sa_cons (se_new (sf_lc [("one", 12)] C (si_list (se_addA (se_var 0) (se_new (sf_lst (sa_cons (se_int) (sa_nil)))))) rfl (fun _ _ _ _ _ => sg_name 12 (C.blk).nd) (by decide) (fun _ _ _ _ _ => sc_nil) (fun _ _ _ _ _ => se_max2 (C.blk) G.f_max (sa_cons (se_int) (sa_cons (se_sub (se_addA (se_var 1) (se_int)) (se_var 12)) (sa_nil)))))) (sa_nil))))))) (ss_nil)) (ss_nil)) (ss_cons (ss_ret (se_and (se_if (st_cmp (op_neP C.hu) opD_rD (se_var 7) (se_new (sf_lst (sa_nil)))) (se_cmp (op_eqP C.hu) opD_rD (se_var 8) (se_minL C G.f_min (sa_cons (se_var 7) (sa_nil)))) (se_cmp (op_gtD C.hu) opD_rD (se_var 8) (se_int))) (se_one (se_cmp (op_eqP C.hu) opD_rD (se_callP C (by decide) h__law_told (sa_cons (se_int) (sa_cons (se_var 0) (sa_cons (se_bl) (sa_nil))))) (se_var 8))))) (ss_nil))))))
theorem ok__law_is_putting_due (G : Gl K mg) (h__law_told : Fn P w K mg base 6 "_law_told" 3 den__law_told) (h__law_h : Fn P w K mg base 1 "_law_h" 1 den__law_h) (h__law_ways : Fn P w K mg base 1 "_law_ways" 2 den__law_ways) {f : Addr} {fd : FuncData} (F : FunD K "_law_is_putting_due" "_law_is_putting_due" (defArgs (top 52)) (defBody (top 52)) (defScope (top 52)) [] [] f fd) (hg : mg "_law_is_putting_due" = some (.ref f)) : Fn P w K mg base 7 "_law_is_putting_due" 1 den__law_is_putting_due :=
  ⟨f, fd, ["counts"], fn_ok F sc__law_is_putting_due (bo__law_is_putting_due G h__law_told h__law_h h__law_ways), F.bindsN fun _ _ _ _ _ _ us hl => match us, hl with | [_], _ => rfl, F.kp, hg⟩
noncomputable def b_law : dS := dSeq (dBox 1 (nCallB 1 den__law_draws (aCons (dV 0) (aNil)))) (dSeq (dFor (iR1 (aCons (dC (.int 5)) (aNil))) (gN 2) (dSeq (dAsg 3 (dNew (dLC (iR1 (aCons (dCallB 2 den__law_take (aCons (dV 1) (aCons (dC (.int 9)) (aNil)))) (aNil))) [15] (gN 15) (dYes) (dCallB 2 den__law_take (aCons (dV 1) (aCons (dCallB 2 den__law_pick (aCons (dV 1) (aCons (dNew (nLst (aCons (dC (.int 3)) (aCons (dC (.int 8)) (aCons (dC (.int 60)) (aNil)))))) (aNil)))) (aNil))))))) (dSeq (dAsgG (gT 3 (gConsD (gN 4) (gConsD (gN 5) (gConsD (gN 6) (gNilD))))) (dTup (aCons (dNew (nRev (dNew (nCal (g1 fSorted) (aCons (dV 3) (aNil)))))) (aCons (dCallP 1 den__law_h (aCons (dV 3) (aNil))) (aCons (dCallB 2 den__law_take (aCons (dV 1) (aCons (dC (.int 12)) (aNil)))) (aNil)))))) (dSeq (dAsg 7 (dCal (g1 fMaxL) (aCons (dNew (dLC (iR1 (aCons (dOp2 oAddA (dCal (g1 fLen) (aCons (dV 3) (aNil))) (dC (.int 1))) (aNil))) [15] (gN 15) (dTest (dOp2 (oB gGe) (dCal (g1 fLen) (aCons (dNew (dLC (iL (dV 3)) [16] (gN 16) (dTest (dOp2 (oB gGe) (dV 16) (dOp2 oMulA (dC (.int 10)) (dV 15)))) (dV 16))) (aNil))) (dV 15))) (dV 15))) (aNil)))) (dSeq (dAsg 8 (dOp2 oAddA (dNew (dLC (iR1 (aCons (dC (.int 5)) (aNil))) [17] (gN 17) (dYes) (dCallP 3 den__law_told (aCons (dV 17) (aCons (dNew (nCal (g1 fList) (aCons (dV 3) (aNil)))) (aCons (dC .none) (aNil))))))) (dNew (nLst (aCons (dCallP 3 den__law_told (aCons (dC (.int 12)) (aCons (dNew (nCal (g1 fList) (aCons (dV 3) (aNil)))) (aCons (dV 6) (aNil))))) (aNil)))))) (dSeq (dIfS (tdNot (dTru (dCallP 2 (den__law_same 8) (aCons (dV 8) (aCons (dNew (nLst (aCons (dV 5) (aCons (dCallP 1 den__law_g (aCons (dV 3) (aNil))) (aCons (dV 7) (aCons (dNew (dLC (iL (dV 4)) [16] (gN 16) (dTest (dOp2 (oB gGe) (dV 16) (dV 5))) (dV 16))) (aCons (dOp2 oSub (dCal (g1 fSumA) (aCons (dV 3) (aNil))) (dOp2 oMulA (dV 5) (dV 5))) (aCons (dCal (g1 fLen) (aCons (dNew (dLC (iL (dV 3)) [16] (gN 16) (dTest (dOp2 (oB gGe) (dV 16) (dV 6))) (dV 16))) (aNil))) (aNil))))))))) (aNil)))))) (dSeq (dRet (dC (.bool false))) (dSkip)) (dSkip)) (dSeq (dAsg 9 (dIf (dTest (dOp2 (oB gEq) (dV 3) (dNew (nLst (aNil))))) (dOp2 oMulA (dNew (nLst (aCons (dC (.str "refused 3")) (aNil)))) (dC (.int 2))) (dNew (nLst (aCons (dCallP 2 den__law_ratio (aCons (dCal (g1 fSumA) (aCons (dV 3) (aNil))) (aCons (dCal (g1 fLen) (aCons (dV 3) (aNil))) (aNil)))) (aCons (dOp2 oIx (dNew (nCal (g1 fSorted) (aCons (dV 3) (aNil)))) (dOp2 oDiv (dOp2 oSub (dCal (g1 fLen) (aCons (dV 3) (aNil))) (dC (.int 1))) (dC (.int 2)))) (aNil))))))) (dSeq (dIfS (tdOr (tdNot (dTru (dCallP 2 (den__law_same 8) (aCons (dNew (nLst (aCons (dCallP 3 den__law_told (aCons (dC (.int 5)) (aCons (dV 3) (aCons (dC .none) (aNil))))) (aCons (dCallP 3 den__law_told (aCons (dC (.int 6)) (aCons (dV 3) (aCons (dC .none) (aNil))))) (aNil))))) (aCons (dV 9) (aNil)))))) (dTest (dOp2 (oB gIsNot) (dCallP 1 den_are_counts (aCons (dV 3) (aNil))) (dC (.bool true))))) (dSeq (dRet (dC (.bool false))) (dSkip)) (dSkip)) (dSeq (dIfS (tdNot (dTru (dCallP 2 (den__law_same 8) (aCons (dNew (dLC (iR2 (aCons (dOp1 oNeg (dC (.int 1))) (aCons (dC (.int 10)) (aNil)))) [15] (gN 15) (dYes) (dCallP 2 den_takes_h (aCons (dV 3) (aCons (dV 15) (aNil)))))) (aCons (dNew (dLC (iR2 (aCons (dOp1 oNeg (dC (.int 1))) (aCons (dC (.int 10)) (aNil)))) [15] (gN 15) (dYes) (dOp2 (oB gEq) (dV 15) (dV 5)))) (aNil)))))) (dSeq (dRet (dC (.bool false))) (dSkip)) (dSkip)) (dSeq (dIfS (tdAnd (dTest (dOp2 (oB gLt) (dCal (g1 fLen) (aCons (dV 3) (aNil))) (dC (.int 6)))) (tdNot (dTru (dCallP 1 den__law_is_putting_due (aCons (dV 3) (aNil)))))) (dSeq (dRet (dC (.bool false))) (dSkip)) (dSkip)) (dSeq (dAsg 10 (dNew (dLC (iR1 (aCons (dOp2 oAddA (dC (.int 1)) (dCallB 2 den__law_take (aCons (dV 1) (aCons (dC (.int 5)) (aNil))))) (aNil))) [18] (gN 18) (dYes) (dNew (dLC (iR1 (aCons (dCallB 2 den__law_take (aCons (dV 1) (aCons (dC (.int 4)) (aNil)))) (aNil))) [15] (gN 15) (dYes) (dCallB 2 den__law_take (aCons (dV 1) (aCons (dC (.int 4)) (aNil))))))))) (dSeq (dAsg 11 (dNew (dLC (iL (dV 10)) [18] (gN 18) (dYes) (dTup (aCons (dCallP 1 den__law_h (aCons (dV 18) (aNil))) (aCons (dCallP 1 den__law_g (aCons (dV 18) (aNil))) (aCons (dCal (g1 fSumA) (aCons (dV 18) (aNil))) (aNil)))))))) (dSeq (dIfS (tdNot (dTru (dCallP 2 (den__law_same 8) (aCons (dCallP 3 den__law_told (aCons (dC (.int 7)) (aCons (dV 10) (aCons (dC .none) (aNil))))) (aCons (dNew (dLC (iR1 (aCons (dCal (g1 fLen) (aCons (dV 10) (aNil))) (aNil))) [15] (gN 15) (dYes) (dOp2 oAddA (dC (.int 1)) (dCal (g1 fLen) (aCons (dNew (dLC (iL (dV 11)) [16] (gN 16) (dTest (dOp2 (oB gGt) (dV 16) (dOp2 oIx (dV 11) (dV 15)))) (dV 16))) (aNil)))))) (aNil)))))) (dSeq (dRet (dC (.bool false))) (dSkip)) (dSkip)) (dSeq (dAsg 5 (dCallB 2 den__law_take (aCons (dV 1) (aCons (dC (.int 201)) (aNil))))) (dSeq (dIfS (tdOr (tdNot (dTru (dCallP 2 (den__law_same 8) (aCons (dCallP 3 den__law_told (aCons (dC (.int 8)) (aCons (dV 5) (aCons (dC .none) (aNil))))) (aCons (dOp2 oMulA (dNew (nLst (aCons (dV 5) (aNil)))) (dV 5)) (aNil)))))) (dTest (dOp2 (oB gNe) (dCallP 1 den_h_of (aCons (dOp2 oMulA (dNew (nLst (aCons (dV 5) (aNil)))) (dV 5)) (aNil))) (dV 5)))) (dSeq (dRet (dC (.bool false))) (dSkip)) (dSkip)) (dSkip)))))))))))))))) (dSeq (dAsg 12 (dNew (nLst (aCons (dC .none) (aCons (dTup (aCons (dC (.int 1)) (aNil))) (aCons (dNew (nLst (aCons (dOp1 oNeg (dC (.int 1))) (aNil)))) (aCons (dNew (nLst (aCons (dC (.int 1000001)) (aNil)))) (aCons (dNew (nLst (aCons (dC (.bool true)) (aNil)))) (aCons (dNew (nLst (aCons (dC (.str "1")) (aNil)))) (aCons (dOp2 oMulA (dNew (nLst (aCons (dC (.int 1)) (aNil)))) (dC (.int 501))) (aCons (dNew (nLst (aCons (dC .none) (aNil)))) (aNil)))))))))))) (dSeq (dIfS (tdNot (dTru (dCallP 2 (den__law_same 8) (aCons (dNew (dLC (iL (dV 12)) [16] (gN 16) (dYes) (dCallP 1 den_are_counts (aCons (dV 16) (aNil))))) (aCons (dOp2 oMulA (dNew (nLst (aCons (dC (.bool false)) (aNil)))) (dC (.int 8))) (aNil)))))) (dSeq (dRet (dC (.bool false))) (dSkip)) (dSkip)) (dSeq (dAsg 13 (dCallB 2 den__law_pick (aCons (dV 1) (aCons (dV 12) (aNil))))) (dSeq (dAsg 8 (dOp2 oAddA (dOp2 oAddA (dNew (dLC (iR1 (aCons (dC (.int 7)) (aNil))) [17] (gN 17) (dYes) (dCallP 3 den__law_told (aCons (dV 17) (aCons (dV 13) (aCons (dC .none) (aNil))))))) (dNew (nLst (aCons (dCallP 3 den__law_told (aCons (dC (.int 9)) (aCons (dV 13) (aCons (dC (.bool true)) (aNil))))) (aNil))))) (dNew (dLC (iL (dNew (nLst (aCons (dC (.int 10)) (aCons (dC (.int 11)) (aCons (dC (.int 12)) (aNil))))))) [17] (gN 17) (dYes) (dCallP 3 den__law_told (aCons (dV 17) (aCons (dV 13) (aCons (dC (.int 1)) (aNil))))))))) (dSeq (dAsg 8 (dOp2 oAddA (dOp2 oAddA (dV 8) (dNew (dLC (iL (dNew (nLst (aCons (dC .none) (aCons (dNew (nLst (aNil))) (aCons (dTup (aCons (dNew (nLst (aCons (dC (.int 1)) (aNil)))) (aNil))) (aCons (dNew (nLst (aCons (dV 13) (aNil)))) (aCons (dOp2 oMulA (dNew (nLst (aCons (dNew (nLst (aCons (dC (.int 1)) (aNil)))) (aNil)))) (dC (.int 51))) (aNil))))))))) [10] (gN 10) (dYes) (dCallP 3 den__law_told (aCons (dC (.int 7)) (aCons (dV 10) (aCons (dC .none) (aNil)))))))) (dNew (dLC (iL (dNew (nLst (aCons (dOp1 oNeg (dC (.int 1))) (aCons (dC (.int 201)) (aCons (dC .none) (aCons (dC (.bool true)) (aNil)))))))) [5] (gN 5) (dYes) (dCallP 3 den__law_told (aCons (dC (.int 8)) (aCons (dV 5) (aCons (dC .none) (aNil))))))))) (dSeq (dAsg 14 (dCallB 2 den__law_pick (aCons (dV 1) (aCons (dNew (nLst (aCons (dOp1 oNeg (dC (.int 1))) (aCons (dC .none) (aCons (dC (.bool true)) (aCons (dC (.str "1")) (aNil))))))) (aNil))))) (dSeq (dAsg 8 (dOp2 oAddA (dOp2 oAddA (dV 8) (dNew (dLC (iL (dNew (nLst (aCons (dC .none) (aCons (dC (.int 0)) (aCons (dC (.int 1)) (aCons (dC (.str "x")) (aNil)))))))) [19] (gN 19) (dYes) (dCallP 3 den__law_told (aCons (dC (.int 9)) (aCons (dNew (nLst (aCons (dC (.int 1)) (aNil)))) (aCons (dV 19) (aNil)))))))) (dNew (dLC (iL (dNew (nLst (aCons (dC (.int 10)) (aCons (dC (.int 11)) (aCons (dC (.int 12)) (aNil))))))) [17] (gN 17) (dYes) (dCallP 3 den__law_told (aCons (dV 17) (aCons (dNew (nLst (aCons (dC (.int 1)) (aNil)))) (aCons (dV 14) (aNil))))))))) (dSeq (dIfS (tdOr (dTest (dOp2 (oB gNe) (dV 8) (dOp2 oMulA (dNew (nLst (aCons (dC (.str "refused 1")) (aNil)))) (dC (.int 27))))) (dTest (dOp2 (oB gNe) (dNew (dLC (iL (dNew (nLst (aCons (dC .none) (aCons (dC (.str "0")) (aCons (dC (.bool true)) (aNil))))))) [14] (gN 14) (dYes) (dCallP 2 den_takes_h (aCons (dNew (nLst (aNil))) (aCons (dV 14) (aNil)))))) (dOp2 oMulA (dNew (nLst (aCons (dC (.bool false)) (aNil)))) (dC (.int 3)))))) (dSeq (dRet (dC (.bool false))) (dSkip)) (dSkip)) (dSeq (dRet (dC (.bool true))) (dSkip)))))))))))
noncomputable def den_law : Den := runF 1 20 b_law
theorem sc_law : FnScope ["script", "draws", "turn", "counts", "falling_v", "h", "n", "w", "told", "due", "rows", "worths", "odd", "bad", "number", "k", "one", "which", "row", "way"] ["script"] (defScope (top 53)) := ⟨rfl, rfl, rfl, by decide +kernel, rfl, by decide +kernel, by decide +kernel⟩
theorem bo_law (G : Gl K mg) (h_are_counts : Fn P w K mg base 3 "are_counts" 1 den_are_counts) (h_h_of : Fn P w K mg base 5 "h_of" 1 den_h_of) (h_takes_h : Fn P w K mg base 3 "takes_h" 2 den_takes_h) (h__law_draws : FnF P w K mg base 1 "_law_draws" 1 den__law_draws) (h__law_take : Fn P w K mg base 1 "_law_take" 2 den__law_take) (h__law_pick : Fn P w K mg base 2 "_law_pick" 2 den__law_pick) (h__law_same : Fn P w K mg base 8 "_law_same" 2 (den__law_same 8)) (h__law_told : Fn P w K mg base 6 "_law_told" 3 den__law_told) (h__law_h : Fn P w K mg base 1 "_law_h" 1 den__law_h) (h__law_g : Fn P w K mg base 1 "_law_g" 1 den__law_g) (h__law_ratio : Fn P w K mg base 1 "_law_ratio" 2 den__law_ratio) (h__law_is_putting_due : Fn P w K mg base 7 "_law_is_putting_due" 1 den__law_is_putting_due) {f : Addr} : BodyOk P w K mg base ["script", "draws", "turn", "counts", "falling_v", "h", "n", "w", "told", "due", "rows", "worths", "odd", "bad", "number", "k", "one", "which", "row", "way"] "law" (defScope (top 53)) f 8 (defBody (top 53)) b_law := fun cdv A outer s H E C => ss_cons (ss_box 1 C.nd (sf_callF C (by decide) h__law_draws (sa_cons (se_var 0) (sa_nil)))) (ss_cons (ss_for C (si_range1 G.f_range (sa_cons (se_int) (sa_nil))) (sg_name 2 C.nd) (ss_cons (ss_asg 3 C.nd (se_new (sf_lc [("k", 15)] C (si_range1 G.f_range (sa_cons (se_callB C (by decide) h__law_take (sa_cons (se_var 1) (sa_cons (se_int) (sa_nil)))) (sa_nil))) rfl (fun _ _ _ _ _ => sg_name 15 (C.blk).nd) (by decide) (fun _ _ _ _ _ => sc_nil) (fun _ _ _ _ _ => se_callB (C.blk) (by decide) h__law_take (sa_cons (se_var 1) (sa_cons (se_callB (C.blk) (by decide) h__law_pick (sa_cons (se_var 1) (sa_cons (se_new (sf_lst (sa_cons (se_int) (sa_cons (se_int) (sa_cons (se_int) (sa_nil)))))) (sa_nil)))) (sa_nil))))))) (ss_cons (ss_asgG (se_tup (sa_cons (se_new (sf_rev (se_new (sf_sorted C G.f_sorted (sa_cons (se_var 3) (sa_nil)))))) (sa_cons (se_callP C (by decide) h__law_h (sa_cons (se_var 3) (sa_nil))) (sa_cons (se_callB C (by decide) h__law_take (sa_cons (se_var 1) (sa_cons (se_int) (sa_nil)))) (sa_nil))))) (sg_tup 3 C.calm (sgs_cons (sg_name 4 C.nd) (sgs_cons (sg_name 5 C.nd) (sgs_cons (sg_name 6 C.nd) (sgs_nil)))))) (ss_cons (ss_asg 7 C.nd (se_maxL C G.f_max (sa_cons (se_new (sf_lc [("k", 15)] C (si_range1 G.f_range (sa_cons (se_addA (se_len G.f_len (sa_cons (se_var 3) (sa_nil))) (se_int)) (sa_nil))) rfl (fun _ _ _ _ _ => sg_name 15 (C.blk).nd) (by decide) (fun _ _ _ _ _ => sc_one (st_cmp (op_geD (C.blk).hu) opD_rD (se_len G.f_len (sa_cons (se_new (sf_lc [("one", 16)] (C.blk) (si_list (se_var 3)) rfl (fun _ _ _ _ _ => sg_name 16 (C.blk.blk).nd) (by decide) (fun _ _ _ _ _ => sc_one (st_cmp (op_geD (C.blk.blk).hu) opD_rD (se_var 16) (se_mulA (se_int) (se_var 15)))) (fun _ _ _ _ _ => se_var 16))) (sa_nil))) (se_var 15))) (fun _ _ _ _ _ => se_var 15))) (sa_nil)))) (ss_cons (ss_asg 8 C.nd (se_addA (se_new (sf_lc [("which", 17)] C (si_range1 G.f_range (sa_cons (se_int) (sa_nil))) rfl (fun _ _ _ _ _ => sg_name 17 (C.blk).nd) (by decide) (fun _ _ _ _ _ => sc_nil) (fun _ _ _ _ _ => se_callP (C.blk) (by decide) h__law_told (sa_cons (se_var 17) (sa_cons (se_new (sf_listOf G.f_list (sa_cons (se_var 3) (sa_nil)))) (sa_cons (se_non) (sa_nil))))))) (se_new (sf_lst (sa_cons (se_callP C (by decide) h__law_told (sa_cons (se_int) (sa_cons (se_new (sf_listOf G.f_list (sa_cons (se_var 3) (sa_nil)))) (sa_cons (se_var 6) (sa_nil))))) (sa_nil)))))) (ss_cons (ss_if (st_not (st_val (se_callP C (by decide) h__law_same (sa_cons (se_var 8) (sa_cons (se_new (sf_lst (sa_cons (se_var 5) (sa_cons (se_callP C (by decide) h__law_g (sa_cons (se_var 3) (sa_nil))) (sa_cons (se_var 7) (sa_cons (se_new (sf_lc [("one", 16)] C (si_list (se_var 4)) rfl (fun _ _ _ _ _ => sg_name 16 (C.blk).nd) (by decide) (fun _ _ _ _ _ => sc_one (st_cmp (op_geD (C.blk).hu) opD_rD (se_var 16) (se_var 5))) (fun _ _ _ _ _ => se_var 16))) (sa_cons (se_sub (se_sumA C G.f_sum (sa_cons (se_var 3) (sa_nil))) (se_mulA (se_var 5) (se_var 5))) (sa_cons (se_len G.f_len (sa_cons (se_new (sf_lc [("one", 16)] C (si_list (se_var 3)) rfl (fun _ _ _ _ _ => sg_name 16 (C.blk).nd) (by decide) (fun _ _ _ _ _ => sc_one (st_cmp (op_geD (C.blk).hu) opD_rD (se_var 16) (se_var 6))) (fun _ _ _ _ _ => se_var 16))) (sa_nil))) (sa_nil))))))))) (sa_nil)))))) (ss_cons (ss_ret (se_bl)) (ss_nil)) (ss_nil)) (ss_cons (ss_asg 9 C.nd (se_if (st_cmp (op_eqP C.hu) opD_rD (se_var 3) (se_new (sf_lst (sa_nil)))) (se_mulA (se_new (sf_lst (sa_cons (se_str) (sa_nil)))) (se_int)) (se_new (sf_lst (sa_cons (se_callP C (by decide) h__law_ratio (sa_cons (se_sumA C G.f_sum (sa_cons (se_var 3) (sa_nil))) (sa_cons (se_len G.f_len (sa_cons (se_var 3) (sa_nil))) (sa_nil)))) (sa_cons (se_ix (se_new (sf_sorted C G.f_sorted (sa_cons (se_var 3) (sa_nil)))) (se_div (se_sub (se_len G.f_len (sa_cons (se_var 3) (sa_nil))) (se_int)) (se_int))) (sa_nil))))))) (ss_cons (ss_if (SW.st (sw_or (st_not (st_val (se_callP C (by decide) h__law_same (sa_cons (se_new (sf_lst (sa_cons (se_callP C (by decide) h__law_told (sa_cons (se_int) (sa_cons (se_var 3) (sa_cons (se_non) (sa_nil))))) (sa_cons (se_callP C (by decide) h__law_told (sa_cons (se_int) (sa_cons (se_var 3) (sa_cons (se_non) (sa_nil))))) (sa_nil))))) (sa_cons (se_var 9) (sa_nil)))))) (sw_or1 (st_cmp op_isNotP opD_rD (se_callP C (by decide) h_are_counts (sa_cons (se_var 3) (sa_nil))) (se_bl))))) (ss_cons (ss_ret (se_bl)) (ss_nil)) (ss_nil)) (ss_cons (ss_if (st_not (st_val (se_callP C (by decide) h__law_same (sa_cons (se_new (sf_lc [("k", 15)] C (si_range2 G.f_range (sa_cons (se_neg (se_int)) (sa_cons (se_int) (sa_nil)))) rfl (fun _ _ _ _ _ => sg_name 15 (C.blk).nd) (by decide) (fun _ _ _ _ _ => sc_nil) (fun _ _ _ _ _ => se_callP (C.blk) (by decide) h_takes_h (sa_cons (se_var 3) (sa_cons (se_var 15) (sa_nil)))))) (sa_cons (se_new (sf_lc [("k", 15)] C (si_range2 G.f_range (sa_cons (se_neg (se_int)) (sa_cons (se_int) (sa_nil)))) rfl (fun _ _ _ _ _ => sg_name 15 (C.blk).nd) (by decide) (fun _ _ _ _ _ => sc_nil) (fun _ _ _ _ _ => se_cmp (op_eqP (C.blk).hu) opD_rD (se_var 15) (se_var 5)))) (sa_nil)))))) (ss_cons (ss_ret (se_bl)) (ss_nil)) (ss_nil)) (ss_cons (ss_if (SW.st (sw_and (st_cmp (op_ltD C.hu) opD_rD (se_len G.f_len (sa_cons (se_var 3) (sa_nil))) (se_int)) (sw_and1 (st_not (st_val (se_callP C (by decide) h__law_is_putting_due (sa_cons (se_var 3) (sa_nil)))))))) (ss_cons (ss_ret (se_bl)) (ss_nil)) (ss_nil)) (ss_cons (ss_lcD 10 [("row", 18)] C (si_range1 G.f_range (sa_cons (se_addA (se_int) (se_callB C (by decide) h__law_take (sa_cons (se_var 1) (sa_cons (se_int) (sa_nil))))) (sa_nil))) rfl (fun _ _ _ _ _ => sg_name 18 (C.blk).nd) (by decide) (fun _ _ _ _ _ => sc_nil) (fun _ _ _ _ _ => se_new (sf_lc [("k", 15)] (C.blk) (si_range1 G.f_range (sa_cons (se_callB (C.blk) (by decide) h__law_take (sa_cons (se_var 1) (sa_cons (se_int) (sa_nil)))) (sa_nil))) rfl (fun _ _ _ _ _ => sg_name 15 (C.blk.blk).nd) (by decide) (fun _ _ _ _ _ => sc_nil) (fun _ _ _ _ _ => se_callB (C.blk.blk) (by decide) h__law_take (sa_cons (se_var 1) (sa_cons (se_int) (sa_nil))))))) (ss_cons (ss_asg 11 C.nd (se_new (sf_lc [("row", 18)] C (si_list (se_var 10)) rfl (fun _ _ _ _ _ => sg_name 18 (C.blk).nd) (by decide) (fun _ _ _ _ _ => sc_nil) (fun _ _ _ _ _ => se_tup (sa_cons (se_callP (C.blk) (by decide) h__law_h (sa_cons (se_var 18) (sa_nil))) (sa_cons (se_callP (C.blk) (by decide) h__law_g (sa_cons (se_var 18) (sa_nil))) (sa_cons (se_sumA (C.blk) G.f_sum (sa_cons (se_var 18) (sa_nil))) (sa_nil)))))))) (ss_cons (ss_if (st_not (st_val (se_callP C (by decide) h__law_same (sa_cons (se_callP C (by decide) h__law_told (sa_cons (se_int) (sa_cons (se_var 10) (sa_cons (se_non) (sa_nil))))) (sa_cons (se_new (sf_lc [("k", 15)] C (si_range1 G.f_range (sa_cons (se_len G.f_len (sa_cons (se_var 10) (sa_nil))) (sa_nil))) rfl (fun _ _ _ _ _ => sg_name 15 (C.blk).nd) (by decide) (fun _ _ _ _ _ => sc_nil) (fun _ _ _ _ _ => se_addA (se_int) (se_len G.f_len (sa_cons (se_new (sf_lc [("one", 16)] (C.blk) (si_list (se_var 11)) rfl (fun _ _ _ _ _ => sg_name 16 (C.blk.blk).nd) (by decide) (fun _ _ _ _ _ => sc_one (st_cmp (op_gtD (C.blk.blk).hu) opD_rD (se_var 16) (se_ix (se_var 11) (se_var 15)))) (fun _ _ _ _ _ => se_var 16))) (sa_nil)))))) (sa_nil)))))) (ss_cons (ss_ret (se_bl)) (ss_nil)) (ss_nil)) (ss_cons (ss_asg 5 C.nd (se_callB C (by decide) h__law_take (sa_cons (se_var 1) (sa_cons (se_int) (sa_nil))))) (ss_cons (ss_if (SW.st (sw_or (st_not (st_val (se_callP C (by decide) h__law_same (sa_cons (se_callP C (by decide) h__law_told (sa_cons (se_int) (sa_cons (se_var 5) (sa_cons (se_non) (sa_nil))))) (sa_cons (se_mulA (se_new (sf_lst (sa_cons (se_var 5) (sa_nil)))) (se_var 5)) (sa_nil)))))) (sw_or1 (st_cmp (op_neP C.hu) opD_rD (se_callP C (by decide) h_h_of (sa_cons (se_mulA (se_new (sf_lst (sa_cons (se_var 5) (sa_nil)))) (se_var 5)) (sa_nil))) (se_var 5))))) (ss_cons (ss_ret (se_bl)) (ss_nil)) (ss_nil)) (ss_nil)))))))))))))))) (ss_cons (ss_asg 12 C.nd (se_new (sf_lst (sa_cons (se_non) (sa_cons (se_tup (sa_cons (se_int) (sa_nil))) (sa_cons (se_new (sf_lst (sa_cons (se_neg (se_int)) (sa_nil)))) (sa_cons (se_new (sf_lst (sa_cons (se_int) (sa_nil)))) (sa_cons (se_new (sf_lst (sa_cons (se_bl) (sa_nil)))) (sa_cons (se_new (sf_lst (sa_cons (se_str) (sa_nil)))) (sa_cons (se_mulA (se_new (sf_lst (sa_cons (se_int) (sa_nil)))) (se_int)) (sa_cons (se_new (sf_lst (sa_cons (se_non) (sa_nil)))) (sa_nil)))))))))))) (ss_cons (ss_if (st_not (st_val (se_callP C (by decide) h__law_same (sa_cons (se_new (sf_lc [("one", 16)] C (si_list (se_var 12)) rfl (fun _ _ _ _ _ => sg_name 16 (C.blk).nd) (by decide) (fun _ _ _ _ _ => sc_nil) (fun _ _ _ _ _ => se_callP (C.blk) (by decide) h_are_counts (sa_cons (se_var 16) (sa_nil))))) (sa_cons (se_mulA (se_new (sf_lst (sa_cons (se_bl) (sa_nil)))) (se_int)) (sa_nil)))))) (ss_cons (ss_ret (se_bl)) (ss_nil)) (ss_nil)) (ss_cons (ss_asg 13 C.nd (se_callB C (by decide) h__law_pick (sa_cons (se_var 1) (sa_cons (se_var 12) (sa_nil))))) (ss_cons (ss_asg 8 C.nd (se_addA (se_addA (se_new (sf_lc [("which", 17)] C (si_range1 G.f_range (sa_cons (se_int) (sa_nil))) rfl (fun _ _ _ _ _ => sg_name 17 (C.blk).nd) (by decide) (fun _ _ _ _ _ => sc_nil) (fun _ _ _ _ _ => se_callP (C.blk) (by decide) h__law_told (sa_cons (se_var 17) (sa_cons (se_var 13) (sa_cons (se_non) (sa_nil))))))) (se_new (sf_lst (sa_cons (se_callP C (by decide) h__law_told (sa_cons (se_int) (sa_cons (se_var 13) (sa_cons (se_bl) (sa_nil))))) (sa_nil))))) (se_new (sf_lc [("which", 17)] C (si_list (se_new (sf_lst (sa_cons (se_int) (sa_cons (se_int) (sa_cons (se_int) (sa_nil))))))) rfl (fun _ _ _ _ _ => sg_name 17 (C.blk).nd) (by decide) (fun _ _ _ _ _ => sc_nil) (fun _ _ _ _ _ => se_callP (C.blk) (by decide) h__law_told (sa_cons (se_var 17) (sa_cons (se_var 13) (sa_cons (se_int) (sa_nil))))))))) (ss_cons (ss_asg 8 C.nd (se_addA (se_addA (se_var 8) (se_new (sf_lc [("rows", 10)] C (si_list (se_new (sf_lst (sa_cons (se_non) (sa_cons (se_new (sf_lst (sa_nil))) (sa_cons (se_tup (sa_cons (se_new (sf_lst (sa_cons (se_int) (sa_nil)))) (sa_nil))) (sa_cons (se_new (sf_lst (sa_cons (se_var 13) (sa_nil)))) (sa_cons (se_mulA (se_new (sf_lst (sa_cons (se_new (sf_lst (sa_cons (se_int) (sa_nil)))) (sa_nil)))) (se_int)) (sa_nil))))))))) rfl (fun _ _ _ _ _ => sg_name 10 (C.blk).nd) (by decide) (fun _ _ _ _ _ => sc_nil) (fun _ _ _ _ _ => se_callP (C.blk) (by decide) h__law_told (sa_cons (se_int) (sa_cons (se_var 10) (sa_cons (se_non) (sa_nil)))))))) (se_new (sf_lc [("h", 5)] C (si_list (se_new (sf_lst (sa_cons (se_neg (se_int)) (sa_cons (se_int) (sa_cons (se_non) (sa_cons (se_bl) (sa_nil)))))))) rfl (fun _ _ _ _ _ => sg_name 5 (C.blk).nd) (by decide) (fun _ _ _ _ _ => sc_nil) (fun _ _ _ _ _ => se_callP (C.blk) (by decide) h__law_told (sa_cons (se_int) (sa_cons (se_var 5) (sa_cons (se_non) (sa_nil))))))))) (ss_cons (ss_asg 14 C.nd (se_callB C (by decide) h__law_pick (sa_cons (se_var 1) (sa_cons (se_new (sf_lst (sa_cons (se_neg (se_int)) (sa_cons (se_non) (sa_cons (se_bl) (sa_cons (se_str) (sa_nil))))))) (sa_nil))))) (ss_cons (ss_asg 8 C.nd (se_addA (se_addA (se_var 8) (se_new (sf_lc [("way", 19)] C (si_list (se_new (sf_lst (sa_cons (se_non) (sa_cons (se_int) (sa_cons (se_int) (sa_cons (se_str) (sa_nil)))))))) rfl (fun _ _ _ _ _ => sg_name 19 (C.blk).nd) (by decide) (fun _ _ _ _ _ => sc_nil) (fun _ _ _ _ _ => se_callP (C.blk) (by decide) h__law_told (sa_cons (se_int) (sa_cons (se_new (sf_lst (sa_cons (se_int) (sa_nil)))) (sa_cons (se_var 19) (sa_nil)))))))) (se_new (sf_lc [("which", 17)] C (si_list (se_new (sf_lst (sa_cons (se_int) (sa_cons (se_int) (sa_cons (se_int) (sa_nil))))))) rfl (fun _ _ _ _ _ => sg_name 17 (C.blk).nd) (by decide) (fun _ _ _ _ _ => sc_nil) (fun _ _ _ _ _ => se_callP (C.blk) (by decide) h__law_told (sa_cons (se_var 17) (sa_cons (se_new (sf_lst (sa_cons (se_int) (sa_nil)))) (sa_cons (se_var 14) (sa_nil))))))))) (ss_cons (ss_if (SW.st (sw_or (st_cmp (op_neP C.hu) opD_rD (se_var 8) (se_mulA (se_new (sf_lst (sa_cons (se_str) (sa_nil)))) (se_int))) (sw_or1 (st_cmp (op_neP C.hu) opD_rD (se_new (sf_lc [("number", 14)] C (si_list (se_new (sf_lst (sa_cons (se_non) (sa_cons (se_str) (sa_cons (se_bl) (sa_nil))))))) rfl (fun _ _ _ _ _ => sg_name 14 (C.blk).nd) (by decide) (fun _ _ _ _ _ => sc_nil) (fun _ _ _ _ _ => se_callP (C.blk) (by decide) h_takes_h (sa_cons (se_new (sf_lst (sa_nil))) (sa_cons (se_var 14) (sa_nil)))))) (se_mulA (se_new (sf_lst (sa_cons (se_bl) (sa_nil)))) (se_int)))))) (ss_cons (ss_ret (se_bl)) (ss_nil)) (ss_nil)) (ss_cons (ss_ret (se_bl)) (ss_nil)))))))))))
theorem ok_law (G : Gl K mg) (h_are_counts : Fn P w K mg base 3 "are_counts" 1 den_are_counts) (h_h_of : Fn P w K mg base 5 "h_of" 1 den_h_of) (h_takes_h : Fn P w K mg base 3 "takes_h" 2 den_takes_h) (h__law_draws : FnF P w K mg base 1 "_law_draws" 1 den__law_draws) (h__law_take : Fn P w K mg base 1 "_law_take" 2 den__law_take) (h__law_pick : Fn P w K mg base 2 "_law_pick" 2 den__law_pick) (h__law_same : Fn P w K mg base 8 "_law_same" 2 (den__law_same 8)) (h__law_told : Fn P w K mg base 6 "_law_told" 3 den__law_told) (h__law_h : Fn P w K mg base 1 "_law_h" 1 den__law_h) (h__law_g : Fn P w K mg base 1 "_law_g" 1 den__law_g) (h__law_ratio : Fn P w K mg base 1 "_law_ratio" 2 den__law_ratio) (h__law_is_putting_due : Fn P w K mg base 7 "_law_is_putting_due" 1 den__law_is_putting_due) {f : Addr} {fd : FuncData} (F : FunD K "law" "law" (defArgs (top 53)) (defBody (top 53)) (defScope (top 53)) [] [] f fd) (hg : mg "law" = some (.ref f)) : Fn P w K mg base 9 "law" 1 den_law :=
  ⟨f, fd, ["script"], fn_ok F sc_law (bo_law G h_are_counts h_h_of h_takes_h h__law_draws h__law_take h__law_pick h__law_same h__law_told h__law_h h__law_g h__law_ratio h__law_is_putting_due), F.bindsN fun _ _ _ _ _ _ us hl => match us, hl with | [_], _ => rfl, F.kp, hg⟩
end
theorem eq_is_integer (a0 : SV) (st : Sto) : den_is_integer [a0] st = fnRes st.length (b_is_integer [some a0] st) := rfl
theorem eq_is_within (a0 a1 a2 : SV) (st : Sto) : den_is_within [a0, a1, a2] st = fnRes st.length (b_is_within [some a0, some a1, some a2] st) := rfl
theorem eq_check (a0 : SV) (st : Sto) : den_check [a0] st = fnRes st.length (b_check [some a0] st) := rfl
theorem eq_shared (a0 a1 : SV) (st : Sto) : den_shared [a0, a1] st = fnRes st.length (b_shared [some a0, some a1] st) := rfl
theorem eq_ratio (a0 a1 : SV) (st : Sto) : den_ratio [a0, a1] st = fnRes st.length (b_ratio [some a0, some a1, none] st) := rfl
theorem eq_is_count (a0 : SV) (st : Sto) : den_is_count [a0] st = fnRes st.length (b_is_count [some a0] st) := rfl
theorem eq_are_counts (a0 : SV) (st : Sto) : den_are_counts [a0] st = fnRes st.length (b_are_counts [some a0, none] st) := rfl
theorem eq_check_counts (a0 : SV) (st : Sto) : den_check_counts [a0] st = fnRes st.length (b_check_counts [some a0] st) := rfl
theorem eq_falling (a0 : SV) (st : Sto) : den_falling [a0] st = fnRes st.length (b_falling [some a0] st) := rfl
theorem eq_h_by (a0 : SV) (st : Sto) : den_h_by [a0] st = fnRes st.length (b_h_by [some a0, none, none] st) := rfl
theorem eq_g_by (a0 : SV) (st : Sto) : den_g_by [a0] st = fnRes st.length (b_g_by [some a0, none, none, none, none] st) := rfl
theorem eq_h_of (a0 : SV) (st : Sto) : den_h_of [a0] st = fnRes st.length (b_h_of [some a0] st) := rfl
theorem eq_g_of (a0 : SV) (st : Sto) : den_g_of [a0] st = fnRes st.length (b_g_of [some a0] st) := rfl
theorem eq_w_of (a0 : SV) (st : Sto) : den_w_of [a0] st = fnRes st.length (b_w_of [some a0, none, none] st) := rfl
theorem eq_core_of (a0 : SV) (st : Sto) : den_core_of [a0] st = fnRes st.length (b_core_of [some a0, none, none] st) := rfl
theorem eq_tail_of (a0 : SV) (st : Sto) : den_tail_of [a0] st = fnRes st.length (b_tail_of [some a0] st) := rfl
theorem eq_lacking (a0 a1 : SV) (st : Sto) : den_lacking [a0, a1] st = fnRes st.length (b_lacking [some a0, some a1, none] st) := rfl
theorem eq_next_step (a0 a1 : SV) (st : Sto) : den_next_step [a0, a1] st = fnRes st.length (b_next_step [some a0, some a1, none] st) := rfl
theorem eq_least_counts (a0 : SV) (st : Sto) : den_least_counts [a0] st = fnRes st.length (b_least_counts [some a0] st) := rfl
theorem eq_most_h (a0 a1 : SV) (st : Sto) : den_most_h [a0, a1] st = fnRes st.length (b_most_h [some a0, some a1, none] st) := rfl
theorem eq_h_with (a0 a1 : SV) (st : Sto) : den_h_with [a0, a1] st = fnRes st.length (b_h_with [some a0, some a1] st) := rfl
theorem eq_best_putting (a0 a1 : SV) (st : Sto) : den_best_putting [a0, a1] st = fnRes st.length (b_best_putting [some a0, some a1, none, none, none, none, none] st) := rfl
theorem eq_mean_of (a0 : SV) (st : Sto) : den_mean_of [a0] st = fnRes st.length (b_mean_of [some a0] st) := rfl
theorem eq_middle_of (a0 : SV) (st : Sto) : den_middle_of [a0] st = fnRes st.length (b_middle_of [some a0] st) := rfl
theorem eq_at_least (a0 a1 : SV) (st : Sto) : den_at_least [a0, a1] st = fnRes st.length (b_at_least [some a0, some a1, none] st) := rfl
theorem eq_ranks (a0 : SV) (st : Sto) : den_ranks [a0] st = fnRes st.length (b_ranks [some a0, none, none, none, none] st) := rfl
theorem eq_takes_h (a0 a1 : SV) (st : Sto) : den_takes_h [a0, a1] st = fnRes st.length (b_takes_h [some a0, some a1, none] st) := rfl
theorem eq__law_draws (a0 : SV) (st : Sto) : den__law_draws [a0] st = fnResF st.length (b__law_draws [some a0, none, none, none, none, none, none] st) := rfl
theorem eq__law_take (a0 a1 : SV) (st : Sto) : den__law_take [a0, a1] st = fnRes st.length (b__law_take [some a0, some a1] st) := rfl
theorem eq__law_pick (a0 a1 : SV) (st : Sto) : den__law_pick [a0, a1] st = fnRes st.length (b__law_pick [some a0, some a1] st) := rfl
theorem eq__law_mixed (a0 a1 : SV) (st : Sto) : den__law_mixed [a0, a1] st = fnRes st.length (b__law_mixed [some a0, some a1, none, none, none] st) := rfl
theorem eq__law_same (d : Nat) (a0 a1 : SV) (st : Sto) : den__law_same (d + 1) [a0, a1] st = fnRes st.length (b__law_same (den__law_same d) [some a0, some a1, none, none] st) := rfl
theorem eq__law_told (a0 a1 a2 : SV) (st : Sto) : den__law_told [a0, a1, a2] st = fnRes st.length (b__law_told [some a0, some a1, some a2, none] st) := rfl
theorem eq__law_h (a0 : SV) (st : Sto) : den__law_h [a0] st = fnRes st.length (b__law_h [some a0, none, none] st) := rfl
theorem eq__law_g (a0 : SV) (st : Sto) : den__law_g [a0] st = fnRes st.length (b__law_g [some a0, none, none] st) := rfl
theorem eq__law_ratio (a0 a1 : SV) (st : Sto) : den__law_ratio [a0, a1] st = fnRes st.length (b__law_ratio [some a0, some a1, none, none] st) := rfl
theorem eq__law_ways (a0 a1 : SV) (st : Sto) : den__law_ways [a0, a1] st = fnRes st.length (b__law_ways [some a0, some a1, none, none, none, none, none] st) := rfl
theorem eq__law_is_putting_due (a0 : SV) (st : Sto) : den__law_is_putting_due [a0] st = fnRes st.length (b__law_is_putting_due [some a0, none, none, none, none, none, none, none, none, none, none, none, none] st) := rfl
theorem eq_law (a0 : SV) (st : Sto) : den_law [a0] st = fnRes st.length (b_law [some a0, none, none, none, none, none, none, none, none, none, none, none, none, none, none, none, none, none, none, none] st) := rfl
end K42
end
section
set_option Elab.async false
set_option linter.all false
set_option autoImplicit false
set_option maxRecDepth 100000
set_option maxHeartbeats 4000000
/-! what the combinators give, as equations: no program in sight -/
namespace CB
open PySem L2
section
variable {f g h : dE} {ρ : Env} {st : Sto} {p q : D} {gs gs' : Env → Sto → R (List SV)} {a b c : Int}
@[simp] theorem eq_dC : dC p ρ st = .ok (.d p) st := rfl
@[simp] theorem eq_dSkip : dSkip ρ st = .nx ρ st := rfl
@[simp] theorem eq_dPass : dPass ρ st = .nx ρ st := rfl
@[simp] theorem eq_aNil : aNil ρ st = .ok [] st := rfl
@[simp] theorem eq_dYes : dYes ρ st = .ok true st := rfl
@[simp] theorem eq_pNo : pNo ρ st = .ok none st := rfl
@[simp] theorem noEx_ok {α : Type} (a : α) : (R.ok a st).noEx = .ok a st := rfl
theorem eq_dSeq {f g : dS} : dSeq f g ρ st = match f ρ st with
  | .nx ρ1 st1 => g ρ1 st1
  | o => o := rfl
theorem seq_nx {f g : dS} {ρ1 : Env} {st1 : Sto} (h : f ρ st = .nx ρ1 st1) : dSeq f g ρ st = g ρ1 st1 := by rw [eq_dSeq, h]
theorem seq_rt {f g : dS} {r : SV} {st1 : Sto} (h : f ρ st = .rt r st1) : dSeq f g ρ st = .rt r st1 := by rw [eq_dSeq, h]
theorem seq_ex {f g : dS} {c : Str} {x : D} {ρ1 : Env} {st1 : Sto} (h : f ρ st = .ex c x ρ1 st1) : dSeq f g ρ st = .ex c x ρ1 st1 := by rw [eq_dSeq, h]
/-! comparisons -/
@[simp] theorem okCmp_int : okCmp (.int a) (.int b) = true := rfl
@[simp] theorem gLt_int : gLt (.int a) (.int b) = some (decide (a < b)) := by rw [gLt, okCmp_int, if_pos rfl, PySem.W.dataLt_int]
@[simp] theorem gGt_int : gGt (.int a) (.int b) = some (decide (b < a)) := by rw [gGt, okCmp_int, if_pos rfl, PySem.W.dataLt_int]
@[simp] theorem gLe_int : gLe (.int a) (.int b) = some (decide (a ≤ b)) := by
  rw [gLe, okCmp_int, if_pos rfl, PySem.W.dataLt_int]
  congr 1
  by_cases h : b < a
  · rw [decide_eq_true h, decide_eq_false (by omega)]; rfl
  · rw [decide_eq_false h, decide_eq_true (by omega)]; rfl
@[simp] theorem gGe_int : gGe (.int a) (.int b) = some (decide (b ≤ a)) := by
  rw [gGe, okCmp_int, if_pos rfl, PySem.W.dataLt_int]
  congr 1
  by_cases h : a < b
  · rw [decide_eq_true h, decide_eq_false (by omega)]; rfl
  · rw [decide_eq_false h, decide_eq_true (by omega)]; rfl
@[simp] theorem okEq_ii : okEq (.int a) (.int b) = true := rfl
theorem eqv_int : PyData.eqv (.int a) (.int b) = decide (a = b) := by
  show (a == b) = _
  rfl
@[simp] theorem gEq_int : gEq (.int a) (.int b) = some (decide (a = b)) := by rw [gEq, okEq_ii, if_pos rfl, eqv_int]
@[simp] theorem gNe_int : gNe (.int a) (.int b) = some (!decide (a = b)) := by rw [gNe, okEq_ii, if_pos rfl, eqv_int]
@[simp] theorem oB_of {g : D → D → Option Bool} {b : Bool} (h : g p q = some b) : oB g p q = some (.bool b) := by rw [oB, h]; rfl
/-! a structure's equality with itself -/
mutual
theorem eqv_refl : ∀ (d : D), d.plain = true → PyData.eqv d d = true
  | .none, _ => rfl
  | .bool b, _ => by show (b == b) = true; simp
  | .int i, _ => by show (i == i) = true; simp
  | .str x, _ => by show (x == x) = true; simp
  | .list xs, h => eqvAll_refl xs (plain_list h)
  | .tuple xs, h => eqvAll_refl xs (plain_tuple h)
  | .dict _, h => by simp [PyData.plain] at h
theorem eqvAll_refl : ∀ (ds : List D), PyData.plainAll ds = true → PyData.eqvAll ds ds = true
  | [], _ => rfl
  | d :: ds, h => by
    have h' : d.plain = true ∧ PyData.plainAll ds = true := by simpa [PyData.plainAll] using h
    show (PyData.eqv d d && PyData.eqvAll ds ds) = true
    rw [eqv_refl d h'.1, eqvAll_refl ds h'.2]; rfl
end
/-! ints -/
@[simp] theorem plainAll_ints (ns : List Int) : PyData.plainAll (ns.map PyData.int) = true := by
  induction ns with
  | nil => rfl
  | cons n ns ih => simp [PyData.plainAll, PyData.plain, ih]
@[simp] theorem depthAll_ints (ns : List Int) : PyData.depthAll (ns.map PyData.int) = 0 := by
  induction ns with
  | nil => rfl
  | cons n ns ih => simp [PyData.depthAll, PyData.depth, ih]
@[simp] theorem plainAll_bools (ns : List Bool) : PyData.plainAll (ns.map PyData.bool) = true := by
  induction ns with
  | nil => rfl
  | cons n ns ih => simp [PyData.plainAll, PyData.plain, ih]
@[simp] theorem depthAll_bools (ns : List Bool) : PyData.depthAll (ns.map PyData.bool) = 0 := by
  induction ns with
  | nil => rfl
  | cons n ns ih => simp [PyData.depthAll, PyData.depth, ih]
theorem okSort_ints {ns : List Int} (h : ns.length ≤ lim) : okSort (ns.map PyData.int) = true := by
  unfold okSort
  simp only [Bool.and_eq_true, Bool.or_eq_true, List.all_eq_true, decide_eq_true_eq, plainAll_ints, depthAll_ints, List.length_map, List.mem_map]
  refine ⟨?_, .inr ?_, trivial, Nat.zero_le _, h⟩
  · rintro _ ⟨a, _, rfl⟩ _ ⟨b, _, rfl⟩; rfl
  · rintro _ ⟨a, _, rfl⟩; rfl
def sortI (ns : List Int) : List Int := ns.mergeSort (fun a b => decide (a ≤ b))
theorem sortD_ints (ns : List Int) : sortD (ns.map PyData.int) = (sortI ns).map PyData.int := by
  unfold sortD sortI
  have hm := List.map_mergeSort (r := fun a b => decide (a ≤ b)) (s := PySem.W.dataLe false id) (f := PyData.int) (l := ns) (fun a _ b _ => by
    rw [PySem.W.dataLe_eq]
    show decide (a ≤ b) = (!PySem.W.dataLt (.int b) (.int a))
    rw [PySem.W.dataLt_int]
    by_cases h : b < a
    · rw [decide_eq_true h, decide_eq_false (by omega)]; rfl
    · rw [decide_eq_false h, decide_eq_true (by omega)]; rfl)
  exact hm.symm
theorem fSorted_ints {ns : List Int} (h : ns.length ≤ lim) : fSorted (.list (ns.map .int)) = some (.list ((sortI ns).map .int)) := by
  show (if okSort (ns.map PyData.int) = true then some (PyData.list (sortD (ns.map PyData.int))) else none) = _
  rw [if_pos (okSort_ints h), sortD_ints]
theorem sortI_perm (ns : List Int) : (sortI ns).Perm ns := List.mergeSort_perm _ _
theorem sortI_le (ns : List Int) : (sortI ns).Pairwise (· ≤ ·) := by
  have := List.pairwise_mergeSort (le := fun a b : Int => decide (a ≤ b)) (fun a b c h1 h2 => by simp at *; omega) (fun a b => by simp; omega) ns
  exact this.imp fun h => by simpa using h
/-! comprehensions -/
theorem lcLoop_map {α : Type} (enc : α → D) (pp : α → Bool) (ff : α → D) {chk : Sto → Bool} {gg : dG} {cc : Env → Sto → R Bool} {ee : dE} (hc : chk st = true) : ∀ (xs : List α) (acc : List D), acc.length + xs.length ≤ lim →
    (∀ x ∈ xs, ∃ ρ1, gg (enc x) ρ = some ρ1 ∧ cc ρ1 st = .ok (pp x) st ∧ (pp x = true → ee ρ1 st = .ok (.d (ff x)) st)) →
    lcLoop chk gg ρ cc ee (xs.map enc) acc st = .ok (.list (acc ++ (xs.filter pp).map ff)) st
  | [], acc, _, _ => by
    show (if chk st = true then R.ok (PyData.list acc) st else .bad) = _
    rw [if_pos hc]; simp
  | x :: xs, acc, hl, hx => by
    obtain ⟨ρ1, h1, h2, h3⟩ := hx x List.mem_cons_self
    rw [List.map_cons]
    unfold lcLoop
    rw [if_pos hc, h1]
    simp only [h2, noEx_ok, R.bind_ok]
    have hl' : acc.length + xs.length + 1 ≤ lim := by simpa [Nat.add_assoc] using hl
    cases hp : pp x with
    | false =>
      rw [if_neg Bool.false_ne_true, lcLoop_map enc pp ff hc xs acc (by omega) fun y hy => hx y (List.mem_cons_of_mem _ hy)]
      simp [hp]
    | true =>
      rw [if_pos rfl, h3 hp]
      simp only [noEx_ok, R.bind_ok]
      rw [if_pos (by omega), lcLoop_map enc pp ff hc xs (acc ++ [ff x]) (by simp; omega) fun y hy => hx y (List.mem_cons_of_mem _ hy)]
      simp [hp]
theorem dLC_map {α : Type} (enc : α → D) (pp : α → Bool) (ff : α → D) {it : Env → Sto → R ITV} {vs : List Nat} {gg : dG} {cc : Env → Sto → R Bool} {ee : dE} (xs : List α) {chk : Sto → Bool} {st1 : Sto} (hi : it ρ st = .ok ⟨xs.map enc, chk⟩ st1) (hc : chk st1 = true) (hl : xs.length ≤ lim)
    (hx : ∀ x ∈ xs, ∃ ρ1, gg (enc x) (wipeE ρ vs) = some ρ1 ∧ cc ρ1 st1 = .ok (pp x) st1 ∧ (pp x = true → ee ρ1 st1 = .ok (.d (ff x)) st1)) :
    dLC it vs gg cc ee ρ st = .ok (.list ((xs.filter pp).map ff)) st1 := by
  unfold dLC
  rw [hi, R.bind_ok, lcLoop_map enc pp ff hc xs [] (by simpa using hl) hx]
  rfl
/-- without a test -/
theorem dLC_all {α : Type} (enc : α → D) (ff : α → D) {it : Env → Sto → R ITV} {vs : List Nat} {gg : dG} {ee : dE} (xs : List α) {chk : Sto → Bool} {st1 : Sto} (hi : it ρ st = .ok ⟨xs.map enc, chk⟩ st1) (hc : chk st1 = true) (hl : xs.length ≤ lim)
    (hx : ∀ x ∈ xs, ∃ ρ1, gg (enc x) (wipeE ρ vs) = some ρ1 ∧ ee ρ1 st1 = .ok (.d (ff x)) st1) :
    dLC it vs gg dYes ee ρ st = .ok (.list (xs.map ff)) st1 := by
  rw [dLC_map enc (fun _ => true) ff xs hi hc hl fun x h => by
    obtain ⟨ρ1, h1, h2⟩ := hx x h
    exact ⟨ρ1, h1, rfl, fun _ => h2⟩]
  rw [List.filter_eq_self.mpr (fun _ _ => rfl)]
@[simp] theorem wipeE_nil : wipeE ρ [] = ρ := rfl
@[simp] theorem wipeE_cons (v : Nat) (vs : List Nat) : wipeE ρ (v :: vs) = (wipeE ρ vs).set v none := rfl
theorem rangeD_map (lo : Int) (n : Nat) : rangeD lo n = (List.range n).map fun i : Nat => PyData.int (lo + (i : Int)) := rfl
theorem enumD_map (ds : List D) : enumD ds = (ds.zipIdx).map fun x => PyData.tuple [.int (x.2 : Int), x.1] := by
  apply List.ext_getElem?
  intro i
  unfold enumD
  rw [List.getElem?_zipWith, List.getElem?_map, List.getElem?_zipIdx]
  cases h : ds[i]? with
  | none =>
    simp
  | some d =>
    have hi : i < ds.length := (List.getElem?_eq_some_iff.mp h).1
    rw [List.getElem?_range hi]
    simp
end
end CB
end
section
set_option Elab.async false
set_option linter.all false
set_option autoImplicit false
set_option maxRecDepth 100000
set_option maxHeartbeats 4000000
/-! the combinators unfolded, for simp -/
namespace CB
open PySem L2
section
variable {f f' f'' : dE} {ρ : Env} {st : Sto} {p q : D} {gs : Env → Sto → R (List SV)} {fc fc' : Env → Sto → R Bool} {g g' : D → D → Option Bool} {o : D → D → Option D} {u : D → Option D} {cal : List D → Option D} {F F' : Env → Sto → R D} {s s' : dS} {it : Env → Sto → R ITV} {gg : dG}
@[simp] theorem e_dV (i : Nat) : dV i ρ st = match ρ[i]? with
  | some (some r) => .ok r st
  | _ => .bad := rfl
@[simp] theorem e_dOp2 : dOp2 o f f' ρ st = (f ρ st).bind fun x st1 => (f' ρ st1).bind fun y st2 => match der st2 x, der st2 y with
  | some p, some q => (match o p q with
    | some z => .ok (.d z) st2
    | none => .bad)
  | _, _ => .bad := rfl
@[simp] theorem e_dOp1 : dOp1 u f ρ st = (f ρ st).bind fun x st1 => match der st1 x with
  | some p => (match u p with
    | some z => .ok (.d z) st1
    | none => .bad)
  | none => .bad := rfl
@[simp] theorem e_dIsi (T : String) : dIsi T f ρ st = (f ρ st).bind fun x st1 => match der st1 x with
  | some p => .ok (.d (.bool (isiD T p))) st1
  | none => .bad := rfl
@[simp] theorem e_dTru : dTru f ρ st = (f ρ st).bind fun x st1 => match truS st1 x with
  | some b => .ok b st1
  | none => .bad := by unfold dTru; rfl
@[simp] theorem e_dTest : dTest f ρ st = (f ρ st).bind fun x st1 => match x with
  | .d (.bool b) => .ok b st1
  | _ => .bad := by unfold dTest; rfl
@[simp] theorem e_tdAnd : tdAnd fc fc' ρ st = (fc ρ st).bind fun k st1 => if k = true then fc' ρ st1 else .ok false st1 := rfl
@[simp] theorem e_tdOr : tdOr fc fc' ρ st = (fc ρ st).bind fun k st1 => if k = true then .ok true st1 else fc' ρ st1 := rfl
@[simp] theorem e_tdNot : tdNot fc ρ st = (fc ρ st).bind fun k st1 => .ok (!k) st1 := rfl
@[simp] theorem e_dAnd : dAnd f f' ρ st = (f ρ st).bind fun x st1 => match truS st1 x with
  | some true => f' ρ st1
  | some false => .ok x st1
  | none => .bad := by unfold dAnd; rfl
@[simp] theorem e_dNot : dNot f ρ st = (f ρ st).bind fun x st1 => match truS st1 x with
  | some k => .ok (.d (.bool (!k))) st1
  | none => .bad := by unfold dNot; rfl
@[simp] theorem e_dIf : dIf fc f f' ρ st = (fc ρ st).bind fun k st1 => if k = true then f ρ st1 else f' ρ st1 := rfl
@[simp] theorem e_aCons : aCons f gs ρ st = (f ρ st).bind fun x st1 => (gs ρ st1).bind fun xs st2 => .ok (x :: xs) st2 := rfl
@[simp] theorem e_aStar : aStar f gs ρ st = (f ρ st).bind fun x st1 => match x with
  | .d (.list xs) => (gs ρ st1).bind fun ys st2 => .ok (xs.map .d ++ ys) st2
  | .d (.tuple xs) => (gs ρ st1).bind fun ys st2 => .ok (xs.map .d ++ ys) st2
  | _ => .bad := rfl
@[simp] theorem e_dTup : dTup gs ρ st = (gs ρ st).bind fun rs st1 => match unD rs with
  | some ds => if ds.length ≤ lim then .ok (.d (.tuple ds)) st1 else .bad
  | none => .bad := rfl
@[simp] theorem e_nLst : nLst gs ρ st = (gs ρ st).bind fun rs st1 => match unD rs with
  | some ds => if ds.length ≤ lim then .ok (.list ds) st1 else .bad
  | none => .bad := rfl
@[simp] theorem e_dNew : dNew F ρ st = (F ρ st).bind fun p st1 => .ok (.d p) st1 := rfl
@[simp] theorem e_dCal : dCal cal gs ρ st = (gs ρ st).bind fun rs st1 => match derL st1 rs with
  | some ds => (match cal ds with
    | some z => .ok (.d z) st1
    | none => .bad)
  | none => .bad := rfl
@[simp] theorem e_nCal : nCal cal gs ρ st = (gs ρ st).bind fun rs st1 => match derL st1 rs with
  | some ds => (match cal ds with
    | some z => .ok z st1
    | none => .bad)
  | none => .bad := rfl
@[simp] theorem e_nRev : nRev f ρ st = (f ρ st).bind fun x st1 => match der st1 x with
  | some (.list xs) => .ok (.list xs.reverse) st1
  | _ => .bad := rfl
@[simp] theorem e_dSl {l h : Env → Sto → R (Option Int)} : dSl f l h ρ st = (f ρ st).bind fun x st1 => (l ρ st1).bind fun lo st2 => (h ρ st2).bind fun hi st3 => match der st3 x with
  | some (.list xs) => .ok (.list (cutD xs lo hi)) st3
  | _ => .bad := rfl
@[simp] theorem e_pAt : pAt f ρ st = (f ρ st).bind fun x st1 => match x with
  | .d (.int i) => .ok (some i) st1
  | _ => .bad := rfl
@[simp] theorem e_dChain : dChain g g' f f' f'' ρ st = (f ρ st).bind fun x st1 => (f' ρ st1).bind fun y st2 => match der st2 x, der st2 y with
  | some p, some q => (match g p q with
    | some true => (f'' ρ st2).bind fun z st3 => (match der st3 y, der st3 z with
      | some q', some r => (match g' q' r with
        | some b => .ok (.d (.bool b)) st3
        | none => .bad)
      | _, _ => .bad)
    | some false => .ok (.d (.bool false)) st2
    | none => .bad)
  | _, _ => .bad := by unfold dChain; rfl
@[simp] theorem e_dCallP (n : Nat) (den : Den) : dCallP n den gs ρ st = (gs ρ st).bind fun rs st1 => callP n den rs st1 := rfl
@[simp] theorem e_dCallB (n : Nat) (den : Den) : dCallB n den gs ρ st = (gs ρ st).bind fun rs st1 => if rs.length = n then den rs st1 else .bad := rfl
@[simp] theorem unD_nil : unD [] = some [] := rfl
@[simp] theorem unD_d (rs : List SV) : unD (.d p :: rs) = (unD rs).map (p :: ·) := rfl
@[simp] theorem unD_map (ds : List D) : unD (ds.map .d) = some ds := by
  induction ds with
  | nil => rfl
  | cons d ds ih => rw [List.map_cons, unD_d, ih]; rfl
@[simp] theorem derL_nil : derL st [] = some [] := rfl
@[simp] theorem derL_cons (r : SV) (rs : List SV) : derL st (r :: rs) = (der st r).bind fun p => (derL st rs).map (p :: ·) := rfl
@[simp] theorem g1_one (x : D) : g1 u [x] = u x := rfl
@[simp] theorem g2_two (x y : D) : g2 o [x, y] = o x y := rfl
theorem callP_ok {n : Nat} {den : Den} {ds : List D} {z : D} {st0 : Sto} (hn : ds.length = n) (h : den (ds.map .d) [] = .ok (.d z) st0) : callP n den (ds.map .d) st = .ok (.d z) st := by
  unfold callP
  rw [if_pos (by simpa using hn), unD_map]
  simp only [h]
theorem callP_ex {n : Nat} {den : Den} {ds : List D} {c : Str} {z : D} {st0 : Sto} (hn : ds.length = n) (h : den (ds.map .d) [] = .ex c z st0) : callP n den (ds.map .d) st = .ex c z st := by
  unfold callP
  rw [if_pos (by simpa using hn), unD_map]
  simp only [h]
theorem callP1 {den : Den} {x z : D} {st0 : Sto} (h : den [.d x] [] = .ok (.d z) st0) : callP 1 den [.d x] st = .ok (.d z) st := callP_ok (ds := [x]) rfl h
theorem callP2 {den : Den} {x y z : D} {st0 : Sto} (h : den [.d x, .d y] [] = .ok (.d z) st0) : callP 2 den [.d x, .d y] st = .ok (.d z) st := callP_ok (ds := [x, y]) rfl h
theorem callP3 {den : Den} {x y w z : D} {st0 : Sto} (h : den [.d x, .d y, .d w] [] = .ok (.d z) st0) : callP 3 den [.d x, .d y, .d w] st = .ok (.d z) st := callP_ok (ds := [x, y, w]) rfl h
theorem callP1x {den : Den} {x z : D} {c : Str} {st0 : Sto} (h : den [.d x] [] = .ex c z st0) : callP 1 den [.d x] st = .ex c z st := callP_ex (ds := [x]) rfl h
theorem callP2x {den : Den} {x y z : D} {c : Str} {st0 : Sto} (h : den [.d x, .d y] [] = .ex c z st0) : callP 2 den [.d x, .d y] st = .ex c z st := callP_ex (ds := [x, y]) rfl h
/-! statements -/
@[simp] theorem e_dSeq : dSeq s s' ρ st = match s ρ st with
  | .nx ρ1 st1 => s' ρ1 st1
  | o => o := rfl
@[simp] theorem e_dRet : dRet f ρ st = (f ρ st).bO ρ fun r st1 => .rt r st1 := rfl
@[simp] theorem e_dExp : dExp f ρ st = (f ρ st).bO ρ fun _ st1 => .nx ρ st1 := rfl
@[simp] theorem e_dIfS : dIfS fc s s' ρ st = (fc ρ st).bO ρ fun b st1 => if b = true then s ρ st1 else s' ρ st1 := rfl
@[simp] theorem e_dAsg (i : Nat) : dAsg i f ρ st = (f ρ st).bO ρ fun r st1 => .nx (ρ.set i (some r)) st1 := rfl
@[simp] theorem e_dBox (i : Nat) : dBox i F ρ st = (F ρ st).bO ρ fun p st1 => .nx (ρ.set i (some (.box st1.length))) (st1 ++ [p]) := rfl
@[simp] theorem e_dAsgG : dAsgG gg f ρ st = (f ρ st).bO ρ fun r st1 => match r with
  | .d d => (match gg d ρ with
    | some ρ1 => .nx ρ1 st1
    | none => .bad)
  | .box _ => .bad := rfl
@[simp] theorem e_dRaise (c : Str) : dRaise c ρ st = .ex c .none ρ st := rfl
@[simp] theorem e_dPar (is : List Nat) : dPar is gs ρ st = (gs ρ st).bO ρ fun rs st1 => match setAll ρ is rs with
  | some ρ1 => .nx ρ1 st1
  | none => .bad := rfl
@[simp] theorem setAll_nil : setAll ρ [] [] = some ρ := rfl
@[simp] theorem setAll_cons (i : Nat) (is : List Nat) (r : SV) (rs : List SV) : setAll ρ (i :: is) (r :: rs) = setAll (ρ.set i (some r)) is rs := rfl
@[simp] theorem e_aBox : aBox F gs ρ st = (F ρ st).bind fun p st1 => (gs ρ (st1 ++ [p])).bind fun rs st2 => .ok (.box st1.length :: rs) st2 := rfl
@[simp] theorem e_dAug (i : Nat) : dAug i o f ρ st = match ρ[i]? with
  | some (some (.d x)) => (f ρ st).bO ρ fun r st1 => (match r with
    | .d y => (match o x y with
      | some z => .nx (ρ.set i (some (.d z))) st1
      | none => .bad)
    | .box _ => .bad)
  | _ => .bad := rfl
@[simp] theorem e_gN (i : Nat) : gN i p ρ = some (ρ.set i (some (.d p))) := rfl
@[simp] theorem e_gT (n : Nat) {r : List D → Env → Option Env} (ds : List D) : gT n r (.tuple ds) ρ = if ds.length = n then r ds ρ else none := rfl
@[simp] theorem e_gNilD : gNilD [] ρ = some ρ := rfl
@[simp] theorem e_gConsD {r : List D → Env → Option Env} (ds : List D) : gConsD gg r (p :: ds) ρ = (gg p ρ).bind fun ρ1 => r ds ρ1 := rfl
theorem run_eq {m n : Nat} {body : dS} {rs : List SV} (h : rs.length = m) : runF m n body rs st = fnRes st.length (body (env0 n rs) st) := by unfold runF; rw [if_pos h]
@[simp] theorem fnRes_d (n0 : Nat) : fnRes n0 (.rt (.d p) st) = .ok (.d p) (st.take n0) := rfl
@[simp] theorem fnRes_nx (n0 : Nat) : fnRes n0 (.nx ρ st) = .ok (.d .none) (st.take n0) := rfl
@[simp] theorem fnRes_ex (n0 : Nat) (c : Str) (x : D) : fnRes n0 (.ex c x ρ st) = .ex c x (st.take n0) := rfl
@[simp] theorem truS_bool (b : Bool) : truS st (.d (.bool b)) = some b := rfl
@[simp] theorem truS_none : truS st (.d .none) = some false := rfl
@[simp] theorem truS_int (b : Int) : truS st (.d (.int b)) = some (b != 0) := rfl
@[simp] theorem oI0_int {h : Int → Int → Int} (a b : Int) : oI0 h (.int a) (.int b) = some (.int (h a b)) := rfl
@[simp] theorem oAddA_int (a b : Int) : oAddA (.int a) (.int b) = some (.int (a + b)) := rfl
@[simp] theorem oSub_int (a b : Int) : oSub (.int a) (.int b) = some (.int (a - b)) := rfl
@[simp] theorem oNeg_int (a : Int) : oNeg (.int a) = some (.int (-a)) := rfl
@[simp] theorem fLen_list (xs : List D) : fLen (.list xs) = some (.int xs.length) := rfl
@[simp] theorem fLen_tuple (xs : List D) : fLen (.tuple xs) = some (.int xs.length) := rfl
@[simp] theorem fList_list (xs : List D) : fList (.list xs) = some (.list xs) := rfl
@[simp] theorem fInt_int (a : Int) : fInt (.int a) = some (.int a) := rfl
@[simp] theorem fAbs_int (a : Int) : fAbs (.int a) = some (.int (if a < 0 then -a else a)) := rfl
@[simp] theorem fMax2_int (a b : Int) : fMax2 (.int a) (.int b) = some (.int (if b > a then b else a)) := rfl
@[simp] theorem fSum_ints (ns : List Int) : fSumA (.list (ns.map .int)) = some (.int ns.sum) := by
  show (intsD (ns.map PyData.int)).map _ = _
  rw [intsD_ints]; rfl
@[simp] theorem fSum_tup (ns : List Int) : fSumA (.tuple (ns.map .int)) = some (.int ns.sum) := by
  show (intsD (ns.map PyData.int)).map _ = _
  rw [intsD_ints]; rfl
@[simp] theorem fAll_bools (ns : List Bool) : fAll (.list (ns.map .bool)) = some (.bool (ns.all id)) := by
  show (boolsD (ns.map PyData.bool)).map _ = _
  rw [boolsD_bools]; rfl
@[simp] theorem fAll_map {α : Type} (xs : List α) (p : α → Bool) : fAll (.list (xs.map fun x => .bool (p x))) = some (.bool (xs.all p)) := by
  have : (xs.map fun x => PyData.bool (p x)) = (xs.map p).map PyData.bool := by rw [List.map_map]; rfl
  rw [this, fAll_bools, List.all_map]; rfl
@[simp] theorem fSum_map {α : Type} (xs : List α) (p : α → Int) : fSumA (.list (xs.map fun x => .int (p x))) = some (.int (xs.map p).sum) := by
  have : (xs.map fun x => PyData.int (p x)) = (xs.map p).map PyData.int := by rw [List.map_map]; rfl
  rw [this, fSum_ints]
end

end CB
namespace CB
open PySem L2
section
variable {ρ : Env} {st : Sto} {gg : dG} {chk : Sto → Bool} {body : dS} {fc : Env → Sto → R Bool}
theorem cutD_take (xs : List D) (h : Nat) : cutD xs none (some (h : Int)) = xs.take h := by
  unfold cutD
  rw [HT.sIx_nat, HT.sIx_none, List.drop_zero, Nat.sub_zero]
  by_cases hh : h ≤ xs.length
  · rw [Nat.min_eq_left hh]
  · rw [Nat.min_eq_right (by omega), List.take_of_length_le (Nat.le_refl _), List.take_of_length_le (by omega)]
theorem enumD_ints (ns : List Int) : enumD (ns.map .int) = ns.zipIdx.map fun x => PyData.tuple [.int (x.2 : Int), .int x.1] := by
  rw [enumD_map, List.zipIdx_map, List.map_map]
  rfl
/-- a for that changes what E and T tell by step, and never leaves early -/
theorem forLoop_run {α S : Type} (enc : α → D) (E : S → Env) (T : S → Sto) (step : S → α → S) (P : S → Prop) (hc : ∀ s, P s → chk (T s) = true) : ∀ (xs : List α) (s : S), P s →
    (∀ s x, x ∈ xs → P s → P (step s x) ∧ ∃ ρ1, gg (enc x) (E s) = some ρ1 ∧ body ρ1 (T s) = .nx (E (step s x)) (T (step s x))) →
    forLoop chk gg body (xs.map enc) (E s) (T s) = .nx (E (xs.foldl step s)) (T (xs.foldl step s)) ∧ P (xs.foldl step s)
  | [], s, hP, _ => by
    refine ⟨?_, hP⟩
    show (if chk (T s) = true then O.nx (E s) (T s) else .bad) = _
    rw [if_pos (hc s hP)]; rfl
  | x :: xs, s, hP, h => by
    obtain ⟨hP', ρ1, h1, h2⟩ := h s x List.mem_cons_self hP
    rw [List.map_cons]
    unfold forLoop
    rw [if_pos (hc s hP), h1]
    simp only [h2]
    exact forLoop_run enc E T step P hc xs (step s x) hP' fun s y hy => h s y (List.mem_cons_of_mem _ hy)
@[simp] theorem e_dFor {it : Env → Sto → R ITV} : dFor it gg body ρ st = (it ρ st).bO ρ fun I st1 => forLoop I.chk gg body I.items ρ st1 := rfl
@[simp] theorem e_dWhile : dWhile fc body ρ st = whLoop fc body fuel ρ st := rfl
theorem fuel_big {n : Nat} (h : n < 2 ^ 64) : n < fuel := by
  unfold fuel
  exact Nat.lt_of_lt_of_le h (Nat.pow_le_pow_right (by decide) (by decide))
theorem wh_stop {n : Nat} (hn : 0 < n) (h : fc ρ st = .ok false st) : whLoop fc body n ρ st = .nx ρ st := by
  cases n with
  | zero => omega
  | succ n => unfold whLoop; rw [h]; simp
theorem wh_turn {n : Nat} {ρ1 : Env} {st1 : Sto} (h : fc ρ st = .ok true st) (hb : body ρ st = .nx ρ1 st1) : whLoop fc body (n + 1) ρ st = whLoop fc body n ρ1 st1 := by
  rw [whLoop, h]
  simp only [R.bO_ok, if_true, hb]
end
end CB
end
section
set_option Elab.async false
set_option linter.all false
set_option autoImplicit false
set_option maxRecDepth 100000
set_option maxHeartbeats 4000000
namespace K42
open PySem L2 CB
@[simp] theorem isi_int_int (i : Int) : isiD "int" (.int i) = true   := rfl
@[simp] theorem isi_bool_int (i : Int) : isiD "bool" (.int i) = false   := rfl
@[simp] theorem isi_list_list (ds : List D) : isiD "list" (.list ds) = true   := rfl
@[simp] theorem isi_bool_bool (b : Bool) : isiD "bool" (.bool b) = true := rfl
theorem is_integer_int (i : Int) : den_is_integer [.d (.int i)] [] = .ok (.d (.bool true)) [] := by
  rw [eq_is_integer]
  simp [b_is_integer]
def inn (v l h : Int) : Bool := decide (l ≤ v) && decide (v ≤ h)
theorem is_within_int (v l h : Int) : den_is_within [.d (.int v), .d (.int l), .d (.int h)] [] = .ok (.d (.bool (inn v l h))) [] := by
  rw [eq_is_within]
  simp [b_is_within, callP1 (is_integer_int v)]
  by_cases h1 : l ≤ v <;> simp [h1, inn]
theorem check_true : den_check [.d (.bool true)] [] = .ok (.d .none) [] := by
  rw [eq_check]
  simp [b_check]
theorem check_false : den_check [.d (.bool false)] [] = .ex "NotRight" .none [] := by
  rw [eq_check]
  simp [b_check]
theorem is_count_int (i : Int) : den_is_count [.d (.int i)] [] = .ok (.d (.bool (decide (0 ≤ i)))) [] := by
  rw [eq_is_count]
  simp [b_is_count, callP1 (is_integer_int i)]
abbrev L (cs : List Int) : D := .list (cs.map .int)
def okC (cs : List Int) : Bool := decide (cs.length ≤ 500) && cs.all fun c => inn c 0 1000000
theorem lim_eq : lim = 1000000 := rfl
theorem iL_d (ds : List D) (i : Nat) (ρ : CB.Env) (st : Sto) (h : ρ[i]? = some (some (.d (.list ds)))) : iL (dV i) ρ st = .ok ⟨ds, fun _ => true⟩ st := by
  unfold iL
  simp [h]
theorem are_counts_L {cs : List Int} (h : cs.length ≤ 500) : den_are_counts [.d (L cs)] [] = .ok (.d (.bool (cs.all fun c => inn c 0 1000000))) [] := by
  have hl : ¬ (500 : Int) < cs.length := by omega
  rw [eq_are_counts]
  simp [b_are_counts, hl]
  rw [dLC_all PyData.int (fun c => .bool (inn c 0 1000000)) cs (chk := fun _ => true) (st1 := []) (iL_d _ _ _ _ rfl) rfl (by rw [lim_eq]; omega) (fun c _ => ⟨_, rfl, by simp [callP3 (is_within_int c 0 1000000)]⟩)]
  simp
end K42
end
section
set_option Elab.async false
set_option linter.all false
set_option autoImplicit false
set_option maxRecDepth 100000
set_option maxHeartbeats 4000000
namespace K42
open PySem L2 CB
/-! each def, by plain numbers -/
def Good (cs : List Int) : Prop := cs.length ≤ 500 ∧ ∀ c ∈ cs, 0 ≤ c ∧ c ≤ 1000000
theorem Good.all {cs : List Int} (h : Good cs) : (cs.all fun c => inn c 0 1000000) = true := by
  simp only [List.all_eq_true, inn, Bool.and_eq_true, decide_eq_true_eq]
  exact h.2
theorem Good.lim {cs : List Int} (h : Good cs) : cs.length ≤ lim := Nat.le_trans h.1 (by decide)
theorem are_counts_ok {cs : List Int} (h : Good cs) : den_are_counts [.d (L cs)] [] = .ok (.d (.bool true)) [] := by
  rw [are_counts_L h.1, h.all]
theorem check_counts_ok {cs : List Int} (h : Good cs) : den_check_counts [.d (L cs)] [] = .ok (.d .none) [] := by
  rw [eq_check_counts]
  simp [b_check_counts, callP1 (are_counts_ok h), callP1 check_true]
def fall (cs : List Int) : List Int := (sortI cs).reverse
theorem sortI_len (cs : List Int) : (sortI cs).length = cs.length := (sortI_perm cs).length_eq
theorem fall_len (cs : List Int) : (fall cs).length = cs.length := by rw [fall, List.length_reverse, sortI_len]
theorem fall_perm (cs : List Int) : (fall cs).Perm cs := (List.reverse_perm _).trans (sortI_perm cs)
theorem falling_ok {cs : List Int} (h : cs.length ≤ lim) : den_falling [.d (L cs)] [] = .ok (.d (L (fall cs))) [] := by
  rw [eq_falling]
  simp [b_falling, fSorted_ints h, fall]
/-- the pairs that enumerate gives -/
def encP (x : Int × Nat) : D := .tuple [.int (x.2 : Int), .int x.1]
def hby (cs : List Int) : Nat := ((fall cs).zipIdx.filter fun x => decide ((x.2 : Int) < x.1)).length
theorem iE_ok {gs : CB.Env → Sto → R (List SV)} {ρ : CB.Env} {st st1 : Sto} {ns : List Int} (h : gs ρ st = .ok [.d (L ns)] st1) : iE gs ρ st = .ok ⟨ns.zipIdx.map encP, fun _ => true⟩ st1 := by
  unfold iE
  rw [h, R.bind_ok]
  show R.ok (ITV.mk (enumD (ns.map PyData.int)) _) _ = _
  rw [enumD_ints]
  rfl
theorem h_by_ok {cs : List Int} (h : cs.length ≤ lim) : den_h_by [.d (L cs)] [] = .ok (.d (.int (hby cs))) [] := by
  rw [eq_h_by]
  simp [b_h_by]
  rw [dLC_map encP (fun x => decide ((x.2 : Int) < x.1)) (fun _ => .int 1) (fall cs).zipIdx (chk := fun _ => true) (st1 := []) (iE_ok (by simp [callP1 (falling_ok h)])) rfl (by simpa [fall_len] using h) (fun x _ => ⟨_, rfl, by simp, by simp⟩)]
  simp [hby]
end K42
end
section
set_option Elab.async false
set_option linter.all false
set_option autoImplicit false
set_option maxRecDepth 100000
set_option maxHeartbeats 4000000
namespace K42
open PySem L2 CB
theorem oMulA_small {a b : Int} (h : a.natAbs < 18446744073709551616) : oMulA (.int a) (.int b) = some (.int (a * b)) := by
  have : cMul a b = true := by
    unfold cMul
    simp only [Bool.or_eq_true, decide_eq_true_eq]
    exact .inl h
  unfold oMulA oMulI oI
  simp [this]
theorem mem_zip_lt {cs : List Int} {x : Int × Nat} (h : x ∈ cs.zipIdx) : x.2 < cs.length := by
  have := List.mem_zipIdx' h
  omega
theorem foldl_fst {α S T : Type} (f : S → α → S) (g : α → T) : ∀ (xs : List α) (s : S) (t : T), (xs.foldl (fun (p : S × T) x => (f p.1 x, g x)) (s, t)).1 = xs.foldl f s
  | [], _, _ => rfl
  | x :: xs, s, t => foldl_fst f g xs (f s x) (g x)
/-! g -/
def gst (s : Int × Int) (x : Int × Nat) : Int × Int := (if ((x.2 : Int) + 1) * ((x.2 : Int) + 1) ≤ s.2 + x.1 then (x.2 : Int) + 1 else s.1, s.2 + x.1)
def gby (cs : List Int) : Int := ((fall cs).zipIdx.foldl gst (0, 0)).1
def gE (cs : List Int) (s : (Int × Int) × Option (Int × Nat)) : CB.Env := [some (.d (L cs)), some (.d (.int s.1.1)), some (.d (.int s.1.2)), s.2.map fun x => .d (.int (x.2 : Int)), s.2.map fun x => .d (.int x.1)]
theorem g_body (c0 : SV) (f w a o : Int) (at0 one0 : Option SV) (h0 : 0 ≤ a) (h1 : a < 1000000) : (dSeq (dAug 2 oAugI (dV 4)) (dSeq (dIfS (dTest (dOp2 (oB gGe) (dV 2) (dOp2 oMulA (dOp2 oAddA (dV 3) (dC (.int 1))) (dOp2 oAddA (dV 3) (dC (.int 1)))))) (dSeq (dAsg 1 (dOp2 oAddA (dV 3) (dC (.int 1)))) (dSkip)) (dSkip)) (dSkip))) [some c0, some (.d (.int f)), some (.d (.int w)), some (.d (.int a)), some (.d (.int o))] [] =
    .nx [some c0, some (.d (.int (if (a + 1) * (a + 1) ≤ w + o then a + 1 else f))), some (.d (.int (w + o))), some (.d (.int a)), some (.d (.int o))] [] := by
  have hm : oMulA (.int (a + 1)) (.int (a + 1)) = some (.int ((a + 1) * (a + 1))) := oMulA_small (by omega)
  simp [oAugI, hm]
  by_cases hc : (a + 1) * (a + 1) ≤ w + o <;> simp [hc]
theorem g_loop {cs : List Int} (h : cs.length ≤ lim) : forLoop (fun _ => true) (gT 2 (gConsD (gN 3) (gConsD (gN 4) gNilD))) (dSeq (dAug 2 oAugI (dV 4)) (dSeq (dIfS (dTest (dOp2 (oB gGe) (dV 2) (dOp2 oMulA (dOp2 oAddA (dV 3) (dC (.int 1))) (dOp2 oAddA (dV 3) (dC (.int 1)))))) (dSeq (dAsg 1 (dOp2 oAddA (dV 3) (dC (.int 1)))) (dSkip)) (dSkip)) (dSkip))) ((fall cs).zipIdx.map encP) (gE cs ((0, 0), none)) [] =
    .nx (gE cs ((fall cs).zipIdx.foldl (fun p x => (gst p.1 x, some x)) ((0, 0), none))) [] :=
  (forLoop_run encP (gE cs) (fun _ => []) (fun p x => (gst p.1 x, some x)) (fun _ => True) (fun _ _ => rfl) (fall cs).zipIdx ((0, 0), none) trivial (fun s x hx _ => ⟨trivial, [some (.d (L cs)), some (.d (.int s.1.1)), some (.d (.int s.1.2)), some (.d (.int (x.2 : Int))), some (.d (.int x.1))], rfl, by
      have h1 := mem_zip_lt hx
      rw [fall_len] at h1
      have h2 : x.2 < 1000000 := Nat.lt_of_lt_of_le h1 h
      exact g_body _ _ _ _ _ none none (by omega) (by omega)⟩)).1
theorem g_by_ok {cs : List Int} (h : cs.length ≤ lim) : den_g_by [.d (L cs)] [] = .ok (.d (.int (gby cs))) [] := by
  have hi : iE (aCons (dCallP 1 den_falling (aCons (dV 0) aNil)) aNil) [some (.d (L cs)), some (.d (.int 0)), some (.d (.int 0)), none, none] [] = .ok ⟨(fall cs).zipIdx.map encP, fun _ => true⟩ [] := iE_ok (by simp [callP1 (falling_ok h)])
  have hl2 : (2 : Nat) ≤ lim := by decide
  have hg : gby cs = ((fall cs).zipIdx.foldl (fun (p : (Int × Int) × Option (Int × Nat)) x => (gst p.1 x, some x)) ((0, 0), none)).1.1 := by
    rw [gby, ← foldl_fst gst some (fall cs).zipIdx (0, 0) none]
  have hf1 := g_loop h
  rw [hg]
  generalize ((fall cs).zipIdx.foldl (fun (p : (Int × Int) × Option (Int × Nat)) x => (gst p.1 x, some x)) ((0, 0), none)) = s at hf1
  rw [eq_g_by]
  simp [b_g_by, hi, hl2]
  simp only [gE, Option.map_none] at hf1
  rw [hf1]
  simp
theorem h_of_ok {cs : List Int} (h : Good cs) : den_h_of [.d (L cs)] [] = .ok (.d (.int (hby cs))) [] := by
  rw [eq_h_of]
  simp [b_h_of, callP1 (check_counts_ok h), callP1 (h_by_ok h.lim)]
theorem g_of_ok {cs : List Int} (h : Good cs) : den_g_of [.d (L cs)] [] = .ok (.d (.int (gby cs))) [] := by
  rw [eq_g_of]
  simp [b_g_of, callP1 (check_counts_ok h), callP1 (g_by_ok h.lim)]
def wby (cs : List Int) : Nat := ((fall cs).zipIdx.filter fun x => decide (10 * ((x.2 : Int) + 1) ≤ x.1)).length
theorem w_of_ok {cs : List Int} (h : Good cs) : den_w_of [.d (L cs)] [] = .ok (.d (.int (wby cs))) [] := by
  rw [eq_w_of]
  have hm : ∀ n : Int, oMulA (.int 10) (.int n) = some (.int (10 * n)) := fun n => oMulA_small (by decide)
  simp [b_w_of, callP1 (check_counts_ok h)]
  rw [dLC_map encP (fun x => decide (10 * ((x.2 : Int) + 1) ≤ x.1)) (fun _ => .int 1) (fall cs).zipIdx (chk := fun _ => true) (st1 := []) (iE_ok (by simp [callP1 (falling_ok h.lim)])) rfl (by simpa [fall_len] using h.lim) (fun x _ => ⟨_, rfl, by simp [hm], by simp⟩)]
  simp [wby]
theorem iL_of {f : dE} {ρ : CB.Env} {st st1 : Sto} {ds : List D} (h : f ρ st = .ok (.d (.list ds)) st1) : iL f ρ st = .ok ⟨ds, fun _ => true⟩ st1 := by
  unfold iL; rw [h]; rfl
theorem core_of_ok {cs : List Int} (h : Good cs) : den_core_of [.d (L cs)] [] = .ok (.d (L ((fall cs).filter fun c => decide ((hby cs : Int) ≤ c)))) [] := by
  rw [eq_core_of]
  simp [b_core_of, callP1 (check_counts_ok h), callP1 (h_by_ok h.lim)]
  rw [dLC_map PyData.int (fun c => decide ((hby cs : Int) ≤ c)) PyData.int (fall cs) (chk := fun _ => true) (st1 := []) (iL_of (by simp [callP1 (falling_ok h.lim)])) rfl (by simpa [fall_len] using h.lim) (fun x _ => ⟨_, rfl, by simp, by simp⟩)]
  simp
theorem hby_le (cs : List Int) : hby cs ≤ cs.length := by
  unfold hby
  refine Nat.le_trans (List.length_filter_le _ _) ?_
  rw [List.length_zipIdx, fall_len]
  exact Nat.le_refl _
theorem tail_of_ok {cs : List Int} (h : Good cs) : den_tail_of [.d (L cs)] [] = .ok (.d (.int (cs.sum - hby cs * hby cs))) [] := by
  have h1 := hby_le cs
  have h2 := h.1
  have hb := h_by_ok h.lim
  rw [eq_tail_of]
  generalize hby cs = n at *
  have hm : oMulA (.int n) (.int n) = some (.int ((n : Int) * n)) := oMulA_small (by omega)
  simp [b_tail_of, callP1 (check_counts_ok h), callP1 hb, hm]
/-! lacking -/
def lack (cs : List Int) (h : Nat) : Int := (((fall cs).take h).map fun c => max 0 ((h : Int) - c)).sum
theorem max_if (a : Int) : (if a > 0 then a else 0) = max 0 a := by omega
theorem fSum_take {α : Type} (n : Nat) (xs : List α) (p : α → Int) : fSumA (.list (List.take n (xs.map fun x => .int (p x)))) = some (.int (List.take n (xs.map p)).sum) := by
  rw [← List.map_take, fSum_map, List.map_take]
theorem lacking_ok {cs : List Int} (h : cs.length ≤ lim) (n : Nat) : den_lacking [.d (L cs), .d (.int n)] [] = .ok (.d (.int (lack cs n))) [] := by
  rw [eq_lacking]
  simp [b_lacking]
  rw [dLC_all PyData.int (fun c => .int (max 0 ((n : Int) - c))) ((fall cs).take n) (chk := fun _ => true) (st1 := []) (iL_of (by
    simp [callP1 (falling_ok h), cutD_take, List.map_take])) rfl (by rw [List.length_take, fall_len]; omega) (fun x _ => ⟨_, rfl, by simp; omega⟩)]
  simp [lack, fSum_take]
theorem least_ok {n : Nat} (h : n ≤ 200) : den_least_counts [.d (.int n)] [] = .ok (.d (L (List.replicate n (n : Int)))) [] := by
  have hw : inn n 0 200 = true := by simp [inn]; omega
  have hl : (1 : Nat) ≤ lim := by decide
  have hr : oMulA (.list [.int n]) (.int n) = some (L (List.replicate n (n : Int))) := by
    have : oRep (.list [.int n]) (.int n) = some (.list (List.replicate n [PyData.int n]).flatten) := by
      show (if (n : Int).natAbs ≤ 1000000 ∧ 1 * (n : Int).toNat ≤ lim then _ else none) = _
      rw [if_pos ⟨by omega, by rw [lim_eq]; omega⟩]
      simp
    show (none : Option D).or (oRep _ _) = _
    rw [this]
    simp [L]
  rw [eq_least_counts]
  simp [b_least_counts, callP3 (is_within_int n 0 200), hw, callP1 check_true, hl, hr]
end K42
end
section
set_option Elab.async false
set_option linter.all false
set_option autoImplicit false
set_option maxRecDepth 100000
set_option maxHeartbeats 4000000
namespace K42
open PySem L2 CB
@[simp] theorem unD_app (ds : List D) (rs : List SV) : unD (ds.map .d ++ rs) = (unD rs).map (ds ++ ·) := by
  induction ds with
  | nil => cases h : unD rs <;> simp [h]
  | cons d ds ih =>
    rw [List.map_cons, List.cons_append, unD_d, ih]
    cases unD rs <;> simp
@[simp] theorem unD_appc (cs : List Int) (rs : List SV) : unD (List.map (SV.d ∘ PyData.int) cs ++ rs) = (unD rs).map (cs.map .int ++ ·) := by
  rw [← List.map_map, unD_app]
theorem check_bool (b : Bool) : den_check [.d (.bool b)] [] = if b = true then .ok (.d .none) [] else .ex "NotRight" .none [] := by
  cases b
  · rw [check_false]; rfl
  · rw [check_true]; rfl
theorem next_ok {cs : List Int} (h : Good cs) (b : Bool) : den_next_step [.d (L cs), .d (.bool b)] [] = .ok (.d (if cs.length < hby cs + 1 ∧ b = false then .none else .int (lack (cs ++ [0]) (hby cs + 1)))) [] := by
  have hb := h_by_ok h.lim
  have hl : (cs ++ [0]).length ≤ lim := by
    have := h.1
    rw [lim_eq]; simp; omega
  have hk := lacking_ok hl (hby cs + 1)
  have hle := hby_le cs
  rw [eq_next_step]
  generalize lack (cs ++ [0]) (hby cs + 1) = z at *
  generalize hby cs = n at *
  have e1 : L (cs ++ [0]) = .list (cs.map PyData.int ++ [PyData.int 0]) := by simp [L]
  rw [e1] at hk
  have hl' : cs.length + 1 ≤ lim := by simpa using hl
  have e2 : ((n : Int) + 1) = ((n + 1 : Nat) : Int) := by omega
  by_cases hc : cs.length < n + 1
  · have hc' : (cs.length : Int) < (n : Int) + 1 := by omega
    cases b
    · simp [b_next_step, callP1 (check_counts_ok h), callP1 check_true, callP1 hb, hc', hc]
    · simp [b_next_step, callP1 (check_counts_ok h), callP1 check_true, callP1 hb, hc', hc, hl']
      rw [e2, callP2 hk]
      rfl
  · have hc' : ¬ (cs.length : Int) < (n : Int) + 1 := by omega
    simp [b_next_step, callP1 (check_counts_ok h), callP1 check_true, callP1 hb, hc', hc, hl']
    rw [e2, callP2 hk]
    rfl
/-! most_h -/
def mstK (cs : List Int) (m : Int) : Nat → Nat → Nat
  | 0, f => f
  | k + 1, f => if f < cs.length ∧ lack cs (f + 1) ≤ m then mstK cs m k (f + 1) else f
def most (cs : List Int) (m : Int) : Nat := mstK cs m (cs.length - hby cs) (hby cs)
noncomputable abbrev mC : CB.Env → Sto → R Bool := tdAnd (dTest (dOp2 (oB gLt) (dV 2) (dCal (g1 fLen) (aCons (dV 0) (aNil))))) (dTest (dOp2 (oB gLe) (dCallP 2 den_lacking (aCons (dV 0) (aCons (dOp2 oAddA (dV 2) (dC (.int 1))) (aNil)))) (dV 1)))
noncomputable abbrev mB : dS := dSeq (dAug 2 oAugI (dC (.int 1))) (dSkip)
theorem m_test {cs : List Int} (h : cs.length ≤ lim) (m : Int) (f : Nat) : mC [some (.d (L cs)), some (.d (.int m)), some (.d (.int f))] [] = .ok (decide (f < cs.length ∧ lack cs (f + 1) ≤ m)) [] := by
  have hk := lacking_ok h (f + 1)
  generalize lack cs (f + 1) = z at *
  have e2 : ((f : Int) + 1) = ((f + 1 : Nat) : Int) := by omega
  by_cases hc : f < cs.length
  · simp [hc]
    rw [e2, callP2 hk]
    simp
  · simp [hc]
theorem m_body (c0 c1 : SV) (f : Nat) : mB [some c0, some c1, some (.d (.int f))] [] = .nx [some c0, some c1, some (.d (.int ((f + 1 : Nat) : Int)))] [] := by
  simp [oAugI]
theorem m_loop {cs : List Int} (h : cs.length ≤ lim) (m : Int) : ∀ (k f n : Nat), cs.length - f ≤ k → k < n → whLoop mC mB n [some (.d (L cs)), some (.d (.int m)), some (.d (.int f))] [] = .nx [some (.d (L cs)), some (.d (.int m)), some (.d (.int (mstK cs m k f)))] []
  | 0, f, n, hk, hn => by
    have ht := m_test h m f
    rw [decide_eq_false (by omega)] at ht
    exact wh_stop (by omega) ht
  | k + 1, f, n, hk, hn => by
    have ht := m_test h m f
    obtain ⟨n', rfl⟩ : ∃ n', n = n' + 1 := ⟨n - 1, by omega⟩
    by_cases hc : f < cs.length ∧ lack cs (f + 1) ≤ m
    · rw [decide_eq_true hc] at ht
      rw [wh_turn ht (m_body _ _ f), m_loop h m k (f + 1) n' (by omega) (by omega)]
      rw [mstK, if_pos hc]
    · rw [decide_eq_false hc] at ht
      rw [wh_stop (by omega) ht, mstK, if_neg hc]
theorem most_ok {cs : List Int} (h : cs.length ≤ lim) (m : Int) : den_most_h [.d (L cs), .d (.int m)] [] = .ok (.d (.int (most cs m))) [] := by
  have hb := h_by_ok h
  have hf : cs.length - hby cs < fuel := fuel_big (by have := h; rw [lim_eq] at this; omega)
  have hl := m_loop h m (cs.length - hby cs) (hby cs) fuel (Nat.le_refl _) hf
  have hm : most cs m = mstK cs m (cs.length - hby cs) (hby cs) := rfl
  rw [hm]
  generalize mstK cs m (cs.length - hby cs) (hby cs) = z at *
  generalize hby cs = n at *
  rw [eq_most_h]
  simp only [b_most_h, e_dSeq, e_dAsg, e_dWhile]
  have h1 : (dCallP 1 den_h_by (aCons (dV 0) (aNil))) [some (.d (L cs)), some (.d (.int m)), none] [] = .ok (.d (.int n)) [] := by simp [callP1 hb]
  rw [h1]
  simp only [R.bO_ok, List.set]
  rw [hl]
  simp
theorem h_with_ok {cs : List Int} (h : Good cs) {m : Int} (hm : 0 ≤ m) : den_h_with [.d (L cs), .d (.int m)] [] = .ok (.d (.int (most cs m))) [] := by
  have hb := most_ok h.lim m
  generalize most cs m = z at *
  rw [eq_h_with]
  simp [b_h_with, callP1 (check_counts_ok h), callP1 (is_count_int m), hm, callP1 check_true, callP2 hb]
/-! sorted pairs -/
def encQ (p : Int × Nat) : D := .tuple [.int p.1, .int (p.2 : Int)]
def leQ (p q : Int × Nat) : Bool := decide (p.1 < q.1 ∨ (p.1 = q.1 ∧ p.2 ≤ q.2))
def srt (cs : List Int) : List (Int × Nat) := (cs.zipIdx.map fun x => (-x.1, x.2)).mergeSort leQ
theorem plainAll_Q (ps : List (Int × Nat)) : PyData.plainAll (ps.map encQ) = true := by
  induction ps with
  | nil => rfl
  | cons p ps ih => simp [PyData.plainAll, PyData.plain, encQ, ih]
theorem depthAll_Q (ps : List (Int × Nat)) : PyData.depthAll (ps.map encQ) ≤ 1 := by
  induction ps with
  | nil => exact Nat.zero_le _
  | cons p ps ih => simp [PyData.depthAll, PyData.depth, encQ] at *; omega
theorem okSort_Q {ps : List (Int × Nat)} (h : ps.length ≤ lim) : okSort (ps.map encQ) = true := by
  unfold okSort
  simp only [Bool.and_eq_true, Bool.or_eq_true, List.all_eq_true, decide_eq_true_eq, List.length_map, List.mem_map]
  refine ⟨?_, .inl ?_, plainAll_Q ps, Nat.le_trans (depthAll_Q ps) (by decide), h⟩
  · rintro _ ⟨a, _, rfl⟩ _ ⟨b, _, rfl⟩; rfl
  · rintro _ ⟨a, _, rfl⟩; rfl
theorem sortD_Q (ps : List (Int × Nat)) : sortD (ps.map encQ) = (ps.mergeSort leQ).map encQ := by
  unfold sortD
  have hm := List.map_mergeSort (r := leQ) (s := PySem.W.dataLe false id) (f := encQ) (l := ps) (fun a _ b _ => by
    have := congrFun (congrFun (PySem.W.dataLe_ii (fun p : Int × Nat => p.1) (fun p => (p.2 : Int))) a) b
    show leQ a b = PySem.W.dataLe false id (encQ a) (encQ b)
    rw [PySem.W.dataLe_eq] at this ⊢
    show leQ a b = (!PySem.W.dataLt (encQ b) (encQ a))
    have t2 : (!PySem.W.dataLt (encQ b) (encQ a)) = decide (a.1 < b.1 ∨ (a.1 = b.1 ∧ (a.2 : Int) ≤ b.2)) := this
    rw [t2, leQ]
    congr 1
    simp)
  exact hm.symm
theorem fSorted_Q {ps : List (Int × Nat)} (h : ps.length ≤ lim) : fSorted (.list (ps.map encQ)) = some (.list ((ps.mergeSort leQ).map encQ)) := by
  show (if okSort (ps.map encQ) = true then some (PyData.list (sortD (ps.map encQ))) else none) = _
  rw [if_pos (okSort_Q h), sortD_Q]
end K42
end
section
set_option Elab.async false
set_option linter.all false
set_option autoImplicit false
set_option maxRecDepth 100000
set_option maxHeartbeats 4000000
namespace K42
open PySem L2 CB
@[simp] theorem e_dSetIx {fv fo fi : dE} {ρ : CB.Env} {st : Sto} : dSetIx fv fo fi ρ st = (fv ρ st).bO ρ fun v st1 => (fo ρ st1).bO ρ fun o st2 => (fi ρ st2).bO ρ fun ix st3 => match v, o, ix with
  | .d p, .box i, .d (.int k) => (match st3[i]? with
    | some (.list ds) => (match ixN ds.length k with
      | some j => .nx ρ (st3.set i (.list (ds.set j p)))
      | none => .bad)
    | _ => .bad)
  | _, _, _ => .bad := rfl
theorem ixN_nat {n k : Nat} (h : k < n) : ixN n (k : Int) = some k := by
  unfold ixN
  rw [if_pos (by omega), if_pos (by omega)]
  simp
theorem oIx_nat {ds : List D} {k : Nat} {d : D} (h : ds[k]? = some d) : oIx (.list ds) (.int (k : Int)) = some d := by
  have hk := (List.getElem?_eq_some_iff.mp h).1
  show atI ds (k : Int) = some d
  unfold atI
  rw [ixN_nat hk]
  exact h
theorem oIx_ints {xs : List Int} {k : Nat} {v : Int} (h : xs[k]? = some v) : oIx (.list (xs.map .int)) (.int (k : Int)) = some (.int v) := oIx_nat (by rw [List.getElem?_map, h]; rfl)
def mx (a b : Int) : Int := if b > a then b else a
def pstep (h : Int) (l : List Int) (x : Int × Nat) : List Int := l.set x.2 (mx (l.getD x.2 0) h)
def putS (cs : List Int) (h : Nat) : List Int := ((srt cs).take h).foldl (pstep h) cs
theorem srt_mem {cs : List Int} {x : Int × Nat} (h : x ∈ srt cs) : x.2 < cs.length := by
  rw [srt, List.mem_mergeSort, List.mem_map] at h
  obtain ⟨y, hy, rfl⟩ := h
  exact mem_zip_lt (x := y) hy
noncomputable abbrev pB : dS := dSeq (dSetIx (dCal (g2 fMax2) (aCons (dOp2 oIx (dV 3) (dV 5)) (aCons (dV 2) (aNil)))) (dV 3) (dV 5)) (dSkip)
theorem p_body (c0 c1 : SV) (n : Int) (a : Option SV) (l : List Int) (k : Nat) (v : Int) (hv : l[k]? = some v) : pB [some c0, some c1, some (.d (.int n)), some (.box 0), a, some (.d (.int (k : Int))), none] [.list (l.map .int)] =
    .nx [some c0, some c1, some (.d (.int n)), some (.box 0), a, some (.d (.int (k : Int))), none] [.list ((l.set k (mx v n)).map .int)] := by
  have hk := (List.getElem?_eq_some_iff.mp hv).1
  have h1 := oIx_ints hv
  have h2 := ixN_nat hk
  simp [der, h1, h2, List.map_set, mx]
def pE (c0 c1 : SV) (n : Int) (s : List Int × Option (Int × Nat)) : CB.Env := [some c0, some c1, some (.d (.int n)), some (.box 0), s.2.map fun x => .d (.int x.1), s.2.map fun x => .d (.int (x.2 : Int)), none]
theorem p_loop (c0 c1 : SV) (n : Int) (m : Nat) : ∀ (xs : List (Int × Nat)) (l : List Int) (o : Option (Int × Nat)), l.length = m → (∀ x ∈ xs, x.2 < m) →
    forLoop (fun _ => true) (gT 2 (gConsD (gN 4) (gConsD (gN 5) gNilD))) pB (xs.map encQ) (pE c0 c1 n (l, o)) [.list (l.map .int)] =
      .nx (pE c0 c1 n (xs.foldl (fun p x => (pstep n p.1 x, some x)) (l, o))) [.list ((xs.foldl (pstep n) l).map .int)] := by
  intro xs l o hl hx
  have hm : ∀ s : List Int × Option (Int × Nat), (xs.foldl (fun (p : List Int × Option (Int × Nat)) x => (pstep n p.1 x, some x)) s).1 = xs.foldl (pstep n) s.1 := fun s => foldl_fst (pstep n) some xs s.1 s.2
  have := (forLoop_run (gg := gT 2 (gConsD (gN 4) (gConsD (gN 5) gNilD))) (chk := fun _ => true) (body := pB) encQ (pE c0 c1 n) (fun s => [.list (s.1.map .int)]) (fun p x => (pstep n p.1 x, some x)) (fun s => s.1.length = m) (fun _ _ => rfl) xs (l, o) hl (fun s x hxs hs => by
    refine ⟨by simpa [pstep] using hs, [some c0, some c1, some (.d (.int n)), some (.box 0), some (.d (.int x.1)), some (.d (.int (x.2 : Int))), none], rfl, ?_⟩
    have hk : x.2 < s.1.length := by rw [hs]; exact hx x hxs
    rw [p_body c0 c1 n _ s.1 x.2 (s.1.getD x.2 0) (by simp [List.getD, hk])]
    rfl)).1
  rw [hm (l, o)] at this
  exact this
theorem best_ok {cs : List Int} (h : Good cs) {m : Int} (hm : 0 ≤ m) : den_best_putting [.d (L cs), .d (.int m)] [] = .ok (.d (L (putS cs (most cs m)))) [] := by
  have hb := most_ok h.lim m
  have hlp := fun n => p_loop (.d (L cs)) (.d (.int m)) (n : Nat) cs.length ((srt cs).take n) cs none rfl (fun x hx => srt_mem (List.mem_of_mem_take hx))
  have hu : ∀ n : Nat, putS cs n = ((srt cs).take n).foldl (pstep n) cs := fun n => rfl
  rw [hu]
  generalize most cs m = n at *
  have hlp := hlp n
  generalize (((srt cs).take n).foldl (fun (p : List Int × Option (Int × Nat)) x => (pstep n p.1 x, some x)) (cs, none)) = s at hlp
  generalize ((srt cs).take n).foldl (pstep n) cs = z at *
  have hi : iL (dNew (dSl (dNew (nCal (g1 fSorted) (aCons (dNew (dLC (iE (aCons (dV 0) (aNil))) [5, 6] (gT 2 (gConsD (gN 5) (gConsD (gN 6) (gNilD)))) (dYes) (dTup (aCons (dOp1 oNeg (dV 6)) (aCons (dV 5) (aNil)))))) (aNil)))) (pNo) (pAt (dV 2)))) [some (.d (L cs)), some (.d (.int m)), some (.d (.int n)), some (.box 0), none, none, none] [L cs] = .ok ⟨((srt cs).take n).map encQ, fun _ => true⟩ [L cs] := by
    refine iL_of ?_
    simp only [e_dNew, e_dSl, e_nCal, e_aCons]
    rw [dLC_all encP (fun x => encQ (-x.1, x.2)) cs.zipIdx (chk := fun _ => true) (st1 := [L cs]) (iE_ok (by simp)) rfl (by simpa using h.lim) (fun x _ => ⟨_, rfl, by
      have : (2 : Nat) ≤ lim := by decide
      simp [encQ, this]⟩)]
    have hs := fSorted_Q (ps := cs.zipIdx.map fun x => (-x.1, x.2)) (by simpa using h.lim)
    rw [List.map_map] at hs
    have e1 : cs.zipIdx.map (fun x => encQ (-x.1, x.2)) = cs.zipIdx.map (encQ ∘ fun x => (-x.1, x.2)) := rfl
    rw [e1]
    have hs' : fSorted (.list (cs.zipIdx.map (encQ ∘ fun x => (-x.1, x.2)))) = some (.list ((srt cs).map encQ)) := hs
    simp [hs', cutD_take, List.map_take]
  rw [eq_best_putting]
  simp [b_best_putting, callP1 (check_counts_ok h), callP1 (is_count_int m), hm, callP1 check_true, callP2 hb, hi]
  simp only [pE, Option.map_none, List.map_take] at hlp
  rw [hlp]
  rfl
end K42
end
section
set_option Elab.async false
set_option linter.all false
set_option autoImplicit false
set_option maxRecDepth 100000
set_option maxHeartbeats 4000000
namespace K42
open PySem L2 CB
theorem oMod_nat {a b : Nat} (h : 0 < b) : oMod (.int (a : Int)) (.int (b : Int)) = some (.int ((a % b : Nat) : Int)) := by
  unfold oMod oI
  simp only [Int.toNat_natCast, h, decide_true, if_true, Int.natCast_emod]
theorem log2_small {g : Nat} (h : g < 2 ^ 8000) : g.log2 < 9000 := by
  by_cases hg : g = 0
  · subst hg; decide
  · have : 2 ^ g.log2 ≤ g := (Nat.le_log2 hg).mp (Nat.le_refl _)
    exact Nat.lt_of_not_le fun hc => by
      have h2 : 2 ^ 8000 ≤ 2 ^ g.log2 := Nat.pow_le_pow_right (by decide) (by omega)
      omega
theorem oDiv_nat {a b : Nat} (h : 0 < b) (h2 : b < 2 ^ 64) : oDiv (.int (a : Int)) (.int (b : Int)) = some (.int ((a / b : Nat) : Int)) := by
  have hl : b.log2 < 9000 := log2_small (Nat.lt_of_lt_of_le h2 (Nat.pow_le_pow_right (by decide) (by decide)))
  unfold oDiv oI cDiv
  simp only [Int.toNat_natCast, Int.natAbs_natCast, h, hl, decide_true, Bool.and_self, if_true, Int.natCast_ediv]
noncomputable abbrev sC : CB.Env → Sto → R Bool := dTest (dOp2 (oB gGt) (dV 1) (dC (.int 0)))
noncomputable abbrev sB : dS := dSeq (dPar [0, 1] (aCons (dV 1) (aCons (dOp2 oMod (dV 0) (dV 1)) (aNil)))) (dSkip)
theorem s_loop : ∀ (b a n : Nat), b < n → whLoop sC sB n [some (.d (.int (a : Int))), some (.d (.int (b : Int)))] [] = .nx [some (.d (.int (Nat.gcd a b : Nat))), some (.d (.int 0))] [] := by
  intro b
  induction b using Nat.strongRecOn with
  | ind b ih =>
    intro a n hn
    obtain ⟨n', rfl⟩ : ∃ n', n = n' + 1 := ⟨n - 1, by omega⟩
    by_cases hb : b = 0
    · subst hb
      rw [wh_stop (by omega) (by simp)]
      simp
    · have hp : 0 < b := by omega
      have h1 : sC [some (.d (.int (a : Int))), some (.d (.int (b : Int)))] [] = .ok true [] := by simp [hp]
      have h2 : sB [some (.d (.int (a : Int))), some (.d (.int (b : Int)))] [] = .nx [some (.d (.int (b : Int))), some (.d (.int ((a % b : Nat) : Int)))] [] := by
        simp [oMod_nat hp]
      rw [wh_turn h1 h2, ih (a % b) (Nat.mod_lt _ hp) b n' (by have := Nat.mod_lt a hp; omega)]
      rw [Nat.gcd_comm a b, Nat.gcd_rec b a, Nat.gcd_comm (a % b) b]
theorem abs_nat (a : Nat) : (if (a : Int) < 0 then -(a : Int) else a) = a := if_neg (by omega)
theorem shared_ok (a b : Nat) (hb : b < 2 ^ 64) : den_shared [.d (.int (a : Int)), .d (.int (b : Int))] [] = .ok (.d (.int (Nat.gcd a b : Nat))) [] := by
  have hl := s_loop b a fuel (fuel_big hb)
  rw [eq_shared]
  generalize Nat.gcd a b = g at *
  simp [b_shared, abs_nat]
  rw [hl]
  rfl
theorem ratio_ok (a b : Nat) (h0 : 0 < b) (hb : b < 2 ^ 64) : den_ratio [.d (.int (a : Int)), .d (.int (b : Int))] [] = .ok (.d (.tuple [.int ((a / Nat.gcd a b : Nat) : Int), .int ((b / Nat.gcd a b : Nat) : Int)])) [] := by
  have hs := shared_ok a b hb
  have hg : 0 < Nat.gcd a b := Nat.gcd_pos_of_pos_right a h0
  have hg2 : Nat.gcd a b < 2 ^ 64 := Nat.lt_of_le_of_lt (Nat.gcd_le_right a h0) hb
  rw [eq_ratio]
  generalize Nat.gcd a b = g at *
  have h1 := oDiv_nat (a := a) hg hg2
  have h2 := oDiv_nat (a := b) hg hg2
  have hl : (2 : Nat) ≤ lim := by decide
  generalize a / g = x at *
  generalize b / g = y at *
  simp [b_ratio, callP2 hs, h1, h2, hl]
noncomputable abbrev rC : CB.Env → Sto → R Bool := dTest (dOp2 (oB gGt) (dV 3) (dC (.int 0)))
noncomputable abbrev rB : dS := dSeq (dPar [2, 3] (aCons (dV 3) (aCons (dOp2 oMod (dCal (g1 fInt) (aCons (dV 2) (aNil))) (dV 3)) (aNil)))) (dSkip)
theorem r_loop (c0 c1 : SV) : ∀ (b a n : Nat), b < n → whLoop rC rB n [some c0, some c1, some (.d (.int (a : Int))), some (.d (.int (b : Int)))] [] = .nx [some c0, some c1, some (.d (.int (Nat.gcd a b : Nat))), some (.d (.int 0))] [] := by
  intro b
  induction b using Nat.strongRecOn with
  | ind b ih =>
    intro a n hn
    obtain ⟨n', rfl⟩ : ∃ n', n = n' + 1 := ⟨n - 1, by omega⟩
    by_cases hb : b = 0
    · subst hb
      rw [wh_stop (by omega) (by simp)]
      simp
    · have hp : 0 < b := by omega
      have h1 : rC [some c0, some c1, some (.d (.int (a : Int))), some (.d (.int (b : Int)))] [] = .ok true [] := by simp [hp]
      have h2 : rB [some c0, some c1, some (.d (.int (a : Int))), some (.d (.int (b : Int)))] [] = .nx [some c0, some c1, some (.d (.int (b : Int))), some (.d (.int ((a % b : Nat) : Int)))] [] := by
        simp [oMod_nat hp]
      rw [wh_turn h1 h2, ih (a % b) (Nat.mod_lt _ hp) b n' (by have := Nat.mod_lt a hp; omega)]
      rw [Nat.gcd_comm a b, Nat.gcd_rec b a, Nat.gcd_comm (a % b) b]
theorem law_ratio_ok (a b : Nat) (h0 : 0 < b) (hb : b < 2 ^ 64) : den__law_ratio [.d (.int (a : Int)), .d (.int (b : Int))] [] = .ok (.d (.tuple [.int ((a / Nat.gcd a b : Nat) : Int), .int ((b / Nat.gcd a b : Nat) : Int)])) [] := by
  have hw := r_loop (.d (.int (a : Int))) (.d (.int (b : Int))) b a fuel (fuel_big hb)
  have hg : 0 < Nat.gcd a b := Nat.gcd_pos_of_pos_right a h0
  have hg2 : Nat.gcd a b < 2 ^ 64 := Nat.lt_of_le_of_lt (Nat.gcd_le_right a h0) hb
  rw [eq__law_ratio]
  generalize Nat.gcd a b = g at *
  have h1 := oDiv_nat (a := a) hg hg2
  have h2 := oDiv_nat (a := b) hg hg2
  have hl : (2 : Nat) ≤ lim := by decide
  generalize a / g = x at *
  generalize b / g = y at *
  simp [b__law_ratio]
  rw [hw]
  simp [h1, h2, hl]
theorem mean_none : den_mean_of [.d (L [])] [] = .ex "NoAnswer" .none [] := by
  have h : Good [] := ⟨by decide, by simp⟩
  rw [eq_mean_of]
  simp [b_mean_of, callP1 (check_counts_ok h)]
theorem Good.sum {cs : List Int} (h : Good cs) : ∃ s : Nat, cs.sum = s := by
  obtain ⟨h500, h⟩ := h
  clear h500
  induction cs with
  | nil => exact ⟨0, rfl⟩
  | cons c cs ih =>
    obtain ⟨s, hs⟩ := ih fun d hd => h d (List.mem_cons_of_mem _ hd)
    have hc := (h c List.mem_cons_self).1
    exact ⟨c.toNat + s, by rw [List.sum_cons, hs]; omega⟩
theorem mean_ok {cs : List Int} (h : Good cs) (h0 : cs ≠ []) {s : Nat} (hs : cs.sum = s) : den_mean_of [.d (L cs)] [] = .ok (.d (.tuple [.int ((s / Nat.gcd s cs.length : Nat) : Int), .int ((cs.length / Nat.gcd s cs.length : Nat) : Int)])) [] := by
  have hl : 0 < cs.length := List.length_pos_iff.mpr h0
  have hl2 := h.1
  have hr := ratio_ok s cs.length hl (by omega)
  rw [eq_mean_of]
  have hz : ¬ ((cs.length : Int) = 0) := by omega
  generalize s / Nat.gcd s cs.length = x at *
  generalize cs.length / Nat.gcd s cs.length = y at *
  simp [b_mean_of, callP1 (check_counts_ok h), h0, hs, callP2 hr]
theorem middle_none : den_middle_of [.d (L [])] [] = .ex "NoAnswer" .none [] := by
  have h : Good [] := ⟨by decide, by simp⟩
  rw [eq_middle_of]
  simp [b_middle_of, callP1 (check_counts_ok h)]
theorem oDiv_two (n : Nat) (h : 0 < n) : oDiv (.int ((n : Int) - 1)) (.int 2) = some (.int (((n - 1) / 2 : Nat) : Int)) := by
  have e : ((n : Int) - 1) = ((n - 1 : Nat) : Int) := by omega
  rw [e]
  exact oDiv_nat (b := 2) (by decide) (by decide)
theorem mid_at {cs : List Int} (h0 : cs ≠ []) : ∃ v, (sortI cs)[(cs.length - 1) / 2]? = some v := by
  have hl : 0 < cs.length := List.length_pos_iff.mpr h0
  have : (cs.length - 1) / 2 < (sortI cs).length := by rw [sortI_len]; omega
  exact ⟨_, List.getElem?_eq_getElem this⟩
theorem middle_ok {cs : List Int} (h : Good cs) (h0 : cs ≠ []) {v : Int} (hv : (sortI cs)[(cs.length - 1) / 2]? = some v) : den_middle_of [.d (L cs)] [] = .ok (.d (.int v)) [] := by
  have hl : 0 < cs.length := List.length_pos_iff.mpr h0
  rw [eq_middle_of]
  have hd := oDiv_two cs.length hl
  have hx := oIx_ints hv
  generalize (cs.length - 1) / 2 = k at *
  simp [b_middle_of, callP1 (check_counts_ok h), h0, fSorted_ints h.lim, hd, hx]
def cnt (p : Int → Bool) (cs : List Int) : Nat := (cs.filter p).length
theorem at_least_ok {cs : List Int} (h : Good cs) {n : Int} (hn : 0 ≤ n) : den_at_least [.d (L cs), .d (.int n)] [] = .ok (.d (.int (cnt (fun c => decide (n ≤ c)) cs))) [] := by
  rw [eq_at_least]
  simp [b_at_least, callP1 (check_counts_ok h), callP1 (is_count_int n), hn, callP1 check_true]
  rw [dLC_map PyData.int (fun c => decide (n ≤ c)) (fun _ => .int 1) cs (chk := fun _ => true) (st1 := []) (iL_of (by simp)) rfl h.lim (fun x _ => ⟨_, rfl, by simp, by simp⟩)]
  simp [cnt]
end K42
end
section
set_option Elab.async false
set_option linter.all false
set_option autoImplicit false
set_option maxRecDepth 100000
set_option maxHeartbeats 4000000
namespace K42
open PySem L2 CB
/-! the greatest, the least of ints -/
theorem okMM_ints {ns : List Int} : okMM (ns.map PyData.int) = true := by
  unfold okMM
  simp only [Bool.and_eq_true, List.all_eq_true, decide_eq_true_eq, plainAll_ints, depthAll_ints, List.mem_map]
  refine ⟨?_, ?_, trivial, Nat.zero_le _⟩
  · rintro _ ⟨a, _, rfl⟩ _ ⟨b, _, rfl⟩; rfl
  · rintro _ ⟨a, _, rfl⟩; rfl
theorem foldl_max_eq : ∀ (ns : List Int) (n H : Int), (H = n ∨ H ∈ ns) → n ≤ H → (∀ x ∈ ns, x ≤ H) → ns.foldl max n = H
  | [], n, H, h, _, _ => by rcases h with h | h; exact h.symm; cases h
  | x :: ns, n, H, h, hn, hx => by
    have h1 := hx x List.mem_cons_self
    refine foldl_max_eq ns (max n x) H ?_ (by omega) fun y hy => hx y (List.mem_cons_of_mem _ hy)
    rcases h with h | h
    · left; omega
    · rcases List.mem_cons.mp h with h | h
      · left; omega
      · exact .inr h
theorem foldl_min_eq : ∀ (ns : List Int) (n H : Int), (H = n ∨ H ∈ ns) → H ≤ n → (∀ x ∈ ns, H ≤ x) → ns.foldl min n = H
  | [], n, H, h, _, _ => by rcases h with h | h; exact h.symm; cases h
  | x :: ns, n, H, h, hn, hx => by
    have h1 := hx x List.mem_cons_self
    refine foldl_min_eq ns (min n x) H ?_ (by omega) fun y hy => hx y (List.mem_cons_of_mem _ hy)
    rcases h with h | h
    · left; omega
    · rcases List.mem_cons.mp h with h | h
      · left; omega
      · exact .inr h
theorem fMaxL_of {ns : List Int} {H : Int} (hm : H ∈ ns) (hle : ∀ x ∈ ns, x ≤ H) : fMaxL (.list (ns.map .int)) = some (.int H) := by
  cases ns with
  | nil => cases hm
  | cons n ns =>
    have ho := okMM_ints (ns := n :: ns)
    show (if okMM (PyData.int n :: ns.map PyData.int) = true then some (PySem.W.maxD (.int n) (ns.map .int)) else none) = _
    rw [List.map_cons] at ho
    rw [if_pos ho, PySem.W.maxD_ints, foldl_max_eq ns n H (by simpa [eq_comm] using hm) (hle n List.mem_cons_self) fun x hx => hle x (List.mem_cons_of_mem _ hx)]
theorem fMinL_of {ns : List Int} {H : Int} (hm : H ∈ ns) (hle : ∀ x ∈ ns, H ≤ x) : fMinL (.list (ns.map .int)) = some (.int H) := by
  cases ns with
  | nil => cases hm
  | cons n ns =>
    have ho := okMM_ints (ns := n :: ns)
    show (if okMM (PyData.int n :: ns.map PyData.int) = true then some (PySem.W.minD (.int n) (ns.map .int)) else none) = _
    rw [List.map_cons] at ho
    rw [if_pos ho, PySem.W.minD_ints, foldl_min_eq ns n H (by simpa [eq_comm] using hm) (hle n List.mem_cons_self) fun x hx => hle x (List.mem_cons_of_mem _ hx)]
/-! range -/
theorem iR1_ok {gs : CB.Env → Sto → R (List SV)} {ρ : CB.Env} {st st1 : Sto} {n : Nat} (h : gs ρ st = .ok [.d (.int (n : Int))] st1) (hn : n ≤ 1000000000) : iR1 gs ρ st = .ok ⟨(List.range n).map fun i : Nat => .int (i : Int), fun _ => true⟩ st1 := by
  unfold iR1
  rw [h, R.bind_ok]
  show (if (n : Int).natAbs ≤ 1000000000 then R.ok (ITV.mk (rangeD 0 (n : Int).toNat) _) st1 else .bad) = _
  rw [if_pos (by simpa using hn)]
  simp [rangeD]
/-- the number of counts that are k or more -/
def N (cs : List Int) (k : Int) : Nat := cnt (fun c => decide (k ≤ c)) cs
theorem law_h_ok {cs : List Int} (h : cs.length ≤ 1000) {H : Nat} (h1 : H ≤ cs.length) (h2 : H ≤ N cs H) (h3 : ∀ k : Nat, k ≤ cs.length → k ≤ N cs k → k ≤ H) : den__law_h [.d (L cs)] [] = .ok (.d (.int H)) [] := by
  have hlim : cs.length ≤ lim := by rw [lim_eq]; omega
  rw [eq__law_h]
  simp [b__law_h]
  rw [dLC_map (fun i : Nat => PyData.int (i : Int)) (fun i => decide ((i : Int) ≤ (N cs (i : Int) : Int))) (fun i => .int (i : Int)) (List.range (cs.length + 1)) (chk := fun _ => true) (st1 := []) (iR1_ok (n := cs.length + 1) (by simp) (by omega)) rfl (by rw [List.length_range, lim_eq]; omega) (fun k _ => ⟨_, rfl, by
    simp
    rw [dLC_map PyData.int (fun c => decide ((k : Int) ≤ c)) PyData.int cs (chk := fun _ => true) (st1 := []) (iL_of (by simp)) rfl hlim (fun x _ => ⟨_, rfl, by simp, by simp⟩)]
    simp [N, cnt] <;> congr, by simp⟩)]
  have hm := fMaxL_of (ns := ((List.range (cs.length + 1)).filter fun i : Nat => decide ((i : Int) ≤ (N cs (i : Int) : Int))).map fun i : Nat => (i : Int)) (H := (H : Int)) (by
    rw [List.mem_map]
    refine ⟨H, ?_, rfl⟩
    rw [List.mem_filter, List.mem_range, decide_eq_true_eq]
    exact ⟨by omega, by omega⟩) (by
    intro x hx
    rw [List.mem_map] at hx
    obtain ⟨k, hk, rfl⟩ := hx
    rw [List.mem_filter, List.mem_range, decide_eq_true_eq] at hk
    have := h3 k (by omega) (by omega)
    omega)
  rw [List.map_map] at hm
  have hm' : fMaxL (.list (((List.range (cs.length + 1)).filter fun i : Nat => decide ((i : Int) ≤ (N cs (i : Int) : Int))).map fun i : Nat => .int (i : Int))) = some (.int H) := hm
  simp only [R.bind_ok, derL_cons, derL_nil, der_d, Option.bind_some, Option.map_some, g1_one, hm', R.bO_ok]
  rfl
def sumT (cs : List Int) (g : Nat) : Int := ((fall cs).take g).sum
theorem law_g_ok {cs : List Int} (h : cs.length ≤ 1000) {G : Nat} (h1 : G ≤ cs.length) (h2 : (G : Int) * G ≤ sumT cs G) (h3 : ∀ k : Nat, k ≤ cs.length → (k : Int) * k ≤ sumT cs k → k ≤ G) : den__law_g [.d (L cs)] [] = .ok (.d (.int G)) [] := by
  have hlim : cs.length ≤ lim := by rw [lim_eq]; omega
  rw [eq__law_g]
  have hf : (sortI cs).reverse = fall cs := rfl
  simp [b__law_g, fSorted_ints hlim]
  rw [← List.map_reverse, hf]
  rw [dLC_map (fun i : Nat => PyData.int (i : Int)) (fun i => decide ((i : Int) * i ≤ sumT cs i)) (fun i => .int (i : Int)) (List.range (cs.length + 1)) (chk := fun _ => true) (st1 := []) (iR1_ok (n := cs.length + 1) (by simp) (by omega)) rfl (by rw [List.length_range, lim_eq]; omega) (fun k hk => ⟨_, rfl, by
    have hk' := List.mem_range.mp hk
    have hm : oMulA (.int (k : Int)) (.int (k : Int)) = some (.int ((k : Int) * k)) := oMulA_small (by omega)
    have e1 : ((fall cs).map PyData.int).take k = ((fall cs).take k).map PyData.int := by rw [List.map_take]
    simp [cutD_take, hm]
    rw [e1, fSum_ints]
    simp [sumT] <;> congr, by simp⟩)]
  have hm := fMaxL_of (ns := ((List.range (cs.length + 1)).filter fun i : Nat => decide ((i : Int) * i ≤ sumT cs i)).map fun i : Nat => (i : Int)) (H := (G : Int)) (by
    rw [List.mem_map]
    refine ⟨G, ?_, rfl⟩
    rw [List.mem_filter, List.mem_range, decide_eq_true_eq]
    exact ⟨by omega, h2⟩) (by
    intro x hx
    rw [List.mem_map] at hx
    obtain ⟨k, hk, rfl⟩ := hx
    rw [List.mem_filter, List.mem_range, decide_eq_true_eq] at hk
    have := h3 k (by omega) hk.2
    omega)
  rw [List.map_map] at hm
  have hm' : fMaxL (.list (((List.range (cs.length + 1)).filter fun i : Nat => decide ((i : Int) * i ≤ sumT cs i)).map fun i : Nat => .int (i : Int))) = some (.int G) := hm
  simp only [R.bind_ok, derL_cons, derL_nil, der_d, Option.bind_some, Option.map_some, g1_one, hm', R.bO_ok]
  rfl
end K42
end
section
set_option Elab.async false
set_option linter.all false
set_option autoImplicit false
set_option maxRecDepth 100000
set_option maxHeartbeats 4000000
namespace K42
open PySem L2 CB
theorem forLoop_inv {α : Type} (enc : α → D) {gg : dG} {chk : Sto → Bool} {body : dS} (I : Nat → CB.Env → Sto → Prop) (hc : ∀ i ρ st, I i ρ st → chk st = true) : ∀ (xs : List α) (i : Nat) (ρ : CB.Env) (st : Sto), I i ρ st →
    (∀ j ρ st x, x ∈ xs → j < i + xs.length → I j ρ st → ∃ ρ1 ρ2 st2, gg (enc x) ρ = some ρ1 ∧ body ρ1 st = .nx ρ2 st2 ∧ I (j + 1) ρ2 st2) → ∃ ρ' st', forLoop chk gg body (xs.map enc) ρ st = .nx ρ' st' ∧ I (i + xs.length) ρ' st'
  | [], i, ρ, st, h, _ => ⟨ρ, st, by
    show (if chk st = true then O.nx ρ st else .bad) = _
    rw [if_pos (hc i ρ st h)], h⟩
  | x :: xs, i, ρ, st, h, hs => by
    obtain ⟨ρ1, ρ2, st2, h1, h2, h3⟩ := hs i ρ st x List.mem_cons_self (by simp) h
    obtain ⟨ρ', st', e, hI⟩ := forLoop_inv enc I hc xs (i + 1) ρ2 st2 h3 fun j ρ st y hy hj => hs j ρ st y (List.mem_cons_of_mem _ hy) (by rw [List.length_cons]; omega)
    refine ⟨ρ', st', ?_, by rw [List.length_cons]; have e : i + (xs.length + 1) = i + 1 + xs.length := by omega
                            rw [e]; exact hI⟩
    rw [List.map_cons]
    unfold forLoop
    rw [if_pos (hc i ρ st h), h1]
    simp only [h2]
    exact e
theorem oMulA_r {a b : Int} (h : b.natAbs < 18446744073709551616) : oMulA (.int a) (.int b) = some (.int (a * b)) := by
  have : cMul a b = true := by
    unfold cMul
    simp only [Bool.or_eq_true, decide_eq_true_eq]
    exact .inr (.inl h)
  unfold oMulA oMulI oI
  simp [this]
theorem oMod_pos {a b : Int} (h : 0 < b) : oMod (.int a) (.int b) = some (.int (a % b)) := by
  have h' : 0 < b.toNat := by omega
  unfold oMod oI
  simp only [h', decide_true, if_true]
theorem oDiv_pos {a b : Int} (h : 0 < b) (h2 : b < 2 ^ 64) : oDiv (.int a) (.int b) = some (.int (a / b)) := by
  have h' : 0 < b.toNat := by omega
  have hl : b.natAbs.log2 < 9000 := log2_small (Nat.lt_of_lt_of_le (m := 2 ^ 64) (by omega) (Nat.pow_le_pow_right (by decide) (by decide)))
  unfold oDiv oI cDiv
  simp only [h', hl, decide_true, Bool.and_self, if_true]
/-! a draw -/
theorem take_ok (ds : List Int) {b : Int} (hb : 0 < b) : ∃ (v : Int) (ds' : List Int), 0 ≤ v ∧ v < b ∧ den__law_take [.box 0, .d (.int b)] [L ds] = .ok (.d (.int v)) [L ds'] := by
  rw [eq__law_take]
  rcases List.eq_nil_or_concat ds with h | ⟨xs, x, h⟩
  · subst h
    exact ⟨0, [], Int.le_refl _, hb, by simp [b__law_take, der]⟩
  · subst h
    refine ⟨x % b, xs, Int.emod_nonneg _ (by omega), Int.emod_lt_of_pos _ hb, ?_⟩
    have hz : ¬ ((xs.length : Int) + 1 = 0) := by omega
    simp [b__law_take, der, dPop, oMod_pos hb, hz]
theorem pick_ok (ds : List Int) {xs : List D} (h : xs ≠ []) : ∃ (v : D) (ds' : List Int), v ∈ xs ∧ den__law_pick [.box 0, .d (.list xs)] [L ds] = .ok (.d v) [L ds'] := by
  have hl : 0 < xs.length := List.length_pos_iff.mpr h
  obtain ⟨v, ds', h0, h1, h2⟩ := take_ok ds (b := (xs.length : Int)) (by omega)
  obtain ⟨k, rfl⟩ : ∃ k : Nat, v = k := ⟨v.toNat, by omega⟩
  have hk : k < xs.length := by omega
  have hx := oIx_nat (List.getElem?_eq_getElem hk)
  refine ⟨xs[k], ds', List.getElem_mem hk, ?_⟩
  rw [eq__law_pick]
  simp [b__law_pick, h2, hx]
end K42
end
section
set_option Elab.async false
set_option linter.all false
set_option autoImplicit false
set_option maxRecDepth 100000
set_option maxHeartbeats 4000000
namespace K42
open PySem L2 CB
/-! the draws -/
theorem app_ok {fo : dE} {gs : CB.Env → Sto → R (List SV)} {ρ : CB.Env} {ds : List Int} {v : Int} (ho : fo ρ [L ds] = .ok (.box 0) [L ds]) (hg : gs ρ [L ds] = .ok [.d (.int v)] [L ds]) (hl : ds.length < 1000000) : dApp fo gs ρ [L ds] = .ok (.d .none) [L (ds ++ [v])] := by
  have hl' : ds.length < lim := hl
  simp [dApp, onL, ho, onB, kApp, hg, hl']
noncomputable abbrev d1 : dS := dSeq (dIfS (dTest (dOp2 (oB gGt) (dV 3) (dC (.int 0)))) (dSeq (dExp (dApp (dV 1) (aCons (dOp2 oMod (dCal (g1 fInt) (aCons (dV 3) (aNil))) (dC (.int 997))) (aNil)))) (dSeq (dAsg 3 (dOp2 oDiv (dV 3) (dC (.int 997)))) (dSkip))) (dSkip)) (dSkip)
theorem d1_ok (c a f : Option SV) (k : SV) (m : Int) (s : Option SV) (ds : List Int) (hl : ds.length < 1000000) : ∃ (m' : Int) (ds' : List Int), ds'.length ≤ ds.length + 1 ∧ d1 [c, some (.box 0), a, some (.d (.int m)), f, some k, s] [L ds] = .nx [c, some (.box 0), a, some (.d (.int m')), f, some k, s] [L ds'] := by
  by_cases hm : 0 < m
  · refine ⟨m / 997, ds ++ [m % 997], by simp, ?_⟩
    have ha := app_ok (fo := dV 1) (gs := aCons (dOp2 oMod (dCal (g1 fInt) (aCons (dV 3) (aNil))) (dC (.int 997))) (aNil)) (ρ := [c, some (.box 0), a, some (.d (.int m)), f, some k, s]) (ds := ds) (v := m % 997) (by simp) (by simp [oMod_pos (a := m) (b := 997) (by decide)]) hl
    simp [hm, ha, oDiv_pos (a := m) (b := 997) (by decide) (by decide)]
  · refine ⟨m, ds, by omega, ?_⟩
    simp [hm]
noncomputable abbrev d2 : dS := dSeq (dAsg 6 (dOp2 oMod (dCal (g1 fInt) (aCons (dOp2 oAddA (dOp2 oMulA (dV 6) (dC (.int 48271))) (dC (.int 69621))) (aNil))) (dC (.int 2147483647)))) (dSeq (dExp (dApp (dV 1) (aCons (dOp2 oDiv (dV 6) (dC (.int 5))) (aNil)))) (dSkip))
theorem d2_ok (c a n f : Option SV) (k : SV) (s : Int) (ds : List Int) (hl : ds.length < 1000000) : ∃ (s' : Int) (ds' : List Int), ds'.length ≤ ds.length + 1 ∧ d2 [c, some (.box 0), a, n, f, some k, some (.d (.int s))] [L ds] = .nx [c, some (.box 0), a, n, f, some k, some (.d (.int s'))] [L ds'] := by
  obtain ⟨s', hs'⟩ : ∃ s', (s * 48271 + 69621) % 2147483647 = s' := ⟨_, rfl⟩
  refine ⟨s', ds ++ [s' / 5], by simp, ?_⟩
  have ha := app_ok (fo := dV 1) (gs := aCons (dOp2 oDiv (dV 6) (dC (.int 5))) (aNil)) (ρ := [c, some (.box 0), a, n, f, some k, some (.d (.int s'))]) (ds := ds) (v := s' / 5) (by simp) (by simp [oDiv_pos (a := s') (b := 5) (by decide) (by decide)]) hl
  have h1 := oMulA_r (a := s) (b := 48271) (by decide)
  have h2 := oMod_pos (a := s * 48271 + 69621) (b := 2147483647) (by decide)
  rw [hs'] at h2
  simp [h1, h2, ha]
noncomputable abbrev d3 : dS := dSeq (dAsg 4 (dOp2 oMod (dCal (g1 fInt) (aCons (dOp2 oAddA (dOp2 oMulA (dV 3) (dC (.int 48271))) (dC (.int 11))) (aNil))) (dC (.int 2147483647)))) (dSeq (dExp (dApp (dV 1) (aCons (dOp2 oMod (dCal (g1 fInt) (aCons (dOp2 oAddA (dOp2 oMulA (dV 4) (dC (.int 69621))) (dV 3)) (aNil))) (dC (.int 2147483629))) (aNil)))) (dSeq (dExp (dApp (dV 1) (aCons (dOp2 oMod (dCal (g1 fInt) (aCons (dOp2 oAddA (dV 4) (dOp2 oDiv (dV 3) (dC (.int 7)))) (aNil))) (dC (.int 1000003))) (aNil)))) (dSeq (dAsg 3 (dC (.int 0))) (dSkip))))
theorem d3_ok (c a f k s : Option SV) (m : Int) (ds : List Int) (hl : ds.length + 1 < 1000000) : ∃ (f' : Int) (ds' : List Int), ds'.length ≤ ds.length + 2 ∧ d3 [c, some (.box 0), a, some (.d (.int m)), f, k, s] [L ds] = .nx [c, some (.box 0), a, some (.d (.int 0)), some (.d (.int f')), k, s] [L ds'] := by
  obtain ⟨g, hg⟩ : ∃ g, (m * 48271 + 11) % 2147483647 = g := ⟨_, rfl⟩
  obtain ⟨x, hx⟩ : ∃ x, (g * 69621 + m) % 2147483629 = x := ⟨_, rfl⟩
  obtain ⟨y, hy⟩ : ∃ y, (g + m / 7) % 1000003 = y := ⟨_, rfl⟩
  refine ⟨g, ds ++ [x] ++ [y], by simp, ?_⟩
  have h1 := oMulA_r (a := m) (b := 48271) (by decide)
  have h2 := oMod_pos (a := m * 48271 + 11) (b := 2147483647) (by decide)
  have h3 := oMulA_r (a := g) (b := 69621) (by decide)
  have h4 := oMod_pos (a := g * 69621 + m) (b := 2147483629) (by decide)
  have h5 := oDiv_pos (a := m) (b := 7) (by decide) (by decide)
  have h6 := oMod_pos (a := g + m / 7) (b := 1000003) (by decide)
  rw [hg] at h2
  rw [hx] at h4
  rw [hy] at h6
  have ha := app_ok (fo := dV 1) (gs := aCons (dOp2 oMod (dCal (g1 fInt) (aCons (dOp2 oAddA (dOp2 oMulA (dV 4) (dC (.int 69621))) (dV 3)) (aNil))) (dC (.int 2147483629))) (aNil)) (ρ := [c, some (.box 0), a, some (.d (.int m)), some (.d (.int g)), k, s]) (ds := ds) (v := x) (by simp) (by simp [h3, h4]) (by omega)
  have hb := app_ok (fo := dV 1) (gs := aCons (dOp2 oMod (dCal (g1 fInt) (aCons (dOp2 oAddA (dV 4) (dOp2 oDiv (dV 3) (dC (.int 7)))) (aNil))) (dC (.int 1000003))) (aNil)) (ρ := [c, some (.box 0), a, some (.d (.int m)), some (.d (.int g)), k, s]) (ds := ds ++ [x]) (v := y) (by simp) (by simp [h5, h6]) (by simp; omega)
  simp only [e_dSeq, e_dAsg, e_dExp, e_dOp2, e_dCal, e_aCons, e_dV]
  simp [h1, h2]
  rw [ha]
  simp only [R.bO_ok]
  rw [hb]
  simp
end K42
end
section
set_option Elab.async false
set_option linter.all false
set_option autoImplicit false
set_option maxRecDepth 100000
set_option maxHeartbeats 4000000
namespace K42
open PySem L2 CB
theorem oPow_nat {a : Int} {k : Nat} (h : a.natAbs < 18446744073709551616) (hk : k ≤ 1000000) : oPow (.int a) (.int (k : Int)) = some (.int (a ^ k)) := by
  have h0 : (0 : Int) ≤ k := by omega
  unfold oPow oI cPow
  simp only [h0, hk, h, decide_true, Bool.and_self, if_true, Int.toNat_natCast]
theorem iR1_lit {ρ : CB.Env} {st : Sto} (n : Nat) (hn : n ≤ 1000000000) : iR1 (aCons (dC (.int (n : Int))) aNil) ρ st = .ok ⟨(List.range n).map fun i : Nat => .int (i : Int), fun _ => true⟩ st := iR1_ok (by simp) hn
theorem in60 (c a f s : Option SV) (k : Option SV) (m : Int) (ds : List Int) (hl : ds.length + 60 < 1000000) : ∃ (m' : Int) (k' : Option SV) (ds' : List Int), ds'.length ≤ ds.length + 60 ∧
    dFor (iR1 (aCons (dC (.int 60)) (aNil))) (gN 5) d1 [c, some (.box 0), a, some (.d (.int m)), f, k, s] [L ds] = .nx [c, some (.box 0), a, some (.d (.int m')), f, k', s] [L ds'] := by
  obtain ⟨ρ', st', h1, m', k', ds', h2, rfl, rfl⟩ := forLoop_inv (fun i : Nat => PyData.int (i : Int)) (gg := gN 5) (chk := fun _ => true) (body := d1) (fun i ρ st => ∃ (m' : Int) (k' : Option SV) (ds' : List Int), ds'.length ≤ ds.length + i ∧ ρ = [c, some (.box 0), a, some (.d (.int m')), f, k', s] ∧ st = [L ds']) (fun _ _ _ _ => rfl) (List.range 60) 0 [c, some (.box 0), a, some (.d (.int m)), f, k, s] [L ds] ⟨m, k, ds, by omega, rfl, rfl⟩ (by
    rintro j ρ st x hx hj ⟨m1, k1, ds1, hl1, rfl, rfl⟩
    rw [List.length_range] at hj
    obtain ⟨m2, ds2, hl2, e⟩ := d1_ok c a f (.d (.int (x : Int))) m1 s ds1 (by omega)
    exact ⟨_, _, _, rfl, e, m2, _, ds2, by omega, rfl, rfl⟩)
  rw [List.length_range] at h2
  refine ⟨m', k', ds', by omega, ?_⟩
  rw [e_dFor, show (60 : Int) = ((60 : Nat) : Int) from rfl, iR1_lit 60 (by decide)]
  exact h1
theorem in2000 (c a n f : Option SV) (k : Option SV) (m : Int) (ds : List Int) (hl : ds.length + 2000 < 1000000) : ∃ (m' : Int) (k' : Option SV) (ds' : List Int),
    dFor (iR1 (aCons (dC (.int 2000)) (aNil))) (gN 5) d2 [c, some (.box 0), a, n, f, k, some (.d (.int m))] [L ds] = .nx [c, some (.box 0), a, n, f, k', some (.d (.int m'))] [L ds'] := by
  obtain ⟨ρ', st', h1, m', k', ds', h2, rfl, rfl⟩ := forLoop_inv (fun i : Nat => PyData.int (i : Int)) (gg := gN 5) (chk := fun _ => true) (body := d2) (fun i ρ st => ∃ (m' : Int) (k' : Option SV) (ds' : List Int), ds'.length ≤ ds.length + i ∧ ρ = [c, some (.box 0), a, n, f, k', some (.d (.int m'))] ∧ st = [L ds']) (fun _ _ _ _ => rfl) (List.range 2000) 0 [c, some (.box 0), a, n, f, k, some (.d (.int m))] [L ds] ⟨m, k, ds, by omega, rfl, rfl⟩ (by
    rintro j ρ st x hx hj ⟨m1, k1, ds1, hl1, rfl, rfl⟩
    rw [List.length_range] at hj
    obtain ⟨m2, ds2, hl2, e⟩ := d2_ok c a n f (.d (.int (x : Int))) m1 ds1 (by omega)
    exact ⟨_, _, _, rfl, e, m2, _, ds2, by omega, rfl, rfl⟩)
  refine ⟨m', k', ds', ?_⟩
  rw [e_dFor, show (2000 : Int) = ((2000 : Nat) : Int) from rfl, iR1_lit 2000 (by decide)]
  exact h1
noncomputable abbrev d4 : dS := dSeq (dAsg 3 (dOp2 oMod (dCal (g1 fInt) (aCons (dCal (g1 fAbs) (aCons (dV 2) (aNil))) (aNil))) (dOp2 oPow (dC (.int 997)) (dC (.int 60))))) (dSeq (dIfS (dTest (dOp2 (oB gLt) (dV 3) (dOp2 oPow (dC (.int 10)) (dC (.int 18))))) d3 (dSkip)) (dSeq (dFor (iR1 (aCons (dC (.int 60)) (aNil))) (gN 5) d1) (dSkip)))
theorem d4_ok (c n f k s : Option SV) (x : Int) (ds : List Int) (hl : ds.length + 62 < 1000000) : ∃ (n' f' k' : Option SV) (ds' : List Int), ds'.length ≤ ds.length + 62 ∧
    d4 [c, some (.box 0), some (.d (.int x)), n, f, k, s] [L ds] = .nx [c, some (.box 0), some (.d (.int x)), n', f', k', s] [L ds'] := by
  have hp := oPow_nat (a := 997) (k := 60) (by decide) (by decide)
  have hp2 := oPow_nat (a := 10) (k := 18) (by decide) (by decide)
  have hpos : (0 : Int) < 997 ^ 60 := Int.pow_pos (by decide)
  generalize (997 : Int) ^ 60 = M at *
  generalize (10 : Int) ^ 18 = B at *
  have hm := oMod_pos (a := if x < 0 then -x else x) hpos
  generalize (if x < 0 then -x else x) % M = m at *
  have e1 : dAsg 3 (dOp2 oMod (dCal (g1 fInt) (aCons (dCal (g1 fAbs) (aCons (dV 2) (aNil))) (aNil))) (dOp2 oPow (dC (.int 997)) (dC (.int 60)))) [c, some (.box 0), some (.d (.int x)), n, f, k, s] [L ds] = .nx [c, some (.box 0), some (.d (.int x)), some (.d (.int m)), f, k, s] [L ds] := by
    have hp' : oPow (.int 997) (.int 60) = some (.int M) := hp
    simp [hp', hm]
  have e2 : ∃ m' f' ds', ds'.length ≤ ds.length + 2 ∧ dIfS (dTest (dOp2 (oB gLt) (dV 3) (dOp2 oPow (dC (.int 10)) (dC (.int 18))))) d3 (dSkip) [c, some (.box 0), some (.d (.int x)), some (.d (.int m)), f, k, s] [L ds] = .nx [c, some (.box 0), some (.d (.int x)), some (.d (.int m')), f', k, s] [L ds'] := by
    have hp' : oPow (.int 10) (.int 18) = some (.int B) := hp2
    by_cases hb : m < B
    · obtain ⟨f', ds', hl', e⟩ := d3_ok c (some (.d (.int x))) f k s m ds (by omega)
      refine ⟨0, some (.d (.int f')), ds', hl', ?_⟩
      rw [e_dIfS]
      have ht : dTest (dOp2 (oB gLt) (dV 3) (dOp2 oPow (dC (.int 10)) (dC (.int 18)))) [c, some (.box 0), some (.d (.int x)), some (.d (.int m)), f, k, s] [L ds] = .ok true [L ds] := by simp [hp', hb]
      rw [ht]
      simp only [R.bO_ok, if_true]
      exact e
    · refine ⟨m, f, ds, by omega, ?_⟩
      rw [e_dIfS]
      have ht : dTest (dOp2 (oB gLt) (dV 3) (dOp2 oPow (dC (.int 10)) (dC (.int 18)))) [c, some (.box 0), some (.d (.int x)), some (.d (.int m)), f, k, s] [L ds] = .ok false [L ds] := by simp [hp', hb]
      rw [ht]
      rfl
  obtain ⟨m', f', ds1, hl1, e2⟩ := e2
  obtain ⟨m2, k2, ds2, hl2, e3⟩ := in60 c (some (.d (.int x))) f' s k m' ds1 (by omega)
  refine ⟨some (.d (.int m2)), f', k2, ds2, by omega, ?_⟩
  rw [show d4 = dSeq _ _ from rfl, seq_nx e1, seq_nx e2, seq_nx e3]
  rfl
theorem draws_ok (cells : List Int) (hc : cells.length ≤ 1000) : ∃ ds : List Int, den__law_draws [.d (L cells)] [] = .ok (L ds) [] := by
  have hl0 : (0 : Nat) ≤ lim := by decide
  have e0 : dBox 1 (nLst aNil) [some (.d (L cells)), none, none, none, none, none, none] [] = .nx [some (.d (L cells)), some (.box 0), none, none, none, none, none] [L []] := by simp [hl0]
  have e1 : ∃ (a n f k : Option SV) (ds : List Int), ds.length ≤ 62 * cells.length ∧ dFor (iL (dV 0)) (gN 2) d4 [some (.d (L cells)), some (.box 0), none, none, none, none, none] [L []] = .nx [some (.d (L cells)), some (.box 0), a, n, f, k, none] [L ds] := by
    obtain ⟨ρ', st', h1, a, n, f, k, ds, h2, rfl, rfl⟩ := forLoop_inv (fun i : Int => PyData.int i) (gg := gN 2) (chk := fun _ => true) (body := d4) (fun i ρ st => ∃ (a n f k : Option SV) (ds : List Int), ds.length ≤ 62 * i ∧ ρ = [some (.d (L cells)), some (.box 0), a, n, f, k, none] ∧ st = [L ds]) (fun _ _ _ _ => rfl) cells 0 [some (.d (L cells)), some (.box 0), none, none, none, none, none] [L []] ⟨_, _, _, _, [], by simp, rfl, rfl⟩ (by
      rintro j ρ st x hx hj ⟨a1, n1, f1, k1, ds1, hl1, rfl, rfl⟩
      obtain ⟨n2, f2, k2, ds2, hl2, e⟩ := d4_ok (some (.d (L cells))) n1 f1 k1 none x ds1 (by omega)
      exact ⟨_, _, _, rfl, e, _, n2, f2, k2, ds2, by omega, rfl, rfl⟩)
    refine ⟨a, n, f, k, ds, by omega, ?_⟩
    rw [e_dFor, iL_of (f := dV 0) (ds := cells.map .int) (st1 := [L []]) rfl]
    exact h1
  obtain ⟨a, n, f, k, ds1, hl1, e1⟩ := e1
  have e2 : dAsg 6 (dC (.int 1)) [some (.d (L cells)), some (.box 0), a, n, f, k, none] [L ds1] = .nx [some (.d (L cells)), some (.box 0), a, n, f, k, some (.d (.int 1))] [L ds1] := rfl
  have e3 : ∃ s : Int, dIfS (dTest (dOp2 (oB gGt) (dCal (g1 fLen) (aCons (dV 0) (aNil))) (dC (.int 0)))) (dSeq (dAsg 6 (dOp2 oAddA (dC (.int 1)) (dCal (g1 fAbs) (aCons (dOp2 oIx (dV 0) (dC (.int 0))) (aNil))))) (dSkip)) (dSkip) [some (.d (L cells)), some (.box 0), a, n, f, k, some (.d (.int 1))] [L ds1] = .nx [some (.d (L cells)), some (.box 0), a, n, f, k, some (.d (.int s))] [L ds1] := by
    cases cells with
    | nil => exact ⟨1, by simp⟩
    | cons c cs =>
      have hx : oIx (L (c :: cs)) (.int 0) = some (.int c) := oIx_nat (k := 0) rfl
      have hz : (0 : Int) < (cs.length : Int) + 1 := by omega
      exact ⟨1 + (if c < 0 then -c else c), by simp [hx, hz]⟩
  obtain ⟨s, e3⟩ := e3
  obtain ⟨m', k', ds2, e4⟩ := in2000 (some (.d (L cells))) a n f k s ds1 (by omega)
  refine ⟨ds2.reverse, ?_⟩
  rw [eq__law_draws]
  show fnResF 0 (dSeq _ _ _ _) = _
  rw [seq_nx e0, seq_nx e1, seq_nx e2, seq_nx e3, seq_nx e4]
  simp [dRetB, der, fnResF]
end K42
end
section
set_option Elab.async false
set_option linter.all false
set_option autoImplicit false
set_option maxRecDepth 100000
set_option maxHeartbeats 4000000
namespace K42
open PySem L2 CB
/-! _law_told -/
noncomputable def lo : List Den := [den_h_of, den_g_of, den_w_of, den_core_of, den_tail_of, den_mean_of, den_middle_of, den_ranks, den_least_counts]
noncomputable def hi : List Den := [den_next_step, den_h_with, den_best_putting, den_at_least]
@[simp] theorem e_dSel (n : Nat) (dens : List Den) (fi : dE) (g : CB.Env → Sto → R (List SV)) (ρ : CB.Env) (st : Sto) : dSel n dens fi g ρ st = (fi ρ st).bind fun ix st1 => match ix with
  | .d (.int j) => (match atI dens j with
    | some den => (g ρ st1).bind fun rs st2 => callP n den rs st2
    | none => .bad)
  | _ => .bad := rfl
theorem atI_nat {α : Type} {xs : List α} {k : Nat} {x : α} (h : xs[k]? = some x) : atI xs (k : Int) = some x := by
  unfold atI
  rw [ixN_nat (List.getElem?_eq_some_iff.mp h).1]
  exact h
theorem told_lo {w : Nat} {den : Den} (a b z : D) (hd : lo[w]? = some den) (h : den [.d a] [] = .ok (.d z) []) : den__law_told [.d (.int (w : Int)), .d a, .d b] [] = .ok (.d z) [] := by
  have hw : w < 9 := (List.getElem?_eq_some_iff.mp hd).1
  have ha := atI_nat hd
  have hw' : (w : Int) < 9 := by omega
  rw [eq__law_told]
  unfold b__law_told
  rw [show ([den_h_of, den_g_of, den_w_of, den_core_of, den_tail_of, den_mean_of, den_middle_of, den_ranks, den_least_counts] : List Den) = lo from rfl]
  simp [dTryK, hw', ha, callP1 h]
theorem told_lo_ex {w : Nat} {den : Den} {c m : Str} (a b : D) (hd : lo[w]? = some den) (h : den [.d a] [] = .ex c .none []) (hk : kd.lookup c = some m) : den__law_told [.d (.int (w : Int)), .d a, .d b] [] = .ok (.d (.str m)) [] := by
  have hw : w < 9 := (List.getElem?_eq_some_iff.mp hd).1
  have ha := atI_nat hd
  have hw' : (w : Int) < 9 := by omega
  rw [eq__law_told]
  unfold b__law_told
  rw [show ([den_h_of, den_g_of, den_w_of, den_core_of, den_tail_of, den_mean_of, den_middle_of, den_ranks, den_least_counts] : List Den) = lo from rfl]
  simp [dTryK, hw', ha, callP1x h, hk]
theorem told_hi {w : Nat} {den : Den} (a b z : D) (hd : hi[w]? = some den) (h : den [.d a, .d b] [] = .ok (.d z) []) : den__law_told [.d (.int ((w : Int) + 9)), .d a, .d b] [] = .ok (.d z) [] := by
  have ha := atI_nat hd
  have hw' : ¬ (w : Int) + 9 < 9 := by omega
  have hw2 : (w : Int) + 9 - 9 = w := by omega
  rw [eq__law_told]
  unfold b__law_told
  rw [show ([den_next_step, den_h_with, den_best_putting, den_at_least] : List Den) = hi from rfl]
  simp [dTryK, hw', hw2, ha, callP2 h]
theorem told_hi_ex {w : Nat} {den : Den} {c m : Str} (a b : D) (hd : hi[w]? = some den) (h : den [.d a, .d b] [] = .ex c .none []) (hk : kd.lookup c = some m) : den__law_told [.d (.int ((w : Int) + 9)), .d a, .d b] [] = .ok (.d (.str m)) [] := by
  have ha := atI_nat hd
  have hw' : ¬ (w : Int) + 9 < 9 := by omega
  have hw2 : (w : Int) + 9 - 9 = w := by omega
  rw [eq__law_told]
  unfold b__law_told
  rw [show ([den_next_step, den_h_with, den_best_putting, den_at_least] : List Den) = hi from rfl]
  simp [dTryK, hw', hw2, ha, callP2x h, hk]
end K42
end
section
set_option Elab.async false
set_option linter.all false
set_option autoImplicit false
set_option maxRecDepth 100000
set_option maxHeartbeats 4000000
namespace K42
open PySem L2 CB
/-- small enough for _law_same -/
def sml : Nat → D → Bool
  | 0, _ => false
  | d + 1, .list xs => decide (xs.length ≤ 10000) && xs.all (sml d)
  | d + 1, .tuple xs => decide (xs.length ≤ 10000) && xs.all (sml d)
  | _ + 1, .dict _ => false
  | _ + 1, _ => true
@[simp] theorem isi_none (T : String) : isiD T .none = (("NoneType" : String) == T || (("NoneType" : String) == "bool" && T == "int")) := rfl
@[simp] theorem gNe_bb (a : Bool) : gNe (.bool a) (.bool a) = some false := by cases a <;> rfl
@[simp] theorem gEq_bb (a : Bool) : gEq (.bool a) (.bool a) = some true := by cases a <;> rfl
@[simp] theorem gEq_ss (a : Str) : gEq (.str a) (.str a) = some true := by
  show (if true = true then some (a == a) else none) = _
  simp
@[simp] theorem gIs_none (p : D) : gIs p .none = some (isNoneD p) := rfl
theorem oIx_natT {ds : List D} {k : Nat} {d : D} (h : ds[k]? = some d) : oIx (.tuple ds) (.int (k : Int)) = some d := atI_nat h
theorem same_refl : ∀ (d : Nat) (x : D), sml d x = true → den__law_same d [.d x, .d x] [] = .ok (.d (.bool true)) []
  | 0, _, h => by cases h
  | d + 1, x, h => by
    rw [eq__law_same]
    have seqs : ∀ (xs : List D), xs.length ≤ 10000 → xs.all (sml d) = true → ∀ (x : D), (∀ (k : Nat) (y : D), xs[k]? = some y → oIx x (.int (k : Int)) = some y) → fLen x = some (.int xs.length) →
        (dNew (dLC (iR1 (aCons (dCal (g1 fLen) (aCons (dV 1) (aNil))) (aNil))) [3] (gN 3) (dYes) (dCallP 2 (den__law_same d) (aCons (dOp2 oIx (dV 0) (dV 3)) (aCons (dOp2 oIx (dV 1) (dV 3)) (aNil)))))) [some (.d x), some (.d x), none, none] [] = .ok (.d (.list ((List.range xs.length).map fun _ => .bool true))) [] := by
      intro xs hl ha x hx hlen
      rw [e_dNew, dLC_all (fun i : Nat => PyData.int (i : Int)) (fun _ => .bool true) (List.range xs.length) (chk := fun _ => true) (st1 := []) (iR1_ok (n := xs.length) (by simp [hlen]) (by omega)) rfl (by rw [List.length_range, lim_eq]; omega) (fun k hk => ⟨_, rfl, by
        have hk' := List.mem_range.mp hk
        have h1 := hx k _ (List.getElem?_eq_getElem hk')
        have h2 := same_refl d xs[k] (List.all_eq_true.mp ha _ (List.getElem_mem hk'))
        simp [h1, callP2 h2]⟩)]
      rfl
    cases x with
    | none => simp [b__law_same, isNoneD]
    | bool b => simp [b__law_same, isiD, tyD, isNoneD]
    | int b => simp [b__law_same, isiD, tyD, isNoneD]
    | str b => simp [b__law_same, isiD, tyD, isNoneD]
    | dict b => cases h
    | list xs =>
      have h' : xs.length ≤ 10000 ∧ xs.all (sml d) = true := by simpa [sml] using h
      have hs := seqs xs h'.1 h'.2 (.list xs) (fun k y hy => oIx_nat hy) rfl
      simp only [b__law_same, e_dSeq, e_dIfS, e_dTru, e_dIsi, e_dV]
      simp [isiD, tyD]
      rw [← e_dNew, hs]
      simp
    | tuple xs =>
      have h' : xs.length ≤ 10000 ∧ xs.all (sml d) = true := by simpa [sml] using h
      have hs := seqs xs h'.1 h'.2 (.tuple xs) (fun k y hy => oIx_natT hy) rfl
      simp only [b__law_same, e_dSeq, e_dIfS, e_dTru, e_dIsi, e_dV]
      simp [isiD, tyD]
      rw [← e_dNew, hs]
      simp
end K42
end
section
set_option Elab.async false
set_option linter.all false
set_option autoImplicit false
set_option maxRecDepth 100000
set_option maxHeartbeats 4000000
namespace K42
open PySem L2 CB
theorem within_list {cs : List Int} (h : Good cs) {ρ : CB.Env} {st : Sto} {c1 : Option SV} (hρ : ρ = [some (.d (L cs)), c1, none]) : dLC (iL (dV 0)) [2] (gN 2) dYes (dCallP 3 den_is_within (aCons (dV 2) (aCons (dC (.int 0)) (aCons (dC (.int 1000000)) (aNil))))) ρ [] = .ok (.list (cs.map fun _ => .bool true)) [] := by
  subst hρ
  rw [dLC_all PyData.int (fun c => .bool true) cs (chk := fun _ => true) (st1 := []) (iL_of (by simp)) rfl h.lim (fun c hc => ⟨_, rfl, by
    have h1 : inn c 0 1000000 = true := by have := h.2 c hc; simp [inn]; omega
    have h2 := is_within_int c 0 1000000
    rw [h1] at h2
    simp [callP3 h2]⟩)]
theorem takes_ok {cs : List Int} (h : Good cs) (k : Int) : den_takes_h [.d (L cs), .d (.int k)] [] = .ok (.d (.bool (decide (0 ≤ k) && (decide (k ≤ N cs k) && decide ((cnt (fun c => decide (k < c)) cs : Int) ≤ k))))) [] := by
  have hl : (cs.length : Int) ≤ 500 := by have := h.1; omega
  have hall : fAll (.list (cs.map fun _ => PyData.bool true)) = some (.bool true) := by
    rw [fAll_map cs (fun _ => true)]; simp
  have hw := within_list h (ρ := [some (.d (L cs)), some (.d (.int k)), none]) (c1 := some (.d (.int k))) (st := []) rfl
  rw [eq_takes_h]
  simp only [b_takes_h, e_dSeq, e_dExp, e_dCallP, e_aCons, e_dAnd, e_dIsi, e_dV, e_dCal, e_dNew]
  simp [hl, hw, hall, callP1 check_true, callP1 (is_integer_int k)]
  by_cases hk : k < 0
  · have : ¬ 0 ≤ k := by omega
    simp [hk, this]
  · have h0 : 0 ≤ k := by omega
    simp [hk, h0]
    rw [dLC_map PyData.int (fun c => decide (k ≤ c)) (fun _ => .int 1) cs (chk := fun _ => true) (st1 := []) (iL_of (by simp)) rfl h.lim (fun x _ => ⟨_, rfl, by simp, by simp⟩)]
    simp
    by_cases h1 : k ≤ ((cs.filter fun c => decide (k ≤ c)).length : Int)
    · simp [h1]
      rw [dLC_map PyData.int (fun c => decide (k < c)) (fun _ => .int 1) cs (chk := fun _ => true) (st1 := []) (iL_of (by simp)) rfl h.lim (fun x _ => ⟨_, rfl, by simp, by simp⟩)]
      simp [N, cnt, h1] <;> congr
    · simp [h1, N, cnt]
/-! ranks -/
abbrev W3 := Int × Int × Int
def encW (a : W3) : D := .tuple [.int a.1, .int a.2.1, .int a.2.2]
def ltW (a b : W3) : Bool := PySem.W.dataLt (encW a) (encW b)
theorem gGt_W (a b : W3) : gGt (encW a) (encW b) = some (ltW b a) := by
  unfold gGt ltW
  rw [if_pos (show okCmp (encW a) (encW b) = true from rfl)]
def worth (r : List Int) : W3 := ((hby r : Int), gby r, r.sum)
def rankS (ws : List W3) : List Int := ws.map fun a => 1 + ((ws.filter fun b => ltW a b).length : Int)
theorem ranks_ok {rows : List (List Int)} (h1 : 1 ≤ rows.length) (h2 : rows.length ≤ 50) (hg : ∀ r ∈ rows, Good r) : den_ranks [.d (.list (rows.map L))] [] = .ok (.d (L (rankS (rows.map worth)))) [] := by
  have hl1 : (1 : Int) ≤ rows.length := by omega
  have hl2 : (rows.length : Int) ≤ 50 := by omega
  have hlim : rows.length ≤ lim := by rw [lim_eq]; omega
  have h3 : (3 : Nat) ≤ lim := by decide
  have hc : dLC (iL (dV 0)) [2] (gN 2) dYes (dCallP 1 den_are_counts (aCons (dV 2) (aNil))) [some (.d (.list (rows.map L))), none, none, none, none] [] = .ok (.list (rows.map fun _ => .bool true)) [] := by
    rw [dLC_all L (fun _ => .bool true) rows (chk := fun _ => true) (st1 := []) (iL_of (by simp)) rfl hlim (fun r hr => ⟨_, rfl, by simp [callP1 (are_counts_ok (hg r hr))]⟩)]
  have hall : fAll (.list (rows.map fun _ => PyData.bool true)) = some (.bool true) := by
    rw [fAll_map rows (fun _ => true)]; simp
  have hw : dLC (iL (dV 0)) [2] (gN 2) dYes (dTup (aCons (dCallP 1 den_h_by (aCons (dV 2) (aNil))) (aCons (dCallP 1 den_g_by (aCons (dV 2) (aNil))) (aCons (dCal (g1 fSumA) (aCons (dV 2) (aNil))) (aNil))))) [some (.d (.list (rows.map L))), none, none, none, none] [] = .ok (.list ((rows.map worth).map encW)) [] := by
    rw [dLC_all L (fun r => encW (worth r)) rows (chk := fun _ => true) (st1 := []) (iL_of (by simp)) rfl hlim (fun r hr => ⟨_, rfl, by
      have ha := h_by_ok (hg r hr).lim
      have hb := g_by_ok (hg r hr).lim
      have hw : worth r = ((hby r : Int), gby r, r.sum) := rfl
      rw [hw]
      generalize hby r = x at *
      generalize gby r = y at *
      simp [callP1 ha, callP1 hb, h3, encW]⟩)]
    rw [List.map_map]; rfl
  rw [eq_ranks]
  generalize hws : rows.map worth = ws at *
  have hwl : ws.length ≤ lim := by rw [← hws, List.length_map]; exact hlim
  have hr : dLC (iL (dV 1)) [3] (gN 3) dYes (dOp2 oAddA (dC (.int 1)) (dCal (g1 fLen) (aCons (dNew (dLC (iL (dV 1)) [4] (gN 4) (dTest (dOp2 (oB gGt) (dV 4) (dV 3))) (dC (.int 1)))) (aNil)))) [some (.d (.list (rows.map L))), some (.d (.list (ws.map encW))), none, none, none] [] = .ok (L (rankS ws)) [] := by
    rw [dLC_all encW (fun a => .int (1 + ((ws.filter fun b => ltW a b).length : Int))) ws (chk := fun _ => true) (st1 := []) (iL_of (by simp)) rfl hwl (fun a _ => ⟨_, rfl, by
      simp
      rw [dLC_map encW (fun b => ltW a b) (fun _ => .int 1) ws (chk := fun _ => true) (st1 := []) (iL_of (by simp)) rfl hwl (fun b _ => ⟨_, rfl, by simp [gGt_W], by simp⟩)]
      simp⟩)]
    simp [rankS, L]
  simp only [b_ranks, e_dSeq, e_dExp, e_dCallP, e_aCons, e_dAnd, e_dIsi, e_dV, e_dCal, e_dNew, e_dAsg, e_dRet]
  simp [hl1, hl2, hc, hall, callP1 check_true, hw]
  rw [hr]
  rfl
end K42
end
section
set_option Elab.async false
set_option linter.all false
set_option autoImplicit false
set_option maxRecDepth 100000
set_option maxHeartbeats 4000000
namespace K42
open PySem L2 CB
/-! the ways -/
def more1 (row : List Int) : List (List Int) := (List.range ((4 - row.sum + 1).toNat)).map fun i : Nat => row ++ [(i : Int)]
def wys : Nat → List (List Int)
  | 0 => [[]]
  | n + 1 => (wys n).flatMap more1
def encT (w : List Int) : D := .tuple (w.map .int)
/-- all in a way are 0 or more, their sum at most 4 -/
structure Way (n : Nat) (w : List Int) : Prop where
  len : w.length = n
  nn : ∀ x ∈ w, 0 ≤ x
  le : w.sum ≤ 4
theorem sum_nn : ∀ {w : List Int}, (∀ x ∈ w, 0 ≤ x) → 0 ≤ w.sum
  | [], _ => Int.le_refl _
  | x :: w, h => by
    rw [List.sum_cons]
    have := h x List.mem_cons_self
    have := sum_nn fun y hy => h y (List.mem_cons_of_mem x hy)
    omega
theorem wys_mem : ∀ (n : Nat) (w : List Int), w ∈ wys n ↔ Way n w
  | 0, w => by
    constructor
    · intro h
      have : w = [] := by simpa [wys] using h
      subst this
      exact ⟨rfl, by simp, by simp⟩
    · intro h
      have : w = [] := List.length_eq_zero_iff.mp h.len
      subst this
      simp [wys]
  | n + 1, w => by
    constructor
    · intro h
      rw [wys, List.mem_flatMap] at h
      obtain ⟨row, hr, hw⟩ := h
      have hr := (wys_mem n row).mp hr
      unfold more1 at hw
      rw [List.mem_map] at hw
      obtain ⟨i, hi, rfl⟩ := hw
      rw [List.mem_range] at hi
      refine ⟨by simp [hr.len], fun x hx => ?_, ?_⟩
      · rcases List.mem_append.mp hx with h | h
        · exact hr.nn x h
        · rw [List.mem_singleton.mp h]; omega
      · rw [List.sum_append]
        simp
        omega
    · intro h
      have hne : w ≠ [] := fun e => by subst e; have := h.len; simp at this
      rcases List.eq_nil_or_concat w with e | ⟨row, x, e⟩
      · exact absurd e hne
      subst e
      have hx := h.nn x (by simp)
      have hs := h.le
      rw [List.concat_eq_append, List.sum_append] at hs
      simp at hs
      have hrow : Way n row := ⟨by have := h.len; simp at this; exact this, fun y hy => h.nn y (by simp [hy]), by omega⟩
      rw [wys, List.mem_flatMap]
      refine ⟨row, (wys_mem n row).mpr hrow, ?_⟩
      unfold more1
      rw [List.mem_map]
      refine ⟨x.toNat, ?_, ?_⟩
      · rw [List.mem_range]
        omega
      · rw [List.concat_eq_append]
        congr 2
        omega
theorem more1_len {row : List Int} (h : 0 ≤ row.sum) : (more1 row).length ≤ 5 := by
  unfold more1
  rw [List.length_map, List.length_range]
  omega
theorem flat_len : ∀ (rows : List (List Int)), (∀ r ∈ rows, 0 ≤ r.sum) → (rows.flatMap more1).length ≤ 5 * rows.length
  | [], _ => by simp
  | r :: rows, h => by
    rw [List.flatMap_cons, List.length_append, List.length_cons]
    have := more1_len (h r List.mem_cons_self)
    have := flat_len rows fun r hr => h r (List.mem_cons_of_mem _ hr)
    omega
theorem wys_len : ∀ n, (wys n).length ≤ 5 ^ n
  | 0 => by simp [wys]
  | n + 1 => by
    have h1 := flat_len (wys n) fun r hr => sum_nn ((wys_mem n r).mp hr).nn
    have h2 := wys_len n
    rw [wys, Nat.pow_succ]
    omega
theorem oCat_ok {xs ys : List D} (h : xs.length + ys.length ≤ lim) : oAddA (.list xs) (.list ys) = some (.list (xs ++ ys)) := by
  unfold oAddA oCat
  simp [oAdd, h]
theorem oTup_ok {xs ys : List D} (h : xs.length + ys.length ≤ lim) : oAddA (.tuple xs) (.tuple ys) = some (.tuple (xs ++ ys)) := by
  unfold oAddA oAdd
  simp [h]
noncomputable abbrev w1 : dS := dSeq (dAsg 4 (dOp2 oAddA (dV 4) (dNew (dLC (iR1 (aCons (dOp2 oAddA (dOp2 oSub (dV 0) (dCal (g1 fSumA) (aCons (dV 5) (aNil)))) (dC (.int 1))) (aNil))) [6] (gN 6) (dYes) (dOp2 oAddA (dV 5) (dTup (aCons (dV 6) (aNil)))))))) (dSkip)
theorem w1_ok (c1 c2 c3 : Option SV) (acc : List (List Int)) (row : List Int) (h0 : 0 ≤ row.sum) (h4 : row.sum ≤ 4) (hl : row.length ≤ 100) (ha : acc.length ≤ 900000) : w1 [some (.d (.int 4)), c1, c2, c3, some (.d (.list (acc.map encT))), some (.d (encT row)), none] [] =
    .nx [some (.d (.int 4)), c1, c2, c3, some (.d (.list ((acc ++ more1 row).map encT))), some (.d (encT row)), none] [] := by
  have hs : fSumA (encT row) = some (.int row.sum) := fSum_tup row
  have h1 : (1 : Nat) ≤ lim := by decide
  have hm := more1_len h0
  have hc : dLC (iR1 (aCons (dOp2 oAddA (dOp2 oSub (dV 0) (dCal (g1 fSumA) (aCons (dV 5) (aNil)))) (dC (.int 1))) (aNil))) [6] (gN 6) (dYes) (dOp2 oAddA (dV 5) (dTup (aCons (dV 6) (aNil)))) [some (.d (.int 4)), c1, c2, c3, some (.d (.list (acc.map encT))), some (.d (encT row)), none] [] = .ok (.list ((more1 row).map encT)) [] := by
    have hit : iR1 (aCons (dOp2 oAddA (dOp2 oSub (dV 0) (dCal (g1 fSumA) (aCons (dV 5) (aNil)))) (dC (.int 1))) (aNil)) [some (.d (.int 4)), c1, c2, c3, some (.d (.list (acc.map encT))), some (.d (encT row)), none] [] = .ok ⟨(List.range ((4 - row.sum + 1).toNat)).map fun i : Nat => .int (i : Int), fun _ => true⟩ [] := by
      have e : (((4 - row.sum + 1).toNat : Nat) : Int) = 4 - row.sum + 1 := by omega
      exact iR1_ok (by rw [e]; simp [hs]) (by omega)
    rw [dLC_all (fun i : Nat => PyData.int (i : Int)) (fun i => encT (row ++ [(i : Int)])) (List.range ((4 - row.sum + 1).toNat)) (chk := fun _ => true) (st1 := []) hit rfl (by rw [List.length_range, lim_eq]; omega) (fun i _ => ⟨_, rfl, by
      have ht : oAddA (encT row) (.tuple [.int (i : Int)]) = some (encT (row ++ [(i : Int)])) := by
        unfold encT
        rw [oTup_ok (by rw [lim_eq]; simp; omega)]
        simp
      simp [h1, ht]⟩)]
    unfold more1
    rw [List.map_map]; rfl
  have hcat := oCat_ok (xs := acc.map encT) (ys := (more1 row).map encT) (by rw [lim_eq]; simp; omega)
  simp [hc, hcat]
theorem w_inner (c1 c2 c3 : Option SV) : ∀ (rows : List (List Int)) (acc : List (List Int)) (r5 : Option SV), (∀ r ∈ rows, 0 ≤ r.sum ∧ r.sum ≤ 4 ∧ r.length ≤ 100) → acc.length + 5 * rows.length ≤ 900000 →
    ∃ r5', forLoop (fun _ => true) (gN 5) w1 (rows.map encT) [some (.d (.int 4)), c1, c2, c3, some (.d (.list (acc.map encT))), r5, none] [] = .nx [some (.d (.int 4)), c1, c2, c3, some (.d (.list ((acc ++ rows.flatMap more1).map encT))), r5', none] []
  | [], acc, r5, _, _ => ⟨r5, by simp [forLoop]⟩
  | r :: rows, acc, r5, h, hl => by
    obtain ⟨h0, h4, hr⟩ := h r List.mem_cons_self
    rw [List.length_cons] at hl
    have hm := more1_len h0
    obtain ⟨r5', e⟩ := w_inner c1 c2 c3 rows (acc ++ more1 r) (some (.d (encT r))) (fun q hq => h q (List.mem_cons_of_mem _ hq)) (by rw [List.length_append]; omega)
    refine ⟨r5', ?_⟩
    rw [List.map_cons]
    unfold forLoop
    rw [if_pos rfl]
    have h2 := w1_ok c1 c2 c3 acc r h0 h4 hr (by omega)
    have hg : gN 5 (encT r) [some (.d (.int 4)), c1, c2, c3, some (.d (.list (acc.map encT))), r5, none] = some [some (.d (.int 4)), c1, c2, c3, some (.d (.list (acc.map encT))), some (.d (encT r)), none] := rfl
    rw [hg]
    simp only [h2]
    rw [e, List.flatMap_cons, List.append_assoc]
noncomputable abbrev w2 : dS := dSeq (dAsg 4 (dNew (nLst (aNil)))) (dSeq (dFor (iL (dV 2)) (gN 5) w1) (dSeq (dAsg 2 (dV 4)) (dSkip)))
theorem w2_ok (c1 c3 c4 c5 : Option SV) (n : Nat) (hn : n ≤ 5) : ∃ c4' c5', w2 [some (.d (.int 4)), c1, some (.d (.list ((wys n).map encT))), c3, c4, c5, none] [] = .nx [some (.d (.int 4)), c1, some (.d (.list ((wys (n + 1)).map encT))), c3, c4', c5', none] [] := by
  have hl0 : (0 : Nat) ≤ lim := by decide
  have hw := wys_len n
  have h5 : 5 ^ n ≤ 5 ^ 5 := Nat.pow_le_pow_right (by decide) hn
  obtain ⟨r5', e⟩ := w_inner c1 (some (.d (.list ((wys n).map encT)))) c3 (wys n) [] c5 (fun r hr => by
    have := (wys_mem n r).mp hr
    exact ⟨sum_nn this.nn, this.le, by rw [this.len]; omega⟩) (by simp; omega)
  have e1 : dAsg 4 (dNew (nLst (aNil))) [some (.d (.int 4)), c1, some (.d (.list ((wys n).map encT))), c3, c4, c5, none] [] = .nx [some (.d (.int 4)), c1, some (.d (.list ((wys n).map encT))), c3, some (.d (.list (([] : List (List Int)).map encT))), c5, none] [] := by simp [hl0]
  have e2 : dFor (iL (dV 2)) (gN 5) w1 [some (.d (.int 4)), c1, some (.d (.list ((wys n).map encT))), c3, some (.d (.list (([] : List (List Int)).map encT))), c5, none] [] = .nx [some (.d (.int 4)), c1, some (.d (.list ((wys n).map encT))), c3, some (.d (.list (([] ++ (wys n).flatMap more1).map encT))), r5', none] [] := by
    rw [e_dFor, iL_of (f := dV 2) (ds := (wys n).map encT) (st1 := []) rfl]
    exact e
  refine ⟨some (.d (.list ((wys (n + 1)).map encT))), r5', ?_⟩
  show dSeq _ _ _ _ = _
  rw [seq_nx e1, seq_nx e2]
  simp [wys]
theorem ways_ok (n : Nat) (hn : n ≤ 5) : den__law_ways [.d (.int 4), .d (.int (n : Int))] [] = .ok (.d (.list ((wys n).map encT))) [] := by
  have hl0 : (0 : Nat) ≤ lim := by decide
  have hl1 : (1 : Nat) ≤ lim := by decide
  obtain ⟨ρ', st', h1, c3, c4, c5, rfl, rfl⟩ := forLoop_inv (fun i : Nat => PyData.int (i : Int)) (gg := gN 3) (chk := fun _ => true) (body := w2) (fun i ρ st => ∃ c3 c4 c5, ρ = [some (.d (.int 4)), some (.d (.int (n : Int))), some (.d (.list ((wys i).map encT))), c3, c4, c5, none] ∧ st = []) (fun _ _ _ _ => rfl) (List.range n) 0 [some (.d (.int 4)), some (.d (.int (n : Int))), some (.d (.list ((wys 0).map encT))), none, none, none, none] [] ⟨none, none, none, rfl, rfl⟩ (by
    rintro j ρ st x hx hj ⟨c3, c4, c5, rfl, rfl⟩
    rw [List.length_range] at hj
    obtain ⟨c4', c5', e⟩ := w2_ok (some (.d (.int (n : Int)))) (some (.d (.int (x : Int)))) c4 c5 j (by omega)
    exact ⟨_, _, _, rfl, e, _, c4', c5', rfl, rfl⟩)
  rw [List.length_range, Nat.zero_add] at h1
  rw [eq__law_ways]
  have e1 : dAsg 2 (dNew (nLst (aCons (dTup (aNil)) (aNil)))) [some (.d (.int 4)), some (.d (.int (n : Int))), none, none, none, none, none] [] = .nx [some (.d (.int 4)), some (.d (.int (n : Int))), some (.d (.list ((wys 0).map encT))), none, none, none, none] [] := by simp [hl0, hl1, wys, encT]
  have e2 : dFor (iR1 (aCons (dV 1) (aNil))) (gN 3) w2 [some (.d (.int 4)), some (.d (.int (n : Int))), some (.d (.list ((wys 0).map encT))), none, none, none, none] [] = .nx [some (.d (.int 4)), some (.d (.int (n : Int))), some (.d (.list ((wys n).map encT))), c3, c4, c5, none] [] := by
    rw [e_dFor, iR1_ok (n := n) (st1 := []) rfl (by omega)]
    exact h1
  show fnRes 0 (dSeq _ _ _ _) = _
  rw [seq_nx e1, seq_nx e2]
  simp
end K42
end
section
set_option Elab.async false
set_option linter.all false
set_option autoImplicit false
set_option maxRecDepth 100000
set_option maxHeartbeats 4000000
namespace K42
open PySem L2 CB
/-! plain numbers -/
theorem cnt_prefix (P : Int → Nat → Bool) : ∀ (F : List Int) (k : Nat), (∀ (i j : Nat) (x y : Int), i < j → F[i]? = some x → F[j]? = some y → P y (k + j) = true → P x (k + i) = true) → ∀ (i : Nat) (x : Int), F[i]? = some x → (i < ((F.zipIdx k).filter fun z => P z.1 z.2).length ↔ P x (k + i) = true)
  | [], k, _, i, x, h => by simp at h
  | f :: F, k, anti, i, x, h => by
    have ih := cnt_prefix P F (k + 1) fun i j x y hij hx hy hp => by
      have := anti (i + 1) (j + 1) x y (by omega) (by simpa using hx) (by simpa using hy) (by rw [show k + (j + 1) = k + 1 + j by omega]; exact hp)
      rw [show k + (i + 1) = k + 1 + i by omega] at this
      exact this
    rw [List.zipIdx_cons]
    cases hf : P f k with
    | true =>
      rw [List.filter_cons_of_pos (by simpa using hf)]
      cases i with
      | zero =>
        have e : f = x := by simpa using h
        subst e
        simp [hf]
      | succ i =>
        have := ih i x (by simpa using h)
        rw [List.length_cons, show k + (i + 1) = k + 1 + i by omega, ← this]
        omega
    | false =>
      rw [List.filter_cons_of_neg (by simp [hf])]
      have hz : ((F.zipIdx (k + 1)).filter fun z => P z.1 z.2).length = 0 := by
        cases F with
        | nil => rfl
        | cons y F =>
          have h0 := ih 0 y rfl
          rcases Nat.eq_zero_or_pos (((y :: F).zipIdx (k + 1)).filter fun z => P z.1 z.2).length with e | e
          · exact e
          · have hp := h0.mp e
            have := anti 0 1 f y (by omega) rfl rfl (by simpa using hp)
            rw [show k + 0 = k from rfl, hf] at this
            cases this
      rw [hz]
      constructor
      · intro h; omega
      · intro hp
        cases i with
        | zero =>
          have e : f = x := by simpa using h
          subst e
          rw [show k + 0 = k from rfl, hf] at hp
          cases hp
        | succ i =>
          have := anti 0 (i + 1) f x (by omega) rfl h hp
          rw [show k + 0 = k from rfl, hf] at this
          cases this
theorem fall_desc (cs : List Int) : (fall cs).Pairwise (· ≥ ·) := by
  unfold fall
  rw [List.pairwise_reverse]
  exact sortI_le cs
theorem desc_get {F : List Int} (h : F.Pairwise (· ≥ ·)) {i j : Nat} {x y : Int} (hij : i < j) (hx : F[i]? = some x) (hy : F[j]? = some y) : y ≤ x := by
  obtain ⟨hi, rfl⟩ := List.getElem?_eq_some_iff.mp hx
  obtain ⟨hj, rfl⟩ := List.getElem?_eq_some_iff.mp hy
  exact (List.pairwise_iff_getElem.mp h) i j hi hj hij
theorem fall_get {cs : List Int} {i : Nat} (h : i < cs.length) : ∃ x, (fall cs)[i]? = some x := ⟨_, List.getElem?_eq_getElem (by rw [fall_len]; exact h)⟩
theorem hby_iff {cs : List Int} {i : Nat} {x : Int} (h : (fall cs)[i]? = some x) : i < hby cs ↔ (i : Int) < x := by
  have := cnt_prefix (fun x i => decide ((i : Int) < x)) (fall cs) 0 (fun i j x y hij hx hy hp => by
    have := desc_get (fall_desc cs) hij hx hy
    simp at hp ⊢
    omega) i x h
  simpa [hby] using this
theorem wby_iff {cs : List Int} {i : Nat} {x : Int} (h : (fall cs)[i]? = some x) : i < wby cs ↔ 10 * ((i : Int) + 1) ≤ x := by
  have := cnt_prefix (fun x i => decide (10 * ((i : Int) + 1) ≤ x)) (fall cs) 0 (fun i j x y hij hx hy hp => by
    have := desc_get (fall_desc cs) hij hx hy
    simp at hp ⊢
    omega) i x h
  simpa [wby] using this
theorem zip_filter (p : Int → Bool) : ∀ (F : List Int) (k : Nat), ((F.zipIdx k).filter fun z => p z.1).length = (F.filter p).length
  | [], _ => rfl
  | f :: F, k => by
    rw [List.zipIdx_cons]
    have := zip_filter p F (k + 1)
    cases hf : p f with
    | true => rw [List.filter_cons_of_pos (by simpa using hf), List.filter_cons_of_pos hf, List.length_cons, List.length_cons, this]
    | false => rw [List.filter_cons_of_neg (by simp [hf]), List.filter_cons_of_neg (by simp [hf]), this]
theorem cnt_fall (p : Int → Bool) (cs : List Int) : cnt p cs = ((fall cs).filter p).length := ((fall_perm cs).filter p).length_eq.symm
theorem N_iff {cs : List Int} {i : Nat} {x : Int} (t : Int) (h : (fall cs)[i]? = some x) : i < N cs t ↔ t ≤ x := by
  have := cnt_prefix (fun x _ => decide (t ≤ x)) (fall cs) 0 (fun i j x y hij hx hy hp => by
    have := desc_get (fall_desc cs) hij hx hy
    simp at hp ⊢
    omega) i x h
  rw [zip_filter (fun x => decide (t ≤ x))] at this
  unfold N
  rw [cnt_fall]
  simpa using this
theorem N_le (cs : List Int) (t : Int) : N cs t ≤ cs.length := List.length_filter_le _ _
theorem h_char {cs : List Int} {k : Nat} (hk : k ≤ cs.length) : k ≤ N cs k ↔ k ≤ hby cs := by
  cases k with
  | zero => simp
  | succ k =>
    obtain ⟨x, hx⟩ := fall_get (cs := cs) (i := k) (by omega)
    have h1 := N_iff ((k + 1 : Nat) : Int) hx
    have h2 := hby_iff hx
    constructor
    · intro h
      have := h1.mp (by omega)
      have := h2.mpr (by omega)
      omega
    · intro h
      have := h2.mp (by omega)
      have := h1.mpr (by omega)
      omega
theorem w_char {cs : List Int} {k : Nat} (hk : k ≤ cs.length) : k ≤ N cs (10 * (k : Int)) ↔ k ≤ wby cs := by
  cases k with
  | zero => simp
  | succ k =>
    obtain ⟨x, hx⟩ := fall_get (cs := cs) (i := k) (by omega)
    have h1 := N_iff (10 * ((k + 1 : Nat) : Int)) hx
    have h2 := wby_iff hx
    constructor
    · intro h
      have := h1.mp (by omega)
      have := h2.mpr (by omega)
      omega
    · intro h
      have := h2.mp (by omega)
      have := h1.mpr (by omega)
      omega
theorem wby_le (cs : List Int) : wby cs ≤ cs.length := by
  unfold wby
  refine Nat.le_trans (List.length_filter_le _ _) ?_
  rw [List.length_zipIdx, fall_len]
  exact Nat.le_refl _
theorem lawh {cs : List Int} (h : cs.length ≤ 1000) : den__law_h [.d (L cs)] [] = .ok (.d (.int (hby cs))) [] := law_h_ok h (hby_le cs) ((h_char (hby_le cs)).mpr (Nat.le_refl _)) fun k hk hn => (h_char hk).mp hn
theorem takes_char {cs : List Int} (k : Int) : (decide (0 ≤ k) && (decide (k ≤ N cs k) && decide ((cnt (fun c => decide (k < c)) cs : Int) ≤ k))) = decide (k = hby cs) := by
  have hc : cnt (fun c => decide (k < c)) cs = N cs (k + 1) := by
    unfold N
    congr 1
  rw [hc]
  have hl := hby_le cs
  by_cases h0 : 0 ≤ k
  · obtain ⟨m, rfl⟩ : ∃ m : Nat, k = m := ⟨k.toNat, by omega⟩
    have hN := N_le cs ((m : Int) + 1)
    have hN0 := N_le cs (m : Int)
    by_cases hm : m ≤ cs.length
    · have h1 := h_char hm
      by_cases hm1 : m + 1 ≤ cs.length
      · have h2 := h_char hm1
        have e : ((m + 1 : Nat) : Int) = (m : Int) + 1 := by omega
        rw [e] at h2
        by_cases hq : m = hby cs
        · have a1 := h1.mpr (by omega)
          have a2 : ¬ m + 1 ≤ N cs ((m : Int) + 1) := fun h => by have := h2.mp h; omega
          rw [decide_eq_true h0, decide_eq_true (show (m : Int) ≤ N cs m by omega), decide_eq_true (show (N cs ((m : Int) + 1) : Int) ≤ m by omega), decide_eq_true (show (m : Int) = hby cs by omega)]
          rfl
        · rw [decide_eq_false (show ¬ (m : Int) = hby cs by omega)]
          by_cases hlt : m ≤ hby cs
          · have a2 := h2.mpr (by omega)
            rw [decide_eq_false (show ¬ (N cs ((m : Int) + 1) : Int) ≤ m by omega)]
            simp
          · have a1 : ¬ m ≤ N cs m := fun h => hlt (h1.mp h)
            rw [decide_eq_false (show ¬ (m : Int) ≤ N cs m by omega)]
            simp
      · by_cases hq : m = hby cs
        · have a1 := h1.mpr (by omega)
          rw [decide_eq_true h0, decide_eq_true (show (m : Int) ≤ N cs m by omega), decide_eq_true (show (N cs ((m : Int) + 1) : Int) ≤ m by omega), decide_eq_true (show (m : Int) = hby cs by omega)]
          rfl
        · have a1 : ¬ m ≤ N cs m := fun h => by have := h1.mp h; omega
          rw [decide_eq_false (show ¬ (m : Int) = hby cs by omega), decide_eq_false (show ¬ (m : Int) ≤ N cs m by omega)]
          simp
    · rw [decide_eq_false (show ¬ (m : Int) = hby cs by omega), decide_eq_false (show ¬ (m : Int) ≤ N cs m by omega)]
      simp
  · rw [decide_eq_false h0, decide_eq_false (show ¬ k = hby cs by omega)]
    rfl
/-! g -/
structure GInv (F : List Int) (i : Nat) (s : Int × Int) : Prop where
  g : ∃ g : Nat, s.1 = g ∧ g ≤ i ∧ (g : Int) * g ≤ (F.take g).sum ∧ ∀ k : Nat, k ≤ i → (k : Int) * k ≤ (F.take k).sum → k ≤ g
  w : s.2 = (F.take i).sum
theorem g_fold (F : List Int) : ∀ (G pre : List Int) (s : Int × Int), F = pre ++ G → GInv F pre.length s → GInv F F.length ((G.zipIdx pre.length).foldl gst s)
  | [], pre, s, e, h => by
    have : F.length = pre.length := by rw [e]; simp
    rw [this]; exact h
  | x :: G, pre, s, e, h => by
    rw [List.zipIdx_cons, List.foldl_cons]
    obtain ⟨⟨g, h1, h2, h3, h4⟩, hw⟩ := h
    have ht : (F.take (pre.length + 1)).sum = s.2 + x := by
      have e1 : F.take pre.length = pre := by rw [e]; simp
      have e2 : F.take (pre.length + 1) = pre ++ [x] := by
        rw [e, List.take_append]
        simp
        exact List.take_of_length_le (by omega)
      rw [e2, List.sum_append, hw, e1]
      simp
    have := g_fold F G (pre ++ [x]) (gst s (x, pre.length)) (by rw [e]; simp) (by
      have hlen : (pre ++ [x]).length = pre.length + 1 := by simp
      rw [hlen]
      refine ⟨?_, by rw [ht]; rfl⟩
      by_cases hc : ((pre.length : Int) + 1) * ((pre.length : Int) + 1) ≤ s.2 + x
      · refine ⟨pre.length + 1, ?_, Nat.le_refl _, ?_, fun k hk _ => hk⟩
        · show (if ((pre.length : Int) + 1) * ((pre.length : Int) + 1) ≤ s.2 + x then (pre.length : Int) + 1 else s.1) = _
          rw [if_pos hc]; omega
        · rw [ht]
          have e : ((pre.length + 1 : Nat) : Int) = (pre.length : Int) + 1 := by omega
          rw [e]; exact hc
      · refine ⟨g, ?_, by omega, h3, fun k hk hs => ?_⟩
        · show (if ((pre.length : Int) + 1) * ((pre.length : Int) + 1) ≤ s.2 + x then (pre.length : Int) + 1 else s.1) = _
          rw [if_neg hc]; exact h1
        · by_cases hk' : k ≤ pre.length
          · exact h4 k hk' hs
          · have ek : k = pre.length + 1 := by omega
            subst ek
            rw [ht] at hs
            have e : ((pre.length + 1 : Nat) : Int) = (pre.length : Int) + 1 := by omega
            rw [e] at hs
            exact absurd hs hc)
    rw [List.length_append] at this
    exact this
theorem gby_char (cs : List Int) : ∃ g : Nat, gby cs = g ∧ g ≤ cs.length ∧ (g : Int) * g ≤ sumT cs g ∧ ∀ k : Nat, k ≤ cs.length → (k : Int) * k ≤ sumT cs k → k ≤ g := by
  have h := g_fold (fall cs) (fall cs) [] (0, 0) rfl ⟨⟨0, rfl, Nat.le_refl _, by simp, fun k hk _ => hk⟩, by simp⟩
  obtain ⟨⟨g, h1, h2, h3, h4⟩, _⟩ := h
  rw [fall_len] at h2 h4
  exact ⟨g, h1, h2, h3, h4⟩
theorem lawg {cs : List Int} (h : cs.length ≤ 1000) : den__law_g [.d (L cs)] [] = .ok (.d (.int (gby cs))) [] := by
  obtain ⟨g, h1, h2, h3, h4⟩ := gby_char cs
  rw [h1]
  exact law_g_ok h h2 h3 h4
end K42
end
section
set_option Elab.async false
set_option linter.all false
set_option autoImplicit false
set_option maxRecDepth 100000
set_option maxHeartbeats 4000000
namespace K42
open PySem L2 CB
/-! what is lacking -/
def phi (h : Nat) (c : Int) : Int := max 0 ((h : Int) - c)
theorem lack_eq (cs : List Int) (h : Nat) : lack cs h = (((fall cs).take h).map (phi h)).sum := rfl
theorem phi_nn (h : Nat) (c : Int) : 0 ≤ phi h c := by unfold phi; omega
theorem sum_map_le {f g : Int → Int} : ∀ (xs : List Int), (∀ x ∈ xs, f x ≤ g x) → (xs.map f).sum ≤ (xs.map g).sum
  | [], _ => Int.le_refl _
  | x :: xs, h => by
    rw [List.map_cons, List.map_cons, List.sum_cons, List.sum_cons]
    have := h x List.mem_cons_self
    have := sum_map_le xs fun y hy => h y (List.mem_cons_of_mem _ hy)
    omega
theorem sum_take_succ {f : Int → Int} (hf : ∀ x, 0 ≤ f x) (xs : List Int) (k : Nat) : ((xs.take k).map f).sum ≤ ((xs.take (k + 1)).map f).sum := by
  by_cases hk : k < xs.length
  · rw [List.take_succ, List.getElem?_eq_getElem hk]
    simp only [Option.toList_some, List.map_append, List.sum_append]
    have := hf xs[k]
    simp
    omega
  · rw [List.take_of_length_le (by omega), List.take_of_length_le (by omega)]
    exact Int.le_refl _
theorem lack_succ (cs : List Int) (h : Nat) : lack cs h ≤ lack cs (h + 1) := by
  rw [lack_eq, lack_eq]
  refine Int.le_trans (sum_map_le _ fun x _ => ?_) (sum_take_succ (phi_nn (h + 1)) (fall cs) h)
  unfold phi
  omega
theorem lack_mono (cs : List Int) {j k : Nat} (h : j ≤ k) : lack cs j ≤ lack cs k := by
  induction h with
  | refl => exact Int.le_refl _
  | step _ ih => exact Int.le_trans ih (lack_succ cs _)
theorem sum_zero {f : Int → Int} : ∀ (xs : List Int), (∀ x ∈ xs, f x = 0) → (xs.map f).sum = 0
  | [], _ => rfl
  | x :: xs, h => by
    rw [List.map_cons, List.sum_cons, h x List.mem_cons_self, sum_zero xs fun y hy => h y (List.mem_cons_of_mem _ hy)]
    rfl
theorem fall_ge {cs : List Int} {i : Nat} {x : Int} (hx : (fall cs)[i]? = some x) (hi : i < hby cs) : (hby cs : Int) ≤ x := by
  have hl := hby_le cs
  obtain ⟨y, hy⟩ := fall_get (cs := cs) (i := hby cs - 1) (by omega)
  have h1 := (hby_iff hy).mp (by omega)
  by_cases e : i = hby cs - 1
  · subst e
    rw [hy] at hx
    cases hx
    omega
  · have := desc_get (fall_desc cs) (show i < hby cs - 1 by omega) hx hy
    omega
theorem lack_hby (cs : List Int) : lack cs (hby cs) = 0 := by
  rw [lack_eq]
  refine sum_zero _ fun x hx => ?_
  obtain ⟨i, hi, e⟩ := List.mem_iff_getElem.mp hx
  rw [List.length_take] at hi
  rw [List.getElem_take] at e
  have := fall_ge (cs := cs) (i := i) (x := x) (by rw [List.getElem?_eq_getElem (by omega), e]) (by omega)
  unfold phi
  omega
theorem mst_char (cs : List Int) (m : Int) : ∀ (k f : Nat), cs.length - f ≤ k → f ≤ cs.length → lack cs f ≤ m → mstK cs m k f ≤ cs.length ∧ lack cs (mstK cs m k f) ≤ m ∧ f ≤ mstK cs m k f ∧ ∀ j, j ≤ cs.length → lack cs j ≤ m → j ≤ mstK cs m k f
  | 0, f, hk, hf, hl => ⟨hf, hl, Nat.le_refl _, fun j hj _ => by show j ≤ f; omega⟩
  | k + 1, f, hk, hf, hl => by
    unfold mstK
    by_cases hc : f < cs.length ∧ lack cs (f + 1) ≤ m
    · rw [if_pos hc]
      obtain ⟨a, b, c, d⟩ := mst_char cs m k (f + 1) (by omega) (by omega) hc.2
      exact ⟨a, b, by omega, d⟩
    · rw [if_neg hc]
      refine ⟨hf, hl, Nat.le_refl _, fun j hj hjl => ?_⟩
      refine Nat.le_of_not_lt fun hlt => hc ⟨by omega, ?_⟩
      exact Int.le_trans (lack_mono cs (show f + 1 ≤ j by omega)) hjl
theorem most_char (cs : List Int) {m : Int} (hm : 0 ≤ m) : most cs m ≤ cs.length ∧ lack cs (most cs m) ≤ m ∧ ∀ j, j ≤ cs.length → lack cs j ≤ m → j ≤ most cs m := by
  obtain ⟨a, b, _, d⟩ := mst_char cs m (cs.length - hby cs) (hby cs) (Nat.le_refl _) (hby_le cs) (by rw [lack_hby]; exact hm)
  exact ⟨a, b, d⟩
/-! the least that any h of the counts lack -/
theorem take_sub {G : List Int} (hG : G.Pairwise (· ≤ ·)) {B : List Int} (hs : B.Sublist G) : ∀ k, k ≤ B.length → (G.take k).sum ≤ (B.take k).sum := by
  induction hs with
  | slnil => intro k _; simp
  | @cons l₁ l₂ a hs ih =>
    intro k hk
    have hp := List.pairwise_cons.mp hG
    cases k with
    | zero => simp
    | succ j =>
      have h1 := ih hp.2 (j + 1) hk
      have hlen := hs.length_le
      have hj : j < l₂.length := by omega
      have h2 := hp.1 l₂[j] (List.getElem_mem hj)
      rw [List.take_succ_cons, List.sum_cons]
      rw [List.take_succ, List.getElem?_eq_getElem hj] at h1
      simp only [Option.toList_some, List.sum_append] at h1
      have : ([l₂[j]] : List Int).sum = l₂[j] := by simp
      rw [this] at h1
      omega
  | @cons_cons l₁ l₂ a hs ih =>
    intro k hk
    have hp := List.pairwise_cons.mp hG
    cases k with
    | zero => simp
    | succ j =>
      have h1 := ih hp.2 j (by simpa using hk)
      rw [List.take_succ_cons, List.take_succ_cons, List.sum_cons, List.sum_cons]
      omega
theorem take_le_sum {B : List Int} (h : ∀ x ∈ B, 0 ≤ x) (k : Nat) : (B.take k).sum ≤ B.sum := by
  have e := List.take_append_drop k B
  have h2 : B.sum = (B.take k).sum + (B.drop k).sum := by rw [← List.sum_append, e]
  have := sum_nn (w := B.drop k) fun x hx => h x (List.mem_of_mem_drop hx)
  omega
theorem perm_sum {xs ys : List Int} (h : xs.Perm ys) : xs.sum = ys.sum := by
  induction h with
  | nil => rfl
  | cons x _ ih => rw [List.sum_cons, List.sum_cons, ih]
  | swap x y l => rw [List.sum_cons, List.sum_cons, List.sum_cons, List.sum_cons]; omega
  | trans _ _ a b => rw [a, b]
theorem lack_min {cs A : List Int} (hs : A.Sublist cs) (h : Nat) (hl : h ≤ A.length) : lack cs h ≤ (A.map (phi h)).sum := by
  obtain ⟨A', hp, hs'⟩ := List.exists_perm_sublist hs (fall_perm cs).symm
  have hG : ((fall cs).map (phi h)).Pairwise (· ≤ ·) := by
    rw [List.pairwise_map]
    exact (fall_desc cs).imp fun {a b} hab => by unfold phi; omega
  have h1 := take_sub hG (hs'.map (phi h)) h (by rw [List.length_map, hp.length_eq]; exact hl)
  rw [lack_eq, List.map_take]
  refine Int.le_trans h1 (Int.le_trans (take_le_sum (fun x hx => ?_) h) ?_)
  · obtain ⟨c, _, rfl⟩ := List.mem_map.mp hx
    exact phi_nn h c
  · rw [perm_sum (hp.map (phi h))]
    exact Int.le_refl _
/-! a way added -/
def addW (cs w : List Int) : List Int := List.zipWith (· + ·) cs w
theorem addW_cnt : ∀ (cs w : List Int) (h : Nat), cs.length = w.length → (∀ x ∈ w, 0 ≤ x) → ∃ A : List Int, A.Sublist cs ∧ A.length = cnt (fun c => decide ((h : Int) ≤ c)) (addW cs w) ∧ (A.map (phi h)).sum ≤ w.sum
  | [], [], h, _, _ => ⟨[], List.Sublist.slnil, rfl, Int.le_refl _⟩
  | c :: cs, x :: w, h, hl, hx => by
    obtain ⟨A, h1, h2, h3⟩ := addW_cnt cs w h (by simpa using hl) fun y hy => hx y (List.mem_cons_of_mem _ hy)
    have hx0 := hx x List.mem_cons_self
    have e : addW (c :: cs) (x :: w) = (c + x) :: addW cs w := rfl
    by_cases hc : (h : Int) ≤ c + x
    · refine ⟨c :: A, h1.cons_cons c, ?_, ?_⟩
      · rw [e]; unfold cnt at h2 ⊢
        rw [List.filter_cons_of_pos (by simpa using hc), List.length_cons, List.length_cons, h2]
      · rw [List.map_cons, List.sum_cons, List.sum_cons]
        unfold phi at *
        omega
    · refine ⟨A, h1.cons c, ?_, ?_⟩
      · rw [e]; unfold cnt at h2 ⊢
        rw [List.filter_cons_of_neg (by simpa using hc), h2]
      · rw [List.sum_cons]; omega
theorem addW_len {cs w : List Int} (h : cs.length = w.length) : (addW cs w).length = cs.length := by
  unfold addW
  rw [List.length_zipWith, ← h, Nat.min_self]
/-- whoever adds at least so much reaches no more -/
theorem way_bound {cs w : List Int} (hl : cs.length = w.length) (hx : ∀ x ∈ w, 0 ≤ x) : lack cs (hby (addW cs w)) ≤ w.sum := by
  obtain ⟨A, h1, h2, h3⟩ := addW_cnt cs w (hby (addW cs w)) hl hx
  have hle := hby_le (addW cs w)
  have := (h_char hle).mpr (Nat.le_refl _)
  have h4 := lack_min h1 (hby (addW cs w)) (by rw [h2]; exact this)
  exact Int.le_trans h4 h3
end K42
end
section
set_option Elab.async false
set_option linter.all false
set_option autoImplicit false
set_option maxRecDepth 100000
set_option maxHeartbeats 4000000
namespace K42
open PySem L2 CB
/-! the best putting -/
theorem leQ_trans (a b c : Int × Nat) : leQ a b = true → leQ b c = true → leQ a c = true := by
  unfold leQ
  simp only [decide_eq_true_eq]
  omega
theorem leQ_total (a b : Int × Nat) : (leQ a b || leQ b a) = true := by
  unfold leQ
  simp only [Bool.or_eq_true, decide_eq_true_eq]
  omega
theorem srt_perm (cs : List Int) : (srt cs).Perm (cs.zipIdx.map fun x => (-x.1, x.2)) := List.mergeSort_perm _ _
theorem srt_len (cs : List Int) : (srt cs).length = cs.length := by rw [(srt_perm cs).length_eq, List.length_map, List.length_zipIdx]
theorem srt_snd (cs : List Int) : ((srt cs).map (·.2)).Nodup := by
  have h := (srt_perm cs).map (·.2)
  rw [h.nodup_iff, List.map_map]
  have e : ((fun x : Int × Nat => x.2) ∘ fun x : Int × Nat => (-x.1, x.2)) = Prod.snd := rfl
  rw [e, List.zipIdx_map_snd]
  exact List.nodup_range'
theorem srt_fall (cs : List Int) : (srt cs).map (fun p => -p.1) = fall cs := by
  refine List.Perm.eq_of_pairwise (le := (· ≥ ·)) (fun a b _ _ h1 h2 => by omega) ?_ (fall_desc cs) ?_
  · rw [List.pairwise_map]
    have := List.pairwise_mergeSort (le := leQ) leQ_trans leQ_total (cs.zipIdx.map fun x => (-x.1, x.2))
    exact this.imp fun {a b} h => by
      unfold leQ at h
      simp only [decide_eq_true_eq] at h
      omega
  · refine ((srt_perm cs).map _).trans ?_
    rw [List.map_map]
    have e : ((fun p : Int × Nat => -p.1) ∘ fun x : Int × Nat => (-x.1, x.2)) = Prod.fst := by
      funext x
      simp
    rw [e, List.zipIdx_map_fst]
    exact (fall_perm cs).symm
theorem srt_at {cs : List Int} {p : Int × Nat} (h : p ∈ srt cs) : cs[p.2]? = some (-p.1) := by
  have := (srt_perm cs).mem_iff.mp h
  obtain ⟨x, hx, rfl⟩ := List.mem_map.mp this
  have := List.mem_zipIdx_iff_getElem?.mp hx
  simpa using this
theorem sum_set : ∀ (l : List Int) (k : Nat) (v x : Int), l[k]? = some x → (l.set k v).sum = l.sum - x + v
  | [], _, _, _, h => by simp at h
  | a :: l, 0, v, x, h => by
    have e : a = x := by simpa using h
    subst e
    rw [List.set_cons_zero, List.sum_cons, List.sum_cons]; omega
  | a :: l, k + 1, v, x, h => by
    rw [List.set_cons_succ, List.sum_cons, List.sum_cons, sum_set l k v x (by simpa using h)]; omega
theorem put_fold (h : Nat) : ∀ (ps : List (Int × Nat)) (l : List Int), (ps.map (·.2)).Nodup → (∀ p ∈ ps, l[p.2]? = some (-p.1)) →
    (ps.foldl (pstep h) l).length = l.length ∧ (ps.foldl (pstep h) l).sum = l.sum + (ps.map fun p => phi h (-p.1)).sum ∧ ∀ (k : Nat) (c : Int), l[k]? = some c → (ps.foldl (pstep h) l)[k]? = some (if k ∈ ps.map (·.2) then mx c h else c)
  | [], l, _, _ => ⟨rfl, by simp, fun k c hc => by simpa using hc⟩
  | p :: ps, l, hn, hp => by
    rw [List.map_cons, List.nodup_cons] at hn
    have hx := hp p List.mem_cons_self
    have hk := (List.getElem?_eq_some_iff.mp hx).1
    have hv : l.getD p.2 0 = -p.1 := by rw [List.getD, hx]; rfl
    have e : pstep h l p = l.set p.2 (mx (-p.1) h) := by unfold pstep; rw [hv]
    obtain ⟨h1, h2, h3⟩ := put_fold h ps (pstep h l p) hn.2 fun q hq => by
      rw [e, List.getElem?_set_ne (fun z => hn.1 (by rw [z]; exact List.mem_map_of_mem hq))]
      exact hp q (List.mem_cons_of_mem _ hq)
    rw [List.foldl_cons]
    refine ⟨by rw [h1, e, List.length_set], ?_, fun k c hc => ?_⟩
    · rw [h2, e, sum_set l p.2 _ _ hx, List.map_cons, List.sum_cons]
      unfold phi mx
      split <;> omega
    · by_cases hkp : k = p.2
      · subst hkp
        rw [hx] at hc
        cases hc
        rw [h3 p.2 (mx (-p.1) h) (by rw [e, List.getElem?_set_self hk]), if_neg hn.1, if_pos (by simp)]
      · rw [h3 k c (by rw [e, List.getElem?_set_ne (fun z => hkp z.symm)]; exact hc)]
        simp only [List.map_cons, List.mem_cons, hkp, false_or]
def ord (cs : List Int) (h : Nat) : List Nat := ((srt cs).take h).map (·.2)
theorem ord_nodup (cs : List Int) (h : Nat) : (ord cs h).Nodup := (srt_snd cs).sublist ((List.take_sublist h (srt cs)).map _)
theorem put_all (cs : List Int) (h : Nat) : (putS cs h).length = cs.length ∧ (putS cs h).sum = cs.sum + lack cs h ∧ ∀ (k : Nat) (c : Int), cs[k]? = some c → (putS cs h)[k]? = some (if k ∈ ord cs h then mx c h else c) := by
  have := put_fold h ((srt cs).take h) cs (ord_nodup cs h) fun p hp => srt_at (List.mem_of_mem_take hp)
  refine ⟨this.1, ?_, this.2.2⟩
  have e : ((srt cs).take h).map (fun p => phi h (-p.1)) = ((fall cs).take h).map (phi h) := by
    rw [← srt_fall, ← List.map_take, List.map_map]
    rfl
  rw [lack_eq, ← e]
  exact this.2.1
theorem cnt_nodup (p : Int → Bool) : ∀ (l : List Int), cnt p l = ((List.range l.length).filter fun i => p (l.getD i 0)).length := by
  intro l
  unfold cnt
  induction l with
  | nil => rfl
  | cons a l ih =>
    rw [List.length_cons, List.range_succ_eq_map]
    have e : ((List.range l.length).map Nat.succ).filter (fun i => p ((a :: l).getD i 0)) = ((List.range l.length).filter fun i => p (l.getD i 0)).map Nat.succ := by
      rw [List.filter_map]
      rfl
    cases hp : p a with
    | true =>
      rw [List.filter_cons_of_pos hp, List.filter_cons_of_pos (by simpa using hp), e, List.length_cons, List.length_cons, List.length_map, ih]
    | false =>
      rw [List.filter_cons_of_neg (by simp [hp]), List.filter_cons_of_neg (by simp [hp]), e, List.length_map, ih]
theorem put_h {cs : List Int} {h : Nat} (hh : h ≤ cs.length) : h ≤ hby (putS cs h) := by
  obtain ⟨h1, _, h3⟩ := put_all cs h
  refine (h_char (by rw [h1]; exact hh)).mp ?_
  unfold N
  rw [cnt_nodup]
  have hl : (ord cs h).length = h := by
    unfold ord
    rw [List.length_map, List.length_take, srt_len]; omega
  have := List.Nodup.length_le_of_subset (ord_nodup cs h) (l₂ := (List.range (putS cs h).length).filter fun i => decide ((h : Int) ≤ (putS cs h).getD i 0)) (by
    intro i hi
    have hi' := hi
    unfold ord at hi'
    obtain ⟨q, hq, rfl⟩ := List.mem_map.mp hi'
    have hq' := List.mem_of_mem_take hq
    have ha := srt_at hq'
    have hk := (List.getElem?_eq_some_iff.mp ha).1
    have hv := h3 q.2 _ ha
    rw [if_pos hi] at hv
    rw [List.mem_filter, List.mem_range, decide_eq_true_eq, h1]
    refine ⟨hk, ?_⟩
    rw [List.getD, hv]
    show (h : Int) ≤ mx (-q.1) h
    unfold mx
    split <;> omega)
  rw [hl] at this
  exact this
/-- the way of the best putting -/
def wayS (cs : List Int) (h : Nat) : List Int := List.zipWith (fun a b => a - b) (putS cs h) cs
theorem zip_sub_add : ∀ (a b : List Int), a.length = b.length → addW b (List.zipWith (fun x y => x - y) a b) = a
  | [], [], _ => rfl
  | x :: a, y :: b, h => by
    show (y + (x - y)) :: addW b (List.zipWith (fun x y => x - y) a b) = x :: a
    rw [zip_sub_add a b (by simpa using h)]
    congr 1
    omega
theorem zip_sub_sum : ∀ (a b : List Int), a.length = b.length → (List.zipWith (fun x y => x - y) a b).sum = a.sum - b.sum
  | [], [], _ => rfl
  | x :: a, y :: b, h => by
    rw [List.zipWith_cons_cons, List.sum_cons, List.sum_cons, List.sum_cons, zip_sub_sum a b (by simpa using h)]
    omega
theorem way_all {cs : List Int} (h : Nat) : (wayS cs h).length = cs.length ∧ addW cs (wayS cs h) = putS cs h ∧ (wayS cs h).sum = lack cs h ∧ ∀ x ∈ wayS cs h, 0 ≤ x := by
  obtain ⟨h1, h2, h3⟩ := put_all cs h
  refine ⟨by unfold wayS; rw [List.length_zipWith, h1, Nat.min_self], zip_sub_add _ _ h1, ?_, fun x hx => ?_⟩
  · unfold wayS
    rw [zip_sub_sum _ _ h1, h2]; omega
  · obtain ⟨i, hi, e⟩ := List.mem_iff_getElem.mp hx
    unfold wayS at hi e
    rw [List.length_zipWith, h1, Nat.min_self] at hi
    rw [List.getElem_zipWith] at e
    have ha := h3 i cs[i] (List.getElem?_eq_getElem hi)
    have hb : (putS cs h)[i]? = some (putS cs h)[i] := List.getElem?_eq_getElem (by rw [h1]; exact hi)
    rw [hb] at ha
    have hc := Option.some.inj ha
    rw [hc] at e
    subst e
    unfold mx
    split
    · split <;> omega
    · omega
end K42
end
section
set_option Elab.async false
set_option linter.all false
set_option autoImplicit false
set_option maxRecDepth 100000
set_option maxHeartbeats 4000000
namespace K42
open PySem L2 CB
theorem gNe_same {x : D} (hp : x.plain = true) (hd : x.depth ≤ 60) : gNe x x = some false := by
  unfold gNe okEq
  rw [if_pos (by simp [hp, hd]), eqv_refl x hp]; rfl
theorem gEq_same {x : D} (hp : x.plain = true) (hd : x.depth ≤ 60) : gEq x x = some true := by
  unfold gEq okEq
  rw [if_pos (by simp [hp, hd]), eqv_refl x hp]
theorem plain_L (cs : List Int) : (L cs).plain = true := by simp [L, PyData.plain]
theorem depth_L (cs : List Int) : (L cs).depth = 1 := by simp [L, PyData.depth]
theorem gIn_ints (a : Int) (ns : List Int) : gIn (.int a) (L ns) = some (decide (a ∈ ns)) := by
  have hk : okEq (.int a) (L ns) = true := by
    have h1 := plain_L ns
    unfold okEq
    simp [h1, PyData.plain, PyData.depth]
  have h : gIn (.int a) (L ns) = some ((ns.map PyData.int).any fun x => PyData.eqv x (.int a)) := by
    show (if okEq (.int a) (L ns) = true then _ else none) = _
    rw [if_pos hk]
  rw [h]
  congr 1
  rw [List.any_map]
  clear h hk
  induction ns with
  | nil => rfl
  | cons n ns ih =>
    rw [List.any_cons, ih]
    show ((n == a) || decide (a ∈ ns)) = _
    by_cases e : n = a
    · subst e; simp
    · have e' : ¬ a = n := fun z => e z.symm
      simp [e, e']
/-! the law of the best putting -/
theorem addW_get {cs w : List Int} {k : Nat} {c x : Int} (hc : cs[k]? = some c) (hx : w[k]? = some x) : (addW cs w)[k]? = some (c + x) := by
  unfold addW
  rw [List.getElem?_zipWith, hc, hx]
theorem range_eq {α : Type} (xs : List α) (f : Nat → α) (h : ∀ k x, xs[k]? = some x → f k = x) : (List.range xs.length).map f = xs := by
  apply List.ext_getElem?
  intro k
  rw [List.getElem?_map]
  by_cases hk : k < xs.length
  · rw [List.getElem?_range hk, List.getElem?_eq_getElem hk]
    exact congrArg some (h k _ (List.getElem?_eq_getElem hk))
  · rw [List.getElem?_eq_none (by simpa using hk), List.getElem?_eq_none (by omega)]; rfl
noncomputable abbrev q1 : CB.Env → Sto → R D := dLC (iR1 (aCons (dCal (g1 fLen) (aCons (dV 0) (aNil))) (aNil))) [10] (gN 10) (dYes) (dOp2 oAddA (dOp2 oIx (dV 0) (dV 10)) (dOp2 oIx (dV 9) (dV 10)))
theorem q1_ok {cs w : List Int} (hl : cs.length = w.length) (h : cs.length ≤ 1000) (e1 e2 e3 e4 e5 e6 e7 e8 e10 e11 e12 : Option SV) : q1 [some (.d (L cs)), e1, e2, e3, e4, e5, e6, e7, e8, some (.d (encT w)), e10, e11, e12] [] = .ok (L (addW cs w)) [] := by
  have hA := addW_len hl
  rw [q1, dLC_all (fun i : Nat => PyData.int (i : Int)) (fun k => .int ((addW cs w).getD k 0)) (List.range cs.length) (chk := fun _ => true) (st1 := []) (iR1_ok (n := cs.length) (by simp) (by omega)) rfl (by rw [List.length_range, lim_eq]; omega) (fun k hk => ⟨_, rfl, by
    have hk' := List.mem_range.mp hk
    have hc : cs[k]? = some cs[k] := List.getElem?_eq_getElem hk'
    have hw : w[k]? = some w[k] := List.getElem?_eq_getElem (by omega)
    have h1 := oIx_ints hc
    have h2 : oIx (encT w) (.int (k : Int)) = some (.int w[k]) := oIx_natT (by rw [List.getElem?_map, hw]; rfl)
    have h3 := addW_get hc hw
    have h4 : (addW cs w).getD k 0 = cs[k] + w[k] := by rw [List.getD, h3]; rfl
    rw [h4]
    simp [h1, h2]⟩)]
  have e : (List.range cs.length).map (fun k => PyData.int ((addW cs w).getD k 0)) = (addW cs w).map .int := by
    rw [← hA]
    have := range_eq (addW cs w) (fun k => (addW cs w).getD k 0) (fun k x hx => by rw [List.getD, hx]; rfl)
    conv => rhs; rw [← this]
    rw [List.map_map]; rfl
  rw [e]
theorem wys_lim {n : Nat} (h : n ≤ 5) : (wys n).length ≤ lim := by
  have h1 := wys_len n
  have h2 : 5 ^ n ≤ 5 ^ 5 := Nat.pow_le_pow_right (by decide) h
  rw [lim_eq]; omega
theorem q2_ok {cs : List Int} (h : cs.length ≤ 5) (m : Int) (e1 e4 e5 e6 e7 e8 e9 e10 e11 e12 : Option SV) : dLC (iL (dV 2)) [9] (gN 9) (dTest (dOp2 (oB gLe) (dCal (g1 fSumA) (aCons (dV 9) (aNil))) (dV 3))) (dCallP 1 den__law_h (aCons (dNew q1) (aNil))) [some (.d (L cs)), e1, some (.d (.list ((wys cs.length).map encT))), some (.d (.int m)), e4, e5, e6, e7, e8, e9, e10, e11, e12] [] =
    .ok (L (((wys cs.length).filter fun w => decide (w.sum ≤ m)).map fun w => (hby (addW cs w) : Int))) [] := by
  rw [dLC_map encT (fun w => decide (w.sum ≤ m)) (fun w => .int (hby (addW cs w))) (wys cs.length) (chk := fun _ => true) (st1 := []) (iL_of (by simp)) rfl (wys_lim h) (fun w hw => ⟨_, rfl, by
    have hs : fSumA (encT w) = some (.int w.sum) := fSum_tup w
    simp [hs], fun _ => by
    have hw' := (wys_mem _ w).mp hw
    have hq := q1_ok (cs := cs) (w := w) hw'.len.symm (by omega) e1 (some (.d (.list ((wys cs.length).map encT)))) (some (.d (.int m))) e4 e5 e6 e7 e8 e10 e11 e12
    have hl := lawh (cs := addW cs w) (by rw [addW_len hw'.len.symm]; omega)
    generalize hby (addW cs w) = z at *
    simp only [wipeE_cons, wipeE_nil, List.set, e_dCallP, e_aCons, e_dNew, hq, R.bind_ok, eq_aNil, callP1 hl]⟩)]
  unfold L
  rw [List.map_map]
  rfl
theorem hby_put {cs : List Int} (h : ∀ c ∈ cs, 0 ≤ c) {m : Int} (hm : 0 ≤ m) : hby (putS cs (most cs m)) = most cs m := by
  obtain ⟨h1, h2, h3⟩ := most_char cs hm
  obtain ⟨w1, w2, w3, w4⟩ := way_all (cs := cs) (most cs m)
  have ha := put_h h1
  have hb := way_bound w1.symm w4
  rw [w2, w3] at hb
  have hc := h3 (hby (putS cs (most cs m))) (by
    have := hby_le (putS cs (most cs m))
    rw [(put_all cs (most cs m)).1] at this
    exact this) (by omega)
  omega
theorem best_max {cs : List Int} (h : ∀ c ∈ cs, 0 ≤ c) {m : Int} (hm : 0 ≤ m) (hm4 : m ≤ 4) : fMaxL (L (((wys cs.length).filter fun w => decide (w.sum ≤ m)).map fun w => (hby (addW cs w) : Int))) = some (.int (most cs m)) := by
  obtain ⟨h1, h2, h3⟩ := most_char cs hm
  obtain ⟨w1, w2, w3, w4⟩ := way_all (cs := cs) (most cs m)
  have hp := hby_put h hm
  refine fMaxL_of ?_ ?_
  · rw [List.mem_map]
    refine ⟨wayS cs (most cs m), ?_, by rw [w2, hp]⟩
    rw [List.mem_filter, wys_mem, decide_eq_true_eq]
    exact ⟨⟨w1, w4, by omega⟩, by omega⟩
  · intro x hx
    obtain ⟨w, hw, rfl⟩ := List.mem_map.mp hx
    rw [List.mem_filter, wys_mem, decide_eq_true_eq] at hw
    obtain ⟨⟨a, b, c⟩, d⟩ := hw
    have hb := way_bound a.symm b
    have := h3 (hby (addW cs w)) (by
      have := hby_le (addW cs w)
      rw [addW_len a.symm] at this
      exact this) (by omega)
    omega
end K42
end
section
set_option Elab.async false
set_option linter.all false
set_option autoImplicit false
set_option maxRecDepth 100000
set_option maxHeartbeats 4000000
namespace K42
open PySem L2 CB
theorem fMax2_mx (a b : Int) : fMax2 (.int a) (.int b) = some (.int (mx a b)) := rfl
/-- the order -/
theorem q3_ok {cs : List Int} (h : cs.length ≤ 5) (M : Nat) (e1 e2 e3 e5 e6 e7 e8 e9 e10 e11 e12 : Option SV) :
    (dSl (dNew (dLC (iL (dNew (nCal (g1 fSorted) (aCons (dNew (dLC (iR1 (aCons (dCal (g1 fLen) (aCons (dV 0) (aNil))) (aNil))) [10] (gN 10) (dYes) (dTup (aCons (dOp2 oSub (dC (.int 0)) (dOp2 oIx (dV 0) (dV 10))) (aCons (dV 10) (aNil)))))) (aNil))))) [11, 10] (gT 2 (gConsD (gN 11) (gConsD (gN 10) (gNilD)))) (dYes) (dV 10))) (pNo) (pAt (dV 4))) [some (.d (L cs)), e1, e2, e3, some (.d (.int (M : Int))), e5, e6, e7, e8, e9, e10, e11, e12] [] = .ok (L ((ord cs M).map fun k : Nat => (k : Int))) [] := by
  have h2 : (2 : Nat) ≤ lim := by decide
  have hlim : cs.length ≤ lim := by rw [lim_eq]; omega
  have hpairs : (dLC (iR1 (aCons (dCal (g1 fLen) (aCons (dV 0) (aNil))) (aNil))) [10] (gN 10) (dYes) (dTup (aCons (dOp2 oSub (dC (.int 0)) (dOp2 oIx (dV 0) (dV 10))) (aCons (dV 10) (aNil))))) [some (.d (L cs)), e1, e2, e3, some (.d (.int (M : Int))), e5, e6, e7, e8, e9, e10, e11, e12] [] = .ok (.list ((cs.zipIdx.map fun x => (-x.1, x.2)).map encQ)) [] := by
    rw [dLC_all (fun i : Nat => PyData.int (i : Int)) (fun k => encQ (-(cs.getD k 0), k)) (List.range cs.length) (chk := fun _ => true) (st1 := []) (iR1_ok (n := cs.length) (by simp) (by omega)) rfl (by rw [List.length_range]; exact hlim) (fun k hk => ⟨_, rfl, by
      have hk' := List.mem_range.mp hk
      have hc : cs[k]? = some cs[k] := List.getElem?_eq_getElem hk'
      have h1 := oIx_ints hc
      have h4 : cs.getD k 0 = cs[k] := by rw [List.getD, hc]; rfl
      rw [h4]
      simp [h1, h2, encQ]⟩)]
    have e : (List.range cs.length).map (fun k => encQ (-(cs.getD k 0), k)) = (cs.zipIdx.map fun x => (-x.1, x.2)).map encQ := by
      have hl : ((cs.zipIdx.map fun x => (-x.1, x.2)).map encQ).length = cs.length := by simp
      rw [← hl]
      refine range_eq _ _ fun k x hx => ?_
      rw [List.map_map, List.getElem?_map, List.getElem?_zipIdx] at hx
      cases hc : cs[k]? with
      | none => rw [hc] at hx; cases hx
      | some c =>
        rw [hc] at hx
        cases hx
        rw [List.getD, hc]
        simp
    rw [e]
  have hs := fSorted_Q (ps := cs.zipIdx.map fun x => (-x.1, x.2)) (by simpa using hlim)
  have hs' : fSorted (.list ((cs.zipIdx.map fun x => (-x.1, x.2)).map encQ)) = some (.list ((srt cs).map encQ)) := hs
  simp only [e_dSl, e_dNew, e_aCons, eq_aNil]
  rw [dLC_all encQ (fun p => .int (p.2 : Int)) (srt cs) (chk := fun _ => true) (st1 := []) (iL_of (by
    simp only [e_dNew, e_nCal, e_aCons, hpairs, R.bind_ok, eq_aNil, derL_cons, derL_nil, der_d, Option.bind_some, Option.map_some, g1_one, hs'])) rfl (by rw [srt_len]; exact hlim) (fun p _ => ⟨_, rfl, rfl⟩)]
  simp [cutD_take]
  unfold ord
  rw [← List.map_take, List.map_map]
  rfl
/-- what is due of the putting -/
theorem q4_ok {cs : List Int} (h : cs.length ≤ 5) (M : Nat) (e1 e2 e3 e5 e7 e8 e9 e10 e11 e12 : Option SV) :
    (dLC (iR1 (aCons (dCal (g1 fLen) (aCons (dV 0) (aNil))) (aNil))) [10] (gN 10) (dYes) (dIf (dTest (dOp2 (oB gIn) (dV 10) (dV 6))) (dCal (g2 fMax2) (aCons (dOp2 oIx (dV 0) (dV 10)) (aCons (dV 4) (aNil)))) (dOp2 oIx (dV 0) (dV 10)))) [some (.d (L cs)), e1, e2, e3, some (.d (.int (M : Int))), e5, some (.d (L ((ord cs M).map fun k : Nat => (k : Int)))), e7, e8, e9, e10, e11, e12] [] = .ok (L (putS cs M)) [] := by
  have hlim : cs.length ≤ lim := by rw [lim_eq]; omega
  obtain ⟨p1, p2, p3⟩ := put_all cs M
  rw [dLC_all (fun i : Nat => PyData.int (i : Int)) (fun k => .int ((putS cs M).getD k 0)) (List.range cs.length) (chk := fun _ => true) (st1 := []) (iR1_ok (n := cs.length) (by simp) (by omega)) rfl (by rw [List.length_range]; exact hlim) (fun k hk => ⟨_, rfl, by
    have hk' := List.mem_range.mp hk
    have hc : cs[k]? = some cs[k] := List.getElem?_eq_getElem hk'
    have h1 := oIx_ints hc
    have h3 := p3 k _ hc
    have h4 : (putS cs M).getD k 0 = if k ∈ ord cs M then mx cs[k] M else cs[k] := by rw [List.getD, h3]; rfl
    rw [h4]
    have hin := gIn_ints (k : Int) ((ord cs M).map fun k : Nat => (k : Int))
    have hmem : ((k : Int) ∈ (ord cs M).map fun k : Nat => (k : Int)) ↔ k ∈ ord cs M := by
      rw [List.mem_map]
      constructor
      · rintro ⟨j, hj, e⟩
        have : j = k := by omega
        subst this; exact hj
      · intro h; exact ⟨k, h, rfl⟩
    by_cases hm : k ∈ ord cs M
    · rw [decide_eq_true (hmem.mpr hm)] at hin
      generalize ord cs M = o at *
      simp only [wipeE_cons, wipeE_nil, List.set, e_dIf, e_dTest, e_dOp2, e_dV, e_dCal, e_aCons, eq_aNil, List.getElem?_cons_succ, List.getElem?_cons_zero, R.bind_ok, der_d, oB_of hin, h1, fMax2_mx, derL_cons, derL_nil, Option.bind_some, Option.map_some, g2_two, if_true, if_pos hm]
    · rw [decide_eq_false (fun h => hm (hmem.mp h))] at hin
      generalize ord cs M = o at *
      simp only [wipeE_cons, wipeE_nil, List.set, e_dIf, e_dTest, e_dOp2, e_dV, e_dCal, e_aCons, eq_aNil, List.getElem?_cons_succ, List.getElem?_cons_zero, R.bind_ok, der_d, oB_of hin, h1, Bool.false_eq_true, if_false, if_neg hm]⟩)]
  have e : (List.range cs.length).map (fun k => PyData.int ((putS cs M).getD k 0)) = (putS cs M).map .int := by
    rw [← p1]
    have := range_eq (putS cs M) (fun k => (putS cs M).getD k 0) (fun k x hx => by rw [List.getD, hx]; rfl)
    conv => rhs; rw [← this]
    rw [List.map_map]; rfl
  rw [e]
end K42
end
section
set_option Elab.async false
set_option linter.all false
set_option autoImplicit false
set_option maxRecDepth 100000
set_option maxHeartbeats 4000000
namespace K42
open PySem L2 CB
theorem callP3' {den : Den} {x y w z : D} {st st0 : Sto} (h : den [.d x, .d y, .d w] [] = .ok (.d z) st0) : callP 3 den [.d x, .d y, .d w] st = .ok (.d z) st := callP3 h
theorem told11 {cs : List Int} (h : Good cs) {m : Int} (hm : 0 ≤ m) : den__law_told [.d (.int 11), .d (L cs), .d (.int m)] [] = .ok (.d (L (putS cs (most cs m)))) [] := told_hi (w := 2) (L cs) (.int m) _ rfl (best_ok h hm)
theorem told10 {cs : List Int} (h : Good cs) {m : Int} (hm : 0 ≤ m) : den__law_told [.d (.int 10), .d (L cs), .d (.int m)] [] = .ok (.d (.int (most cs m))) [] := told_hi (w := 1) (L cs) (.int m) _ rfl (h_with_ok h hm)
theorem told9 {cs : List Int} (h : Good cs) (b : Bool) : den__law_told [.d (.int 9), .d (L cs), .d (.bool b)] [] = .ok (.d (if cs.length < hby cs + 1 ∧ b = false then .none else .int (lack (cs ++ [0]) (hby cs + 1)))) [] := told_hi (w := 0) (L cs) (.bool b) _ rfl (next_ok h b)
theorem gNe_L (cs : List Int) : gNe (L cs) (L cs) = some false := gNe_same (plain_L cs) (by rw [depth_L]; decide)
noncomputable abbrev v3 : CB.Env → Sto → R Bool := (tdOr (dTest (dOp2 (oB gNe) (dCallP 3 den__law_told (aCons (dC (.int 10)) (aCons (dV 0) (aCons (dV 3) (aNil))))) (dV 4))) (tdOr (tdNot (dTru (dIsi "list" (dV 5)))) (tdOr (dTest (dOp2 (oB gNe) (dCal (g1 fLen) (aCons (dV 5) (aNil))) (dCal (g1 fLen) (aCons (dV 0) (aNil))))) (tdOr (dTest (dOp2 (oB gNe) (dCallP 1 den__law_h (aCons (dV 5) (aNil))) (dV 4))) (dTest (dOp2 (oB gGt) (dOp2 oSub (dCal (g1 fSumA) (aCons (dV 5) (aNil))) (dCal (g1 fSumA) (aCons (dV 0) (aNil)))) (dV 3)))))))
theorem v3_ok {cs : List Int} (h : Good cs) (h5 : cs.length ≤ 5) {m : Int} (hm : 0 ≤ m) (e1 e2 e6 e7 e8 e9 e10 e11 e12 : Option SV) :
    v3 [some (.d (L cs)), e1, e2, some (.d (.int m)), some (.d (.int (most cs m))), some (.d (L (putS cs (most cs m)))), e6, e7, e8, e9, e10, e11, e12] [] = .ok false [] := by
  have t10 := told10 h hm
  obtain ⟨p1, p2, p3⟩ := put_all cs (most cs m)
  obtain ⟨c1, c2, c3⟩ := most_char cs hm
  have hp := hby_put (fun c hc => (h.2 c hc).1) hm
  have hl := lawh (cs := putS cs (most cs m)) (by rw [p1]; omega)
  rw [hp] at hl
  generalize putS cs (most cs m) = pt at *
  generalize most cs m = M at *
  generalize lack cs M = lk at *
  have hs : ¬ m < pt.sum - cs.sum := by omega
  simp [callP3' t10, callP1 hl, p1, hs]
noncomputable abbrev vB : dS := dSeq (dAsg 4 (dCal (g1 fMaxL) (aCons (dNew (dLC (iL (dV 2)) [9] (gN 9) (dTest (dOp2 (oB gLe) (dCal (g1 fSumA) (aCons (dV 9) (aNil))) (dV 3))) (dCallP 1 den__law_h (aCons (dNew q1) (aNil))))) (aNil)))) (
  dSeq (dAsg 5 (dCallP 3 den__law_told (aCons (dC (.int 11)) (aCons (dV 0) (aCons (dV 3) (aNil)))))) (
  dSeq (dIfS v3 (dSeq (dRet (dC (.bool false))) (dSkip)) (dSkip)) (
  dSeq (dAsg 6 (dNew (dSl (dNew (dLC (iL (dNew (nCal (g1 fSorted) (aCons (dNew (dLC (iR1 (aCons (dCal (g1 fLen) (aCons (dV 0) (aNil))) (aNil))) [10] (gN 10) (dYes) (dTup (aCons (dOp2 oSub (dC (.int 0)) (dOp2 oIx (dV 0) (dV 10))) (aCons (dV 10) (aNil)))))) (aNil))))) [11, 10] (gT 2 (gConsD (gN 11) (gConsD (gN 10) (gNilD)))) (dYes) (dV 10))) (pNo) (pAt (dV 4))))) (
  dSeq (dIfS (dTest (dOp2 (oB gNe) (dV 5) (dNew (dLC (iR1 (aCons (dCal (g1 fLen) (aCons (dV 0) (aNil))) (aNil))) [10] (gN 10) (dYes) (dIf (dTest (dOp2 (oB gIn) (dV 10) (dV 6))) (dCal (g2 fMax2) (aCons (dOp2 oIx (dV 0) (dV 10)) (aCons (dV 4) (aNil)))) (dOp2 oIx (dV 0) (dV 10))))))) (
  dSeq (dRet (dC (.bool false))) (dSkip)) (dSkip)) (dSkip)))))
theorem vB_ok {cs : List Int} (h : Good cs) (h5 : cs.length ≤ 5) {m : Int} (hm : 0 ≤ m) (hm4 : m ≤ 4) (e1 e4 e5 e6 : Option SV) : ∃ e4' e5' e6',
    vB [some (.d (L cs)), e1, some (.d (.list ((wys cs.length).map encT))), some (.d (.int m)), e4, e5, e6, none, none, none, none, none, none] [] = .nx [some (.d (L cs)), e1, some (.d (.list ((wys cs.length).map encT))), some (.d (.int m)), e4', e5', e6', none, none, none, none, none, none] [] := by
  have hx := best_max (cs := cs) (fun c hc => (h.2 c hc).1) hm hm4
  have hq2 := q2_ok (cs := cs) h5 m e1 e4 e5 e6 none none none none none none
  have ht := told11 h hm
  have hv := v3_ok h h5 hm e1 (some (.d (.list ((wys cs.length).map encT)))) e6 none none none none none none
  have hq3 := q3_ok h5 (most cs m) e1 (some (.d (.list ((wys cs.length).map encT)))) (some (.d (.int m))) (some (.d (L (putS cs (most cs m))))) e6 none none none none none none
  have hq4 := q4_ok h5 (most cs m) e1 (some (.d (.list ((wys cs.length).map encT)))) (some (.d (.int m))) (some (.d (L (putS cs (most cs m))))) none none none none none none
  have hne := gNe_L (putS cs (most cs m))
  generalize putS cs (most cs m) = pt at *
  generalize most cs m = M at *
  generalize L (((wys cs.length).filter fun w => decide (w.sum ≤ m)).map fun w => (hby (addW cs w) : Int)) = bl at *
  generalize L ((ord cs M).map fun k : Nat => (k : Int)) = ol at *
  generalize PyData.list ((wys cs.length).map encT) = wl at *
  refine ⟨some (.d (.int M)), some (.d (L pt)), some (.d ol), ?_⟩
  have s1 : dAsg 4 (dCal (g1 fMaxL) (aCons (dNew (dLC (iL (dV 2)) [9] (gN 9) (dTest (dOp2 (oB gLe) (dCal (g1 fSumA) (aCons (dV 9) (aNil))) (dV 3))) (dCallP 1 den__law_h (aCons (dNew q1) (aNil))))) (aNil))) [some (.d (L cs)), e1, some (.d wl), some (.d (.int m)), e4, e5, e6, none, none, none, none, none, none] [] = .nx [some (.d (L cs)), e1, some (.d wl), some (.d (.int m)), some (.d (.int M)), e5, e6, none, none, none, none, none, none] [] := by
    simp only [e_dAsg, e_dCal, e_aCons, e_dNew, hq2, R.bind_ok, eq_aNil, derL_cons, derL_nil, der_d, Option.bind_some, Option.map_some, g1_one, hx, R.bO_ok, List.set]
  have s2 : dAsg 5 (dCallP 3 den__law_told (aCons (dC (.int 11)) (aCons (dV 0) (aCons (dV 3) (aNil))))) [some (.d (L cs)), e1, some (.d wl), some (.d (.int m)), some (.d (.int M)), e5, e6, none, none, none, none, none, none] [] = .nx [some (.d (L cs)), e1, some (.d wl), some (.d (.int m)), some (.d (.int M)), some (.d (L pt)), e6, none, none, none, none, none, none] [] := by
    simp [callP3' ht]
  have s3 : dIfS v3 (dSeq (dRet (dC (.bool false))) (dSkip)) (dSkip) [some (.d (L cs)), e1, some (.d wl), some (.d (.int m)), some (.d (.int M)), some (.d (L pt)), e6, none, none, none, none, none, none] [] = .nx [some (.d (L cs)), e1, some (.d wl), some (.d (.int m)), some (.d (.int M)), some (.d (L pt)), e6, none, none, none, none, none, none] [] := by
    rw [e_dIfS, hv]
    rfl
  show dSeq _ _ _ _ = _
  rw [seq_nx s1, seq_nx s2, seq_nx s3]
  rw [seq_nx (by rw [e_dAsg, e_dNew, hq3]; rfl)]
  have s5 : dTest (dOp2 (oB gNe) (dV 5) (dNew (dLC (iR1 (aCons (dCal (g1 fLen) (aCons (dV 0) (aNil))) (aNil))) [10] (gN 10) (dYes) (dIf (dTest (dOp2 (oB gIn) (dV 10) (dV 6))) (dCal (g2 fMax2) (aCons (dOp2 oIx (dV 0) (dV 10)) (aCons (dV 4) (aNil)))) (dOp2 oIx (dV 0) (dV 10)))))) [some (.d (L cs)), e1, some (.d wl), some (.d (.int m)), some (.d (.int M)), some (.d (L pt)), some (.d ol), none, none, none, none, none, none] [] = .ok false [] := by
    simp only [e_dTest, e_dOp2, e_dV, e_dNew, hq4, R.bind_ok, List.getElem?_cons_succ, List.getElem?_cons_zero, der_d, oB_of hne]
  simp only [List.set, e_dSeq, e_dIfS, s5, R.bO_ok, Bool.false_eq_true, if_false, eq_dSkip]
end K42
end
section
set_option Elab.async false
set_option linter.all false
set_option autoImplicit false
set_option maxRecDepth 100000
set_option maxHeartbeats 4000000
namespace K42
open PySem L2 CB
theorem fall_snoc {cs : List Int} (h : ∀ c ∈ cs, 0 ≤ c) : fall (cs ++ [0]) = fall cs ++ [0] := by
  refine List.Perm.eq_of_pairwise (le := (· ≥ ·)) (fun a b _ _ h1 h2 => by omega) (fall_desc _) ?_ ?_
  · rw [List.pairwise_append]
    refine ⟨fall_desc cs, List.pairwise_singleton _ _, fun a ha b hb => ?_⟩
    rw [List.mem_singleton.mp hb]
    exact h a ((fall_perm cs).mem_iff.mp ha)
  · exact (fall_perm _).trans ((fall_perm cs).symm.append_right [0])
theorem lack_snoc {cs : List Int} (h : ∀ c ∈ cs, 0 ≤ c) {k : Nat} (hk : k ≤ cs.length) : lack (cs ++ [0]) k = lack cs k := by
  rw [lack_eq, lack_eq, fall_snoc h, List.take_append_of_le_length (by rw [fall_len]; exact hk)]
theorem lack_all (cs : List Int) {k : Nat} (hk : cs.length + 1 ≤ k) : lack (cs ++ [0]) k = ((cs ++ [0]).map (phi k)).sum := by
  rw [lack_eq, List.take_of_length_le (by rw [fall_len]; simp; omega)]
  exact perm_sum ((fall_perm _).map _)
theorem gNe_nil (S : List Int) : gNe (L S) (.list []) = some (!S.isEmpty) := by
  have hk : okEq (L S) (.list []) = true := by
    have h1 := plain_L S
    unfold okEq
    simp [h1, PyData.plain, PyData.plainAll, PyData.depth, PyData.depthAll]
  unfold gNe
  rw [if_pos hk]
  cases S <;> rfl
def stepsS (cs : List Int) : List Int := ((wys cs.length).filter fun w => decide (hby cs < hby (addW cs w))).map fun w => w.sum
theorem q7_ok {cs : List Int} (h : cs.length ≤ 5) (e3 e4 e5 e6 e7 e8 e9 e10 e11 e12 : Option SV) : dLC (iL (dV 2)) [9] (gN 9) (dTest (dOp2 (oB gGt) (dCallP 1 den__law_h (aCons (dNew q1) (aNil))) (dV 1))) (dCal (g1 fSumA) (aCons (dV 9) (aNil))) [some (.d (L cs)), some (.d (.int (hby cs))), some (.d (.list ((wys cs.length).map encT))), e3, e4, e5, e6, e7, e8, e9, e10, e11, e12] [] =
    .ok (L (stepsS cs)) [] := by
  rw [dLC_map encT (fun w => decide (hby cs < hby (addW cs w))) (fun w => .int w.sum) (wys cs.length) (chk := fun _ => true) (st1 := []) (iL_of (by simp)) rfl (wys_lim h) (fun w hw => ⟨_, rfl, by
    have hw' := (wys_mem _ w).mp hw
    have hq := q1_ok (cs := cs) (w := w) hw'.len.symm (by omega) (some (.d (.int (hby cs)))) (some (.d (.list ((wys cs.length).map encT)))) e3 e4 e5 e6 e7 e8 e10 e11 e12
    have hl := lawh (cs := addW cs w) (by rw [addW_len hw'.len.symm]; omega)
    generalize hby (addW cs w) = z at *
    generalize hby cs = y at *
    have hd : decide ((y : Int) < (z : Int)) = decide (y < z) := by
      by_cases e : y < z
      · rw [decide_eq_true e, decide_eq_true (by omega)]
      · rw [decide_eq_false e, decide_eq_false (by omega)]
    simp only [wipeE_cons, wipeE_nil, List.set, e_dTest, e_dOp2, e_dV, e_dCallP, e_aCons, e_dNew, hq, R.bind_ok, eq_aNil, callP1 hl, List.getElem?_cons_succ, List.getElem?_cons_zero, der_d, oB_of gGt_int, hd], fun _ => by
    have hs : fSumA (encT w) = some (.int w.sum) := fSum_tup w
    simp [hs]⟩)]
  unfold stepsS L
  rw [List.map_map]
  rfl
/-- the least that one more takes -/
theorem steps_char {cs : List Int} (h : ∀ c ∈ cs, 0 ≤ c) (hl : hby cs < cs.length) : (lack cs (hby cs + 1) ≤ 4 ∧ lack cs (hby cs + 1) ∈ stepsS cs ∧ ∀ x ∈ stepsS cs, lack cs (hby cs + 1) ≤ x) ∨ (4 < lack cs (hby cs + 1) ∧ stepsS cs = []) := by
  have low : ∀ w, w ∈ wys cs.length → hby cs < hby (addW cs w) → lack cs (hby cs + 1) ≤ w.sum := fun w hw hh => by
    obtain ⟨a, b, _⟩ := (wys_mem _ w).mp hw
    exact Int.le_trans (lack_mono cs (show hby cs + 1 ≤ hby (addW cs w) by omega)) (way_bound a.symm b)
  have allx : ∀ x ∈ stepsS cs, lack cs (hby cs + 1) ≤ x := fun x hx => by
    unfold stepsS at hx
    obtain ⟨w, hw, rfl⟩ := List.mem_map.mp hx
    rw [List.mem_filter, decide_eq_true_eq] at hw
    exact low w hw.1 hw.2
  by_cases h4 : lack cs (hby cs + 1) ≤ 4
  · refine .inl ⟨h4, ?_, allx⟩
    obtain ⟨w1, w2, w3, w4⟩ := way_all (cs := cs) (hby cs + 1)
    unfold stepsS
    rw [List.mem_map]
    refine ⟨wayS cs (hby cs + 1), ?_, w3⟩
    rw [List.mem_filter, wys_mem, decide_eq_true_eq, w2]
    have := put_h (cs := cs) (h := hby cs + 1) (by omega)
    exact ⟨⟨w1, w4, by omega⟩, by omega⟩
  · refine .inr ⟨by omega, ?_⟩
    unfold stepsS
    rw [List.map_eq_nil_iff, List.filter_eq_nil_iff]
    intro w hw hh
    rw [decide_eq_true_eq] at hh
    have := low w hw hh
    have := ((wys_mem _ w).mp hw).le
    omega
noncomputable abbrev uT : dS := dSeq (dAsg 8 (dCallP 3 den__law_told (aCons (dC (.int 9)) (aCons (dV 0) (aCons (dC (.bool false)) (aNil)))))) (
  dSeq (dIfS (dTest (dOp2 (oB gLe) (dCal (g1 fLen) (aCons (dV 0) (aNil))) (dV 1))) (
  dSeq (dRet (dAnd (dOp2 (oB gIs) (dV 8) (dC .none)) (dOp2 (oB gEq) (dCallP 3 den__law_told (aCons (dC (.int 9)) (aCons (dV 0) (aCons (dC (.bool true)) (aNil))))) (dCal (g1 fSumA) (aCons (dNew (dLC (iL (dOp2 oAddA (dV 0) (dNew (nLst (aCons (dC (.int 0)) (aNil)))))) [12] (gN 12) (dYes) (dCal (g2 fMax2) (aCons (dC (.int 0)) (aCons (dOp2 oSub (dOp2 oAddA (dV 1) (dC (.int 1))) (dV 12)) (aNil)))))) (aNil)))))) (dSkip)) (dSkip)) (
  dSeq (dRet (dAnd (dIf (dTest (dOp2 (oB gNe) (dV 7) (dNew (nLst (aNil))))) (dOp2 (oB gEq) (dV 8) (dCal (g1 fMinL) (aCons (dV 7) (aNil)))) (dOp2 (oB gGt) (dV 8) (dC (.int 4)))) (dOp2 (oB gEq) (dCallP 3 den__law_told (aCons (dC (.int 9)) (aCons (dV 0) (aCons (dC (.bool true)) (aNil))))) (dV 8)))) (dSkip)))
theorem uT_ok {cs : List Int} (h : Good cs) (h5 : cs.length ≤ 5) (e2 e3 e4 e5 e6 e8 : Option SV) : uT [some (.d (L cs)), some (.d (.int (hby cs))), e2, e3, e4, e5, e6, some (.d (L (stepsS cs))), e8, none, none, none, none] [] = .rt (.d (.bool true)) [] := by
  have tf := told9 h false
  have tt := told9 h true
  have hnn : ∀ c ∈ cs, 0 ≤ c := fun c hc => (h.2 c hc).1
  have hle := hby_le cs
  have h1 : (1 : Nat) ≤ lim := by decide
  have h0 : (0 : Nat) ≤ lim := by decide
  by_cases hc : cs.length < hby cs + 1
  · -- all of them in
    have hla := lack_all cs (k := hby cs + 1) (by omega)
    rw [if_pos ⟨hc, rfl⟩] at tf
    rw [if_neg (by simp)] at tt
    have hcat : oAddA (L cs) (.list [.int 0]) = some (L (cs ++ [0])) := by
      have := oCat_ok (xs := cs.map PyData.int) (ys := [.int 0]) (by rw [lim_eq]; simp; omega)
      rw [this]
      simp [L]
    have hcomp : dLC (iL (dOp2 oAddA (dV 0) (dNew (nLst (aCons (dC (.int 0)) (aNil)))))) [12] (gN 12) (dYes) (dCal (g2 fMax2) (aCons (dC (.int 0)) (aCons (dOp2 oSub (dOp2 oAddA (dV 1) (dC (.int 1))) (dV 12)) (aNil)))) [some (.d (L cs)), some (.d (.int (hby cs))), e2, e3, e4, e5, e6, some (.d (L (stepsS cs))), some (.d .none), none, none, none, none] [] = .ok (.list ((cs ++ [0]).map fun c => .int (phi (hby cs + 1) c))) [] := by
      rw [dLC_all PyData.int (fun c => .int (phi (hby cs + 1) c)) (cs ++ [0]) (chk := fun _ => true) (st1 := []) (iL_of (by
        simp only [e_dOp2, e_dV, e_dNew, e_nLst, e_aCons, eq_dC, eq_aNil, R.bind_ok, List.getElem?_cons_zero, der_d, unD_d, unD_nil, Option.map_some, List.length_singleton, h1, if_true, hcat])) rfl (by rw [lim_eq]; simp; omega) (fun c _ => ⟨_, rfl, by
        generalize hby cs = n at *
        simp [phi]
        omega⟩)]
    have hc' : (cs.length : Int) ≤ (hby cs : Int) := by omega
    rw [hla] at tt
    generalize hby cs = n at *
    generalize stepsS cs = S at *
    have hfs : fSumA (.list ((cs ++ [0]).map fun c => .int (phi (n + 1) c))) = some (.int ((cs ++ [0]).map (phi (n + 1))).sum) := fSum_map _ _
    generalize ((cs ++ [0]).map (phi (n + 1))).sum = z at *
    generalize PyData.list ((cs ++ [0]).map fun c => PyData.int (phi (n + 1) c)) = zl at *
    simp only [uT, e_dSeq, e_dAsg, e_dCallP, e_aCons, eq_dC, e_dV, eq_aNil, R.bind_ok, List.getElem?_cons_zero, List.getElem?_cons_succ, callP3' tf, R.bO_ok, List.set, e_dIfS, e_dTest, e_dOp2, e_dCal, derL_cons, derL_nil, der_d, Option.bind_some, Option.map_some, g1_one, fLen_list, List.length_map, oB_of gLe_int, hc', decide_true, if_true, e_dRet, e_dAnd, oB_of (gIs_none _), isNoneD, truS_bool, callP3' tt, e_dNew, hcomp, hfs, oB_of gEq_int]
  · rw [if_neg (by omega)] at tf
    rw [if_neg (by omega)] at tt
    have hs := steps_char hnn (by omega)
    rw [lack_snoc hnn (by omega)] at tf tt
    have hc' : ¬ (cs.length : Int) ≤ (hby cs : Int) := by omega
    have hg := gNe_nil (stepsS cs)
    have key : ∃ b : SV, (dIf (dTest (dOp2 (oB gNe) (dV 7) (dNew (nLst (aNil))))) (dOp2 (oB gEq) (dV 8) (dCal (g1 fMinL) (aCons (dV 7) (aNil)))) (dOp2 (oB gGt) (dV 8) (dC (.int 4)))) [some (.d (L cs)), some (.d (.int (hby cs))), e2, e3, e4, e5, e6, some (.d (L (stepsS cs))), some (.d (.int (lack cs (hby cs + 1)))), none, none, none, none] [] = .ok (.d (.bool true)) [] := by
      rcases hs with ⟨a, b, c⟩ | ⟨a, b⟩
      · have hm := fMinL_of b c
        have hne : (stepsS cs).isEmpty = false := by
          cases hq : stepsS cs with
          | nil => rw [hq] at b; cases b
          | cons _ _ => rfl
        rw [hne] at hg
        generalize stepsS cs = S at *
        generalize lack cs (hby cs + 1) = T at *
        refine ⟨.d .none, ?_⟩
        simp only [e_dIf, e_dTest, e_dOp2, e_dV, e_dNew, e_nLst, eq_aNil, R.bind_ok, List.getElem?_cons_succ, List.getElem?_cons_zero, der_d, unD_nil, List.length_nil, h0, if_true, oB_of hg, Bool.not_false, e_dCal, e_aCons, derL_cons, derL_nil, Option.bind_some, Option.map_some, g1_one, hm, oB_of gEq_int, decide_true]
      · rw [b] at hg ⊢
        generalize lack cs (hby cs + 1) = T at *
        refine ⟨.d .none, ?_⟩
        have a' : (4 : Int) < T := a
        simp only [e_dIf, e_dTest, e_dOp2, e_dV, e_dNew, e_nLst, eq_aNil, R.bind_ok, List.getElem?_cons_succ, List.getElem?_cons_zero, der_d, unD_nil, List.length_nil, h0, if_true, oB_of hg, List.isEmpty_nil, Bool.not_true, Bool.false_eq_true, if_false, eq_dC, oB_of gGt_int, a', decide_true]
    obtain ⟨_, key⟩ := key
    generalize stepsS cs = S at *
    generalize lack cs (hby cs + 1) = T at *
    generalize hby cs = n at *
    simp only [uT, e_dSeq, e_dAsg, e_dCallP, e_aCons, eq_dC, e_dV, eq_aNil, R.bind_ok, List.getElem?_cons_zero, List.getElem?_cons_succ, callP3' tf, R.bO_ok, List.set, e_dIfS, e_dTest, e_dOp2, e_dCal, derL_cons, derL_nil, der_d, Option.bind_some, Option.map_some, g1_one, fLen_list, List.length_map, oB_of gLe_int, hc', decide_false, Bool.false_eq_true, if_false, eq_dSkip, e_dRet, e_dAnd, truS_bool]
    rw [key]
    simp only [R.bind_ok, truS_bool, callP3' tt, der_d, oB_of gEq_int, decide_true, R.bO_ok]
end K42
end
section
set_option Elab.async false
set_option linter.all false
set_option autoImplicit false
set_option maxRecDepth 100000
set_option maxHeartbeats 4000000
namespace K42
open PySem L2 CB
theorem putting_ok {cs : List Int} (h : Good cs) (h5 : cs.length ≤ 5) : den__law_is_putting_due [.d (L cs)] [] = .ok (.d (.bool true)) [] := by
  have hl := lawh (cs := cs) (by omega)
  have hw := ways_ok cs.length h5
  have h2 : (2 : Nat) ≤ lim := by decide
  have s1 : dAsgG (gT 2 (gConsD (gN 1) (gConsD (gN 2) (gNilD)))) (dTup (aCons (dCallP 1 den__law_h (aCons (dV 0) (aNil))) (aCons (dCallP 2 den__law_ways (aCons (dC (.int 4)) (aCons (dCal (g1 fLen) (aCons (dV 0) (aNil))) (aNil)))) (aNil)))) [some (.d (L cs)), none, none, none, none, none, none, none, none, none, none, none, none] [] = .nx [some (.d (L cs)), some (.d (.int (hby cs))), some (.d (.list ((wys cs.length).map encT))), none, none, none, none, none, none, none, none, none, none] [] := by
    generalize hby cs = n at *
    generalize PyData.list ((wys cs.length).map encT) = wl at *
    simp [callP1 hl, callP2 hw, h2]
  obtain ⟨ρ', st', h1, e3, e4, e5, e6, rfl, rfl⟩ := forLoop_inv (fun i : Nat => PyData.int (i : Int)) (gg := gN 3) (chk := fun _ => true) (body := vB) (fun i ρ st => ∃ e3 e4 e5 e6, ρ = [some (.d (L cs)), some (.d (.int (hby cs))), some (.d (.list ((wys cs.length).map encT))), e3, e4, e5, e6, none, none, none, none, none, none] ∧ st = []) (fun _ _ _ _ => rfl) (List.range 5) 0 [some (.d (L cs)), some (.d (.int (hby cs))), some (.d (.list ((wys cs.length).map encT))), none, none, none, none, none, none, none, none, none, none] [] ⟨none, none, none, none, rfl, rfl⟩ (by
    rintro j ρ st x hx hj ⟨e3, e4, e5, e6, rfl, rfl⟩
    have hx' := List.mem_range.mp hx
    obtain ⟨e4', e5', e6', e⟩ := vB_ok h h5 (m := (x : Int)) (by omega) (by omega) (some (.d (.int (hby cs)))) e4 e5 e6
    exact ⟨_, _, _, rfl, e, _, e4', e5', e6', rfl, rfl⟩)
  have s2 : dFor (iR1 (aCons (dC (.int 5)) (aNil))) (gN 3) vB [some (.d (L cs)), some (.d (.int (hby cs))), some (.d (.list ((wys cs.length).map encT))), none, none, none, none, none, none, none, none, none, none] [] = .nx [some (.d (L cs)), some (.d (.int (hby cs))), some (.d (.list ((wys cs.length).map encT))), e3, e4, e5, e6, none, none, none, none, none, none] [] := by
    rw [e_dFor, show (5 : Int) = ((5 : Nat) : Int) from rfl, iR1_lit 5 (by decide)]
    exact h1
  have hq7 := q7_ok (cs := cs) h5 e3 e4 e5 e6 none none none none none none
  have hu := uT_ok h h5 (some (.d (.list ((wys cs.length).map encT)))) e3 e4 e5 e6 none
  rw [eq__law_is_putting_due]
  show fnRes 0 (dSeq _ (dSeq _ (dSeq (dAsg 7 (dNew _)) uT)) _ _) = _
  rw [seq_nx s1, seq_nx s2]
  rw [seq_nx (by rw [e_dAsg, e_dNew, hq7]; rfl)]
  simp only [List.set]
  rw [hu]
  rfl
/-! the bad -/
theorem check_bad {b : D} (h : den_are_counts [.d b] [] = .ok (.d (.bool false)) []) : den_check_counts [.d b] [] = .ex "NotRight" .none [] := by
  rw [eq_check_counts]
  simp [b_check_counts, callP1 h, callP1x check_false]
theorem bad1 {b : D} (h : den_are_counts [.d b] [] = .ok (.d (.bool false)) []) : den_h_of [.d b] [] = .ex "NotRight" .none [] ∧ den_g_of [.d b] [] = .ex "NotRight" .none [] ∧ den_w_of [.d b] [] = .ex "NotRight" .none [] ∧ den_core_of [.d b] [] = .ex "NotRight" .none [] ∧ den_tail_of [.d b] [] = .ex "NotRight" .none [] ∧ den_mean_of [.d b] [] = .ex "NotRight" .none [] ∧ den_middle_of [.d b] [] = .ex "NotRight" .none [] := by
  have hc := check_bad h
  refine ⟨?_, ?_, ?_, ?_, ?_, ?_, ?_⟩
  · rw [eq_h_of]; simp [b_h_of, callP1x hc]
  · rw [eq_g_of]; simp [b_g_of, callP1x hc]
  · rw [eq_w_of]; simp [b_w_of, callP1x hc]
  · rw [eq_core_of]; simp [b_core_of, callP1x hc]
  · rw [eq_tail_of]; simp [b_tail_of, callP1x hc]
  · rw [eq_mean_of]; simp [b_mean_of, callP1x hc]
  · rw [eq_middle_of]; simp [b_middle_of, callP1x hc]
theorem bad2 {b : D} (a : D) (h : den_are_counts [.d b] [] = .ok (.d (.bool false)) []) : den_next_step [.d b, .d a] [] = .ex "NotRight" .none [] ∧ den_h_with [.d b, .d a] [] = .ex "NotRight" .none [] ∧ den_best_putting [.d b, .d a] [] = .ex "NotRight" .none [] ∧ den_at_least [.d b, .d a] [] = .ex "NotRight" .none [] := by
  have hc := check_bad h
  refine ⟨?_, ?_, ?_, ?_⟩
  · rw [eq_next_step]; simp [b_next_step, callP1x hc]
  · rw [eq_h_with]; simp [b_h_with, callP1x hc]
  · rw [eq_best_putting]; simp [b_best_putting, callP1x hc]
  · rw [eq_at_least]; simp [b_at_least, callP1x hc]
def odd : List D := [.none, .tuple [.int 1], .list [.int (-1)], .list [.int 1000001], .list [.bool true], .list [.str "1"], .list (List.replicate 501 (.int 1)), .list [.none]]
theorem odd_bad : ∀ b ∈ odd, den_are_counts [.d b] [] = .ok (.d (.bool false)) [] := by
  intro b hb
  simp only [odd, List.mem_cons, List.not_mem_nil, or_false] at hb
  rcases hb with rfl | rfl | rfl | rfl | rfl | rfl | rfl | rfl
  · rfl
  · rfl
  · rfl
  · rfl
  · rfl
  · rfl
  · rfl
  · rfl
end K42
end
section
set_option Elab.async false
set_option linter.all false
set_option autoImplicit false
set_option maxRecDepth 100000
set_option maxHeartbeats 4000000
namespace K42
open PySem L2 CB
theorem lcLoop_ex {α : Type} (enc : α → D) (P : D → Prop) (T : Sto → Prop) {gg : dG} {ee : dE} {ρ : CB.Env} : ∀ (xs : List α) (acc : List D) (st : Sto), T st → acc.length + xs.length ≤ lim →
    (∀ x ∈ xs, ∀ st, T st → ∃ ρ1 v st', gg (enc x) ρ = some ρ1 ∧ ee ρ1 st = .ok (.d v) st' ∧ P v ∧ T st') → ∃ vs st', lcLoop (fun _ => true) gg ρ dYes ee (xs.map enc) acc st = .ok (.list (acc ++ vs)) st' ∧ vs.length = xs.length ∧ (∀ v ∈ vs, P v) ∧ T st'
  | [], acc, st, hT, _, _ => ⟨[], st, by simp [lcLoop], rfl, by simp, hT⟩
  | x :: xs, acc, st, hT, hl, h => by
    obtain ⟨ρ1, v, st1, h1, h2, h3, h4⟩ := h x List.mem_cons_self st hT
    rw [List.length_cons] at hl
    obtain ⟨vs, st', e, hl', hv, hT'⟩ := lcLoop_ex enc P T xs (acc ++ [v]) st1 h4 (by rw [List.length_append, List.length_singleton]; omega) fun y hy => h y (List.mem_cons_of_mem _ hy)
    refine ⟨v :: vs, st', ?_, by rw [List.length_cons, List.length_cons, hl'], fun u hu => ?_, hT'⟩
    · rw [List.map_cons]
      unfold lcLoop
      rw [if_pos rfl, h1]
      simp only [eq_dYes, noEx_ok, R.bind_ok, if_true, h2]
      rw [if_pos (by omega), e]
      simp
    · rcases List.mem_cons.mp hu with e | hu
      · rw [e]; exact h3
      · exact hv u hu
/-- the draws, whatever they are -/
def Dr (st : Sto) : Prop := ∃ ds : List Int, st = [L ds]
noncomputable abbrev tk (i : Nat) (b : Int) : dE := dCallB 2 den__law_take (aCons (dV i) (aCons (dC (.int b)) (aNil)))
theorem tk_ok {ρ : CB.Env} {st : Sto} (i : Nat) (hi : ρ[i]? = some (some (.box 0))) (hT : Dr st) {b : Int} (hb : 0 < b) : ∃ (v : Nat) (st' : Sto), (v : Int) < b ∧ tk i b ρ st = .ok (.d (.int (v : Int))) st' ∧ Dr st' := by
  obtain ⟨ds, rfl⟩ := hT
  obtain ⟨v, ds', h0, h1, h2⟩ := take_ok ds hb
  refine ⟨v.toNat, [L ds'], by omega, ?_, ds', rfl⟩
  have e : ((v.toNat : Nat) : Int) = v := by omega
  rw [e]
  simp [tk, hi, h2]
theorem pk_ok {ρ : CB.Env} {st : Sto} {f : dE} {xs : List D} (i : Nat) (hi : ρ[i]? = some (some (.box 0))) (hf : ∀ st, f ρ st = .ok (.d (.list xs)) st) (hT : Dr st) (hx : xs ≠ []) : ∃ (v : D) (st' : Sto), v ∈ xs ∧ dCallB 2 den__law_pick (aCons (dV i) (aCons f (aNil))) ρ st = .ok (.d v) st' ∧ Dr st' := by
  obtain ⟨ds, rfl⟩ := hT
  obtain ⟨v, ds', h1, h2⟩ := pick_ok ds hx
  exact ⟨v, [L ds'], h1, by simp [hi, hf, h2], ds', rfl⟩
abbrev E (c t e3 e4 e5 e6 e7 e8 e9 e10 e11 : Option SV) : CB.Env := [c, some (.box 0), t, e3, e4, e5, e6, e7, e8, e9, e10, e11, none, none, none, none, none, none, none, none]
noncomputable abbrev c1 : CB.Env → Sto → R D := dLC (iR1 (aCons (tk 1 9) (aNil))) [15] (gN 15) (dYes) (dCallB 2 den__law_take (aCons (dV 1) (aCons (dCallB 2 den__law_pick (aCons (dV 1) (aCons (dNew (nLst (aCons (dC (.int 3)) (aCons (dC (.int 8)) (aCons (dC (.int 60)) (aNil)))))) (aNil)))) (aNil))))
theorem ints_of : ∀ (vs : List D) (P : Int → Prop), (∀ v ∈ vs, ∃ i : Int, v = .int i ∧ P i) → ∃ cs : List Int, vs = cs.map .int ∧ ∀ c ∈ cs, P c
  | [], _, _ => ⟨[], rfl, by simp⟩
  | v :: vs, P, h => by
    obtain ⟨i, rfl, hi⟩ := h v List.mem_cons_self
    obtain ⟨cs, rfl, hc⟩ := ints_of vs P fun u hu => h u (List.mem_cons_of_mem _ hu)
    exact ⟨i :: cs, rfl, fun c hc' => by
      rcases List.mem_cons.mp hc' with e | hc'
      · rw [e]; exact hi
      · exact hc c hc'⟩
theorem c1_ok (c t e3 e4 e5 e6 e7 e8 e9 e10 e11 : Option SV) {st : Sto} (hT : Dr st) : ∃ (cs : List Int) (st' : Sto), cs.length ≤ 8 ∧ (∀ x ∈ cs, 0 ≤ x ∧ x < 60) ∧ c1 (E c t e3 e4 e5 e6 e7 e8 e9 e10 e11) st = .ok (L cs) st' ∧ Dr st' := by
  have h3 : (3 : Nat) ≤ lim := by decide
  obtain ⟨n, st1, hn, e1, hT1⟩ := tk_ok (ρ := E c t e3 e4 e5 e6 e7 e8 e9 e10 e11) 1 rfl hT (b := 9) (by decide)
  obtain ⟨vs, st2, e2, hl, hv, hT2⟩ := lcLoop_ex (fun i : Nat => PyData.int (i : Int)) (fun v => ∃ i : Int, v = .int i ∧ 0 ≤ i ∧ i < 60) Dr (gg := gN 15) (ee := dCallB 2 den__law_take (aCons (dV 1) (aCons (dCallB 2 den__law_pick (aCons (dV 1) (aCons (dNew (nLst (aCons (dC (.int 3)) (aCons (dC (.int 8)) (aCons (dC (.int 60)) (aNil)))))) (aNil)))) (aNil)))) (ρ := wipeE (E c t e3 e4 e5 e6 e7 e8 e9 e10 e11) [15]) (List.range n) [] st1 hT1 (by rw [List.length_range, lim_eq]; simp; omega) (fun x hx st hT => by
    have hf : ∀ st, (dNew (nLst (aCons (dC (.int 3)) (aCons (dC (.int 8)) (aCons (dC (.int 60)) (aNil)))))) [c, some (.box 0), t, e3, e4, e5, e6, e7, e8, e9, e10, e11, none, none, none, some (.d (.int (x : Int))), none, none, none, none] st = .ok (.d (.list [.int 3, .int 8, .int 60])) st := fun st => by simp [h3]
    obtain ⟨v, st3, hv, e3', hT3⟩ := pk_ok (ρ := [c, some (.box 0), t, e3, e4, e5, e6, e7, e8, e9, e10, e11, none, none, none, some (.d (.int (x : Int))), none, none, none, none]) 1 rfl hf hT (by simp)
    obtain ⟨b, rfl, hb0, hb60⟩ : ∃ b : Int, v = .int b ∧ 0 < b ∧ b ≤ 60 := by
      simp only [List.mem_cons, List.not_mem_nil, or_false] at hv
      rcases hv with rfl | rfl | rfl
      · exact ⟨3, rfl, by decide, by decide⟩
      · exact ⟨8, rfl, by decide, by decide⟩
      · exact ⟨60, rfl, by decide, by decide⟩
    obtain ⟨ds, rfl⟩ := hT3
    obtain ⟨u, ds', h0, h1, h2⟩ := take_ok ds hb0
    refine ⟨_, .int u, [L ds'], rfl, ?_, ⟨u, rfl, h0, by omega⟩, ds', rfl⟩
    show dCallB 2 den__law_take (aCons (dV 1) (aCons (dCallB 2 den__law_pick (aCons (dV 1) (aCons (dNew (nLst (aCons (dC (.int 3)) (aCons (dC (.int 8)) (aCons (dC (.int 60)) (aNil)))))) (aNil)))) (aNil))) [c, some (.box 0), t, e3, e4, e5, e6, e7, e8, e9, e10, e11, none, none, none, some (.d (.int (x : Int))), none, none, none, none] st = _
    have hv1 : dV 1 [c, some (.box 0), t, e3, e4, e5, e6, e7, e8, e9, e10, e11, none, none, none, some (.d (.int (x : Int))), none, none, none, none] st = .ok (.box 0) st := rfl
    rw [e_dCallB, e_aCons, hv1, R.bind_ok, e_aCons, e3', R.bind_ok]
    simp [h2])
  obtain ⟨cs, rfl, hc⟩ := ints_of vs _ hv
  refine ⟨cs, st2, ?_, hc, ?_, hT2⟩
  · rw [List.length_map, List.length_range] at hl; omega
  · unfold c1 dLC
    rw [iR1_ok (n := n) (st1 := st1) (by rw [e_aCons, e1]; rfl) (by omega)]
    exact e2
end K42
end
section
set_option Elab.async false
set_option linter.all false
set_option autoImplicit false
set_option maxRecDepth 100000
set_option maxHeartbeats 4000000
namespace K42
open PySem L2 CB
theorem Good8 {cs : List Int} (h : cs.length ≤ 8) (hx : ∀ x ∈ cs, 0 ≤ x ∧ x < 60) : Good cs := ⟨by omega, fun c hc => by have := hx c hc; omega⟩
/-- falling, h, n -/
theorem s2_ok {cs : List Int} (h : Good cs) (h8 : cs.length ≤ 8) (c t e4 e5 e6 e7 e8 e9 e10 e11 : Option SV) {st : Sto} (hT : Dr st) : ∃ (n : Nat) (st' : Sto), n < 12 ∧ Dr st' ∧
    dAsgG (gT 3 (gConsD (gN 4) (gConsD (gN 5) (gConsD (gN 6) (gNilD))))) (dTup (aCons (dNew (nRev (dNew (nCal (g1 fSorted) (aCons (dV 3) (aNil)))))) (aCons (dCallP 1 den__law_h (aCons (dV 3) (aNil))) (aCons (tk 1 12) (aNil))))) (E c t (some (.d (L cs))) e4 e5 e6 e7 e8 e9 e10 e11) st = .nx (E c t (some (.d (L cs))) (some (.d (L (fall cs)))) (some (.d (.int (hby cs)))) (some (.d (.int n))) e7 e8 e9 e10 e11) st' := by
  obtain ⟨n, st1, hn, e1, hT1⟩ := tk_ok (ρ := E c t (some (.d (L cs))) e4 e5 e6 e7 e8 e9 e10 e11) 1 rfl hT (b := 12) (by decide)
  refine ⟨n, st1, by omega, hT1, ?_⟩
  have hl := lawh (cs := cs) (by omega)
  have h3 : (3 : Nat) ≤ lim := by decide
  have hf : (dNew (nRev (dNew (nCal (g1 fSorted) (aCons (dV 3) (aNil)))))) (E c t (some (.d (L cs))) e4 e5 e6 e7 e8 e9 e10 e11) st = .ok (.d (L (fall cs))) st := by
    simp [fSorted_ints h.lim, fall]
  have hh : dCallP 1 den__law_h (aCons (dV 3) (aNil)) (E c t (some (.d (L cs))) e4 e5 e6 e7 e8 e9 e10 e11) st = .ok (.d (.int (hby cs))) st := by
    simp [callP1 hl]
  rw [e_dAsgG, e_dTup, e_aCons, hf, R.bind_ok, e_aCons, hh, R.bind_ok, e_aCons, e1, R.bind_ok]
  simp [h3]
theorem law_w_ok {cs : List Int} (h : Good cs) (h8 : cs.length ≤ 8) (c t e4 e5 e6 e7 e8 e9 e10 e11 : Option SV) (st : Sto) : dAsg 7 (dCal (g1 fMaxL) (aCons (dNew (dLC (iR1 (aCons (dOp2 oAddA (dCal (g1 fLen) (aCons (dV 3) (aNil))) (dC (.int 1))) (aNil))) [15] (gN 15) (dTest (dOp2 (oB gGe) (dCal (g1 fLen) (aCons (dNew (dLC (iL (dV 3)) [16] (gN 16) (dTest (dOp2 (oB gGe) (dV 16) (dOp2 oMulA (dC (.int 10)) (dV 15)))) (dV 16))) (aNil))) (dV 15))) (dV 15))) (aNil))) (E c t (some (.d (L cs))) e4 e5 e6 e7 e8 e9 e10 e11) st = .nx (E c t (some (.d (L cs))) e4 e5 e6 (some (.d (.int (wby cs)))) e8 e9 e10 e11) st := by
  have hlim := h.lim
  have hmul : ∀ n : Int, oMulA (.int 10) (.int n) = some (.int (10 * n)) := fun n => oMulA_small (by decide)
  have hcomp : dLC (iR1 (aCons (dOp2 oAddA (dCal (g1 fLen) (aCons (dV 3) (aNil))) (dC (.int 1))) (aNil))) [15] (gN 15) (dTest (dOp2 (oB gGe) (dCal (g1 fLen) (aCons (dNew (dLC (iL (dV 3)) [16] (gN 16) (dTest (dOp2 (oB gGe) (dV 16) (dOp2 oMulA (dC (.int 10)) (dV 15)))) (dV 16))) (aNil))) (dV 15))) (dV 15) (E c t (some (.d (L cs))) e4 e5 e6 e7 e8 e9 e10 e11) st = .ok (L (((List.range (cs.length + 1)).filter fun i : Nat => decide ((i : Int) ≤ (N cs (10 * (i : Int)) : Int))).map fun i : Nat => (i : Int))) st := by
    rw [dLC_map (fun i : Nat => PyData.int (i : Int)) (fun i => decide ((i : Int) ≤ (N cs (10 * (i : Int)) : Int))) (fun i => .int (i : Int)) (List.range (cs.length + 1)) (chk := fun _ => true) (st1 := st) (iR1_ok (n := cs.length + 1) (by simp) (by omega)) rfl (by rw [List.length_range, lim_eq]; omega) (fun k _ => ⟨_, rfl, by
      simp
      rw [dLC_map PyData.int (fun c => decide (10 * (k : Int) ≤ c)) PyData.int cs (chk := fun _ => true) (st1 := st) (iL_of (by simp)) rfl hlim (fun x _ => ⟨_, rfl, by simp [hmul], by simp⟩)]
      simp [N, cnt] <;> congr, by simp⟩)]
    unfold L
    rw [List.map_map]
    rfl
  have hm : fMaxL (L (((List.range (cs.length + 1)).filter fun i : Nat => decide ((i : Int) ≤ (N cs (10 * (i : Int)) : Int))).map fun i : Nat => (i : Int))) = some (.int (wby cs : Int)) := fMaxL_of (by
    rw [List.mem_map]
    refine ⟨wby cs, ?_, rfl⟩
    rw [List.mem_filter, List.mem_range, decide_eq_true_eq]
    have h1 := wby_le cs
    have h2 := (w_char h1).mpr (Nat.le_refl _)
    exact ⟨by omega, by omega⟩) (by
    intro x hx
    rw [List.mem_map] at hx
    obtain ⟨k, hk, rfl⟩ := hx
    rw [List.mem_filter, List.mem_range, decide_eq_true_eq] at hk
    have := (w_char (cs := cs) (k := k) (by omega)).mp (by omega)
    omega)
  generalize wby cs = wv at *
  generalize L (((List.range (cs.length + 1)).filter fun i : Nat => decide ((i : Int) ≤ (N cs (10 * (i : Int)) : Int))).map fun i : Nat => (i : Int)) = wl at *
  simp only [e_dAsg, e_dCal, e_aCons, e_dNew, hcomp, R.bind_ok, eq_aNil, derL_cons, derL_nil, der_d, Option.bind_some, Option.map_some, g1_one, hm, R.bO_ok, List.set]
/-- what is told of the first five -/
def t5 (cs : List Int) : Nat → D
  | 0 => .int (hby cs)
  | 1 => .int (gby cs)
  | 2 => .int (wby cs)
  | 3 => L ((fall cs).filter fun c => decide ((hby cs : Int) ≤ c))
  | _ => .int (cs.sum - hby cs * hby cs)
theorem told5 {cs : List Int} (h : Good cs) (k : Nat) (hk : k < 5) (b : D) : den__law_told [.d (.int (k : Int)), .d (L cs), .d b] [] = .ok (.d (t5 cs k)) [] := by
  match k, hk with
  | 0, _ => exact told_lo (w := 0) (L cs) b _ rfl (h_of_ok h)
  | 1, _ => exact told_lo (w := 1) (L cs) b _ rfl (g_of_ok h)
  | 2, _ => exact told_lo (w := 2) (L cs) b _ rfl (w_of_ok h)
  | 3, _ => exact told_lo (w := 3) (L cs) b _ rfl (core_of_ok h)
  | 4, _ => exact told_lo (w := 4) (L cs) b _ rfl (tail_of_ok h)
def told6 (cs : List Int) (n : Nat) : D := .list [.int (hby cs), .int (gby cs), .int (wby cs), L ((fall cs).filter fun c => decide ((hby cs : Int) ≤ c)), .int (cs.sum - hby cs * hby cs), .int (cnt (fun c => decide ((n : Int) ≤ c)) cs)]
theorem s4_ok {cs : List Int} (h : Good cs) (n : Nat) (c t e4 e5 e7 e8 e9 e10 e11 : Option SV) (st : Sto) : dAsg 8 (dOp2 oAddA (dNew (dLC (iR1 (aCons (dC (.int 5)) (aNil))) [17] (gN 17) (dYes) (dCallP 3 den__law_told (aCons (dV 17) (aCons (dNew (nCal (g1 fList) (aCons (dV 3) (aNil)))) (aCons (dC .none) (aNil))))))) (dNew (nLst (aCons (dCallP 3 den__law_told (aCons (dC (.int 12)) (aCons (dNew (nCal (g1 fList) (aCons (dV 3) (aNil)))) (aCons (dV 6) (aNil))))) (aNil))))) (E c t (some (.d (L cs))) e4 e5 (some (.d (.int n))) e7 e8 e9 e10 e11) st = .nx (E c t (some (.d (L cs))) e4 e5 (some (.d (.int n))) e7 (some (.d (told6 cs n))) e9 e10 e11) st := by
  have h1 : (1 : Nat) ≤ lim := by decide
  have hi : iR1 (aCons (dC (.int 5)) (aNil)) (E c t (some (.d (L cs))) e4 e5 (some (.d (.int n))) e7 e8 e9 e10 e11) st = .ok ⟨(List.range 5).map fun i : Nat => .int (i : Int), fun _ => true⟩ st := iR1_lit 5 (by decide)
  have hcomp : dLC (iR1 (aCons (dC (.int 5)) (aNil))) [17] (gN 17) (dYes) (dCallP 3 den__law_told (aCons (dV 17) (aCons (dNew (nCal (g1 fList) (aCons (dV 3) (aNil)))) (aCons (dC .none) (aNil))))) (E c t (some (.d (L cs))) e4 e5 (some (.d (.int n))) e7 e8 e9 e10 e11) st = .ok (.list ((List.range 5).map (t5 cs))) st := by
    rw [dLC_all (fun i : Nat => PyData.int (i : Int)) (t5 cs) (List.range 5) (chk := fun _ => true) (st1 := st) hi rfl (by decide) (fun k hk => ⟨_, rfl, by
      have ht := told5 h k (List.mem_range.mp hk) .none
      generalize t5 cs k = z at *
      simp [callP3' ht]⟩)]
  have hat : den__law_told [.d (.int 12), .d (L cs), .d (.int (n : Int))] [] = .ok (.d (.int (cnt (fun c => decide ((n : Int) ≤ c)) cs))) [] := told_hi (w := 3) (L cs) (.int n) _ rfl (at_least_ok h (by omega))
  have hl : ((List.range 5).map (t5 cs)) = [t5 cs 0, t5 cs 1, t5 cs 2, t5 cs 3, t5 cs 4] := rfl
  rw [hl] at hcomp
  have hcat : ∀ z : D, oAddA (.list [t5 cs 0, t5 cs 1, t5 cs 2, t5 cs 3, t5 cs 4]) (.list [z]) = some (.list [t5 cs 0, t5 cs 1, t5 cs 2, t5 cs 3, t5 cs 4, z]) := fun z => oCat_ok (show 5 + 1 ≤ lim by decide)
  have hsec : (dNew (nLst (aCons (dCallP 3 den__law_told (aCons (dC (.int 12)) (aCons (dNew (nCal (g1 fList) (aCons (dV 3) (aNil)))) (aCons (dV 6) (aNil))))) (aNil)))) (E c t (some (.d (L cs))) e4 e5 (some (.d (.int n))) e7 e8 e9 e10 e11) st = .ok (.d (.list [.int (cnt (fun c => decide ((n : Int) ≤ c)) cs)])) st := by
    generalize cnt (fun c => decide ((n : Int) ≤ c)) cs = z at *
    simp [callP3' hat, h1]
  rw [e_dAsg, e_dOp2, e_dNew, hcomp, R.bind_ok, R.bind_ok, hsec, R.bind_ok]
  simp only [der_d, hcat, R.bO_ok, List.set]
  rfl
end K42
end
section
set_option Elab.async false
set_option linter.all false
set_option autoImplicit false
set_option maxRecDepth 100000
set_option maxHeartbeats 4000000
namespace K42
open PySem L2 CB
theorem sml_L (d : Nat) {ns : List Int} (h : ns.length ≤ 10000) : sml (d + 2) (L ns) = true := by
  show (decide ((ns.map PyData.int).length ≤ 10000) && (ns.map PyData.int).all (sml (d + 1))) = true
  rw [Bool.and_eq_true, decide_eq_true_eq, List.length_map, List.all_map]
  exact ⟨h, List.all_eq_true.mpr fun _ _ => rfl⟩
theorem sameTest {f g : dE} {ρ : CB.Env} {st : Sto} {x : D} (hf : f ρ st = .ok (.d x) st) (hg : g ρ st = .ok (.d x) st) (hs : sml 8 x = true) : tdNot (dTru (dCallP 2 (den__law_same 8) (aCons f (aCons g (aNil))))) ρ st = .ok false st := by
  have h := same_refl 8 x hs
  simp [hf, hg, callP2 h]
theorem gate {t : CB.Env → Sto → R Bool} {s : dS} {ρ : CB.Env} {st : Sto} (h : t ρ st = .ok false st) : dIfS t s dSkip ρ st = .nx ρ st := by
  rw [e_dIfS, h]; rfl
theorem s5_ok {cs : List Int} (h : Good cs) (h8 : cs.length ≤ 8) (n : Nat) (c t e9 e10 e11 : Option SV) (st : Sto) (s : dS) : dIfS (tdNot (dTru (dCallP 2 (den__law_same 8) (aCons (dV 8) (aCons (dNew (nLst (aCons (dV 5) (aCons (dCallP 1 den__law_g (aCons (dV 3) (aNil))) (aCons (dV 7) (aCons (dNew (dLC (iL (dV 4)) [16] (gN 16) (dTest (dOp2 (oB gGe) (dV 16) (dV 5))) (dV 16))) (aCons (dOp2 oSub (dCal (g1 fSumA) (aCons (dV 3) (aNil))) (dOp2 oMulA (dV 5) (dV 5))) (aCons (dCal (g1 fLen) (aCons (dNew (dLC (iL (dV 3)) [16] (gN 16) (dTest (dOp2 (oB gGe) (dV 16) (dV 6))) (dV 16))) (aNil))) (aNil))))))))) (aNil)))))) s (dSkip) (E c t (some (.d (L cs))) (some (.d (L (fall cs)))) (some (.d (.int (hby cs)))) (some (.d (.int n))) (some (.d (.int (wby cs)))) (some (.d (told6 cs n))) e9 e10 e11) st = .nx (E c t (some (.d (L cs))) (some (.d (L (fall cs)))) (some (.d (.int (hby cs)))) (some (.d (.int n))) (some (.d (.int (wby cs)))) (some (.d (told6 cs n))) e9 e10 e11) st := by
  refine gate (sameTest (x := told6 cs n) rfl ?_ ?_)
  · have hg := lawg (cs := cs) (by omega)
    have h1 := hby_le cs
    have h6 : (6 : Nat) ≤ lim := by decide
    have hlim := h.lim
    have hfl := fall_len cs
    unfold told6
    generalize hby cs = hv at *
    generalize gby cs = gv at *
    generalize wby cs = wv at *
    generalize fall cs = fa at *
    have hm : oMulA (.int hv) (.int hv) = some (.int ((hv : Int) * hv)) := oMulA_small (by omega)
    have hA : dLC (iL (dV 4)) [16] (gN 16) (dTest (dOp2 (oB gGe) (dV 16) (dV 5))) (dV 16) (E c t (some (.d (L cs))) (some (.d (L fa))) (some (.d (.int hv))) (some (.d (.int n))) (some (.d (.int wv))) (some (.d (.list [.int hv, .int gv, .int wv, L (fa.filter fun c => decide ((hv : Int) ≤ c)), .int (cs.sum - hv * hv), .int (cnt (fun c => decide ((n : Int) ≤ c)) cs)]))) e9 e10 e11) st = .ok (L (fa.filter fun c => decide ((hv : Int) ≤ c))) st := by
      rw [dLC_map PyData.int (fun c => decide ((hv : Int) ≤ c)) PyData.int fa (chk := fun _ => true) (st1 := st) (iL_of (by simp)) rfl (by omega) (fun x _ => ⟨_, rfl, by simp, by simp⟩)]
    have hB : dLC (iL (dV 3)) [16] (gN 16) (dTest (dOp2 (oB gGe) (dV 16) (dV 6))) (dV 16) (E c t (some (.d (L cs))) (some (.d (L fa))) (some (.d (.int hv))) (some (.d (.int n))) (some (.d (.int wv))) (some (.d (.list [.int hv, .int gv, .int wv, L (fa.filter fun c => decide ((hv : Int) ≤ c)), .int (cs.sum - hv * hv), .int (cnt (fun c => decide ((n : Int) ≤ c)) cs)]))) e9 e10 e11) st = .ok (L (cs.filter fun c => decide ((n : Int) ≤ c))) st := by
      rw [dLC_map PyData.int (fun c => decide ((n : Int) ≤ c)) PyData.int cs (chk := fun _ => true) (st1 := st) (iL_of (by simp)) rfl hlim (fun x _ => ⟨_, rfl, by simp, by simp⟩)]
    have hcn : cnt (fun c => decide ((n : Int) ≤ c)) cs = (cs.filter fun c => decide ((n : Int) ≤ c)).length := rfl
    rw [hcn] at hA hB ⊢
    generalize cs.filter (fun c => decide ((n : Int) ≤ c)) = fb at *
    generalize fa.filter (fun c => decide ((hv : Int) ≤ c)) = fc at *
    simp [callP1 hg, hA, hB, hm, h6]
  · have hl : ((fall cs).filter fun c => decide ((hby cs : Int) ≤ c)).length ≤ 10000 := by
      refine Nat.le_trans (List.length_filter_le _ _) ?_
      rw [fall_len]; omega
    have := sml_L 5 hl
    unfold told6
    generalize (fall cs).filter (fun c => decide ((hby cs : Int) ≤ c)) = fb at *
    generalize hby cs = hv at *
    generalize gby cs = gv at *
    generalize wby cs = wv at *
    show (decide _ && _) = true
    simpa [this, sml] using hl
theorem gEq_cons_nil (c : Int) (cs : List Int) : oB gEq (L (c :: cs)) (.list []) = some (.bool false) := by
  have hk : okEq (L (c :: cs)) (.list []) = true := by
    have h1 := plain_L (c :: cs)
    have h2 := depth_L (c :: cs)
    unfold okEq
    rw [h1, h2]
    simp [PyData.plain, PyData.depth]
    rfl
  show (if okEq (L (c :: cs)) (.list []) = true then some (PyData.eqv (L (c :: cs)) (.list [])) else none).map PyData.bool = _
  rw [if_pos hk]
  rfl
/-- due -/
def due (cs : List Int) (v : Int) : D := if cs = [] then .list [.str "refused 3", .str "refused 3"] else .list [.tuple [.int (((cs.sum.toNat / Nat.gcd cs.sum.toNat cs.length : Nat)) : Int), .int ((cs.length / Nat.gcd cs.sum.toNat cs.length : Nat) : Int)], .int v]
theorem s6_ok {cs : List Int} (h : Good cs) (h8 : cs.length ≤ 8) (c t e4 e5 e6 e7 e8 e9 e10 e11 : Option SV) {v : Int} (hv : cs ≠ [] → (sortI cs)[(cs.length - 1) / 2]? = some v) (st : Sto) : dAsg 9 (dIf (dTest (dOp2 (oB gEq) (dV 3) (dNew (nLst (aNil))))) (dOp2 oMulA (dNew (nLst (aCons (dC (.str "refused 3")) (aNil)))) (dC (.int 2))) (dNew (nLst (aCons (dCallP 2 den__law_ratio (aCons (dCal (g1 fSumA) (aCons (dV 3) (aNil))) (aCons (dCal (g1 fLen) (aCons (dV 3) (aNil))) (aNil)))) (aCons (dOp2 oIx (dNew (nCal (g1 fSorted) (aCons (dV 3) (aNil)))) (dOp2 oDiv (dOp2 oSub (dCal (g1 fLen) (aCons (dV 3) (aNil))) (dC (.int 1))) (dC (.int 2)))) (aNil)))))) (E c t (some (.d (L cs))) e4 e5 e6 e7 e8 e9 e10 e11) st = .nx (E c t (some (.d (L cs))) e4 e5 e6 e7 e8 (some (.d (due cs v))) e10 e11) st := by
  by_cases h0 : cs = []
  · subst h0
    rfl
  · have hl : 0 < cs.length := List.length_pos_iff.mpr h0
    obtain ⟨s, hs⟩ := h.sum
    have hr := law_ratio_ok s cs.length hl (by omega)
    have hd := oDiv_two cs.length hl
    have hx := oIx_ints (hv h0)
    have h2 : (2 : Nat) ≤ lim := by decide
    have hst : cs.sum.toNat = s := by omega
    unfold due
    rw [if_neg h0, hst]
    generalize (cs.length - 1) / 2 = k at *
    generalize s / Nat.gcd s cs.length = x at *
    generalize cs.length / Nat.gcd s cs.length = y at *
    have he : oB gEq (L cs) (.list []) = some (.bool false) := by
      cases cs with
      | nil => exact absurd rfl h0
      | cons c cs => exact gEq_cons_nil c cs
    simp [he, fSorted_ints h.lim, hd, hx, hs, callP2 hr, h2]
theorem s7_ok {cs : List Int} (h : Good cs) (h8 : cs.length ≤ 8) (c t e4 e5 e6 e7 e8 e10 e11 : Option SV) {v : Int} (hv : cs ≠ [] → (sortI cs)[(cs.length - 1) / 2]? = some v) (st : Sto) (s : dS) : dIfS (tdOr (tdNot (dTru (dCallP 2 (den__law_same 8) (aCons (dNew (nLst (aCons (dCallP 3 den__law_told (aCons (dC (.int 5)) (aCons (dV 3) (aCons (dC .none) (aNil))))) (aCons (dCallP 3 den__law_told (aCons (dC (.int 6)) (aCons (dV 3) (aCons (dC .none) (aNil))))) (aNil))))) (aCons (dV 9) (aNil)))))) (dTest (dOp2 (oB gIsNot) (dCallP 1 den_are_counts (aCons (dV 3) (aNil))) (dC (.bool true))))) s (dSkip) (E c t (some (.d (L cs))) e4 e5 e6 e7 e8 (some (.d (due cs v))) e10 e11) st = .nx (E c t (some (.d (L cs))) e4 e5 e6 e7 e8 (some (.d (due cs v))) e10 e11) st := by
  refine gate ?_
  have h2 : (2 : Nat) ≤ lim := by decide
  have hs : sml 8 (due cs v) = true := by unfold due; split <;> rfl
  have ha := are_counts_ok h
  have hb : ∀ (f : dE) (ρ : CB.Env), f ρ st = .ok (.d (L cs)) st → dTest (dOp2 (oB gIsNot) (dCallP 1 den_are_counts (aCons f (aNil))) (dC (.bool true))) ρ st = .ok false st := fun f ρ hf => by
    simp [hf, callP1 ha]
    rfl
  have hsame : tdNot (dTru (dCallP 2 (den__law_same 8) (aCons (dNew (nLst (aCons (dCallP 3 den__law_told (aCons (dC (.int 5)) (aCons (dV 3) (aCons (dC .none) (aNil))))) (aCons (dCallP 3 den__law_told (aCons (dC (.int 6)) (aCons (dV 3) (aCons (dC .none) (aNil))))) (aNil))))) (aCons (dV 9) (aNil))))) (E c t (some (.d (L cs))) e4 e5 e6 e7 e8 (some (.d (due cs v))) e10 e11) st = .ok false st := by
    refine sameTest (x := due cs v) ?_ rfl hs
    by_cases h0 : cs = []
    · subst h0
      have t5 : den__law_told [.d (.int 5), .d (L []), .d .none] [] = .ok (.d (.str "refused 3")) [] := told_lo_ex (w := 5) (L []) .none rfl mean_none rfl
      have t6 : den__law_told [.d (.int 6), .d (L []), .d .none] [] = .ok (.d (.str "refused 3")) [] := told_lo_ex (w := 6) (L []) .none rfl middle_none rfl
      rw [due, if_pos rfl]
      simp [callP3' t5, callP3' t6, h2]
    · obtain ⟨s, hs⟩ := h.sum
      have hst : cs.sum.toNat = s := by omega
      have t5 : den__law_told [.d (.int 5), .d (L cs), .d .none] [] = .ok (.d _) [] := told_lo (w := 5) (L cs) .none _ rfl (mean_ok h h0 hs)
      have t6 : den__law_told [.d (.int 6), .d (L cs), .d .none] [] = .ok (.d (.int v)) [] := told_lo (w := 6) (L cs) .none _ rfl (middle_ok h h0 (hv h0))
      rw [due, if_neg h0, hst]
      generalize s / Nat.gcd s cs.length = x at *
      generalize cs.length / Nat.gcd s cs.length = y at *
      simp [callP3' t5, callP3' t6, h2]
  rw [e_tdOr, hsame, R.bind_ok]
  exact hb (dV 3) _ rfl
end K42
end
section
set_option Elab.async false
set_option linter.all false
set_option autoImplicit false
set_option maxRecDepth 100000
set_option maxHeartbeats 4000000
namespace K42
open PySem L2 CB
theorem s8_ok {cs : List Int} (h : Good cs) (c t e4 e6 e7 e8 e9 e10 e11 : Option SV) (st : Sto) (s : dS) : dIfS (tdNot (dTru (dCallP 2 (den__law_same 8) (aCons (dNew (dLC (iR2 (aCons (dOp1 oNeg (dC (.int 1))) (aCons (dC (.int 10)) (aNil)))) [15] (gN 15) (dYes) (dCallP 2 den_takes_h (aCons (dV 3) (aCons (dV 15) (aNil)))))) (aCons (dNew (dLC (iR2 (aCons (dOp1 oNeg (dC (.int 1))) (aCons (dC (.int 10)) (aNil)))) [15] (gN 15) (dYes) (dOp2 (oB gEq) (dV 15) (dV 5)))) (aNil)))))) s (dSkip) (E c t (some (.d (L cs))) e4 (some (.d (.int (hby cs)))) e6 e7 e8 e9 e10 e11) st = .nx (E c t (some (.d (L cs))) e4 (some (.d (.int (hby cs)))) e6 e7 e8 e9 e10 e11) st := by
  refine gate (sameTest (x := .list ((List.range 11).map fun i : Nat => .bool (decide (-1 + (i : Int) = hby cs)))) ?_ ?_ rfl)
  · rw [e_dNew, dLC_all (fun i : Nat => PyData.int (-1 + (i : Int))) (fun i : Nat => .bool (decide (-1 + (i : Int) = hby cs))) (List.range 11) (chk := fun _ => true) (st1 := st) rfl rfl (by decide) (fun k _ => ⟨_, rfl, by
      have ht := takes_ok h (-1 + (k : Int))
      rw [takes_char] at ht
      generalize hby cs = hv at *
      simp [callP2 ht]⟩)]
    rfl
  · rw [e_dNew, dLC_all (fun i : Nat => PyData.int (-1 + (i : Int))) (fun i : Nat => .bool (decide (-1 + (i : Int) = hby cs))) (List.range 11) (chk := fun _ => true) (st1 := st) rfl rfl (by decide) (fun k _ => ⟨_, rfl, by
      generalize hby cs = hv at *
      simp⟩)]
    rfl
theorem s9_ok {cs : List Int} (h : Good cs) (c t e4 e5 e6 e7 e8 e9 e10 e11 : Option SV) (st : Sto) (s : dS) : dIfS (tdAnd (dTest (dOp2 (oB gLt) (dCal (g1 fLen) (aCons (dV 3) (aNil))) (dC (.int 6)))) (tdNot (dTru (dCallP 1 den__law_is_putting_due (aCons (dV 3) (aNil)))))) s (dSkip) (E c t (some (.d (L cs))) e4 e5 e6 e7 e8 e9 e10 e11) st = .nx (E c t (some (.d (L cs))) e4 e5 e6 e7 e8 e9 e10 e11) st := by
  refine gate ?_
  by_cases h5 : cs.length ≤ 5
  · have hp := putting_ok h h5
    have hl : (cs.length : Int) < 6 := by omega
    simp [callP1 hp, hl]
  · have hl : ¬ (cs.length : Int) < 6 := by omega
    simp [hl]
theorem lists_of : ∀ (vs : List D) (P : List Int → Prop), (∀ v ∈ vs, ∃ i : List Int, v = L i ∧ P i) → ∃ cs : List (List Int), vs = cs.map L ∧ ∀ c ∈ cs, P c
  | [], _, _ => ⟨[], rfl, by simp⟩
  | v :: vs, P, h => by
    obtain ⟨i, rfl, hi⟩ := h v List.mem_cons_self
    obtain ⟨cs, rfl, hc⟩ := lists_of vs P fun u hu => h u (List.mem_cons_of_mem _ hu)
    exact ⟨i :: cs, rfl, fun c hc' => by
      rcases List.mem_cons.mp hc' with e | hc'
      · rw [e]; exact hi
      · exact hc c hc'⟩
noncomputable abbrev row1 : CB.Env → Sto → R D := dLC (iR1 (aCons (tk 1 4) (aNil))) [15] (gN 15) (dYes) (tk 1 4)
theorem row1_ok (c t e3 e4 e5 e6 e7 e8 e9 e10 e11 r : Option SV) {st : Sto} (hT : Dr st) : ∃ (cs : List Int) (st' : Sto), (cs.length ≤ 3 ∧ ∀ x ∈ cs, 0 ≤ x ∧ x < 60) ∧ row1 [c, some (.box 0), t, e3, e4, e5, e6, e7, e8, e9, e10, e11, none, none, none, none, none, none, r, none] st = .ok (L cs) st' ∧ Dr st' := by
  obtain ⟨n, st1, hn, e1, hT1⟩ := tk_ok (ρ := [c, some (.box 0), t, e3, e4, e5, e6, e7, e8, e9, e10, e11, none, none, none, none, none, none, r, none]) 1 rfl hT (b := 4) (by decide)
  obtain ⟨vs, st2, e2, hl, hv, hT2⟩ := lcLoop_ex (fun i : Nat => PyData.int (i : Int)) (fun v => ∃ i : Int, v = .int i ∧ 0 ≤ i ∧ i < 60) Dr (gg := gN 15) (ee := tk 1 4) (ρ := wipeE [c, some (.box 0), t, e3, e4, e5, e6, e7, e8, e9, e10, e11, none, none, none, none, none, none, r, none] [15]) (List.range n) [] st1 hT1 (by rw [List.length_range, lim_eq]; simp; omega) (fun x hx st hT => by
    obtain ⟨u, st', hu, e, hT'⟩ := tk_ok (ρ := [c, some (.box 0), t, e3, e4, e5, e6, e7, e8, e9, e10, e11, none, none, none, some (.d (.int (x : Int))), none, none, r, none]) 1 rfl hT (b := 4) (by decide)
    exact ⟨_, .int u, st', rfl, e, ⟨u, rfl, by omega, by omega⟩, hT'⟩)
  obtain ⟨cs, rfl, hc⟩ := ints_of vs _ hv
  refine ⟨cs, st2, ⟨?_, hc⟩, ?_, hT2⟩
  · rw [List.length_map, List.length_range] at hl; omega
  · unfold row1 dLC
    rw [iR1_ok (n := n) (st1 := st1) (by rw [e_aCons, e1]; rfl) (by omega)]
    exact e2
theorem s10_ok (c t e3 e4 e5 e6 e7 e8 e9 e10 e11 : Option SV) {st : Sto} (hT : Dr st) : ∃ (rows : List (List Int)) (st' : Sto), 1 ≤ rows.length ∧ rows.length ≤ 5 ∧ (∀ r ∈ rows, r.length ≤ 3 ∧ ∀ x ∈ r, 0 ≤ x ∧ x < 60) ∧ Dr st' ∧
    dAsg 10 (dNew (dLC (iR1 (aCons (dOp2 oAddA (dC (.int 1)) (dCallB 2 den__law_take (aCons (dV 1) (aCons (dC (.int 5)) (aNil))))) (aNil))) [18] (gN 18) (dYes) (dNew (dLC (iR1 (aCons (dCallB 2 den__law_take (aCons (dV 1) (aCons (dC (.int 4)) (aNil)))) (aNil))) [15] (gN 15) (dYes) (dCallB 2 den__law_take (aCons (dV 1) (aCons (dC (.int 4)) (aNil)))))))) (E c t e3 e4 e5 e6 e7 e8 e9 e10 e11) st = .nx (E c t e3 e4 e5 e6 e7 e8 e9 (some (.d (.list (rows.map L)))) e11) st' := by
  obtain ⟨n, st1, hn, e1, hT1⟩ := tk_ok (ρ := E c t e3 e4 e5 e6 e7 e8 e9 e10 e11) 1 rfl hT (b := 5) (by decide)
  obtain ⟨vs, st2, e2, hl, hv, hT2⟩ := lcLoop_ex (fun i : Nat => PyData.int (i : Int)) (fun v => ∃ i : List Int, v = L i ∧ i.length ≤ 3 ∧ ∀ x ∈ i, 0 ≤ x ∧ x < 60) Dr (gg := gN 18) (ee := dNew row1) (ρ := wipeE (E c t e3 e4 e5 e6 e7 e8 e9 e10 e11) [18]) (List.range (1 + n)) [] st1 hT1 (by rw [List.length_range, lim_eq]; simp; omega) (fun x hx st hT => by
    obtain ⟨cs, st', hc, e, hT'⟩ := row1_ok c t e3 e4 e5 e6 e7 e8 e9 e10 e11 (some (.d (.int (x : Int)))) hT
    exact ⟨_, L cs, st', rfl, by rw [e_dNew]; exact (congrArg (fun z => R.bind z _) e), ⟨cs, rfl, hc⟩, hT'⟩)
  obtain ⟨rows, rfl, hc⟩ := lists_of vs _ hv
  rw [List.length_map, List.length_range] at hl
  refine ⟨rows, st2, by omega, by omega, hc, hT2, ?_⟩
  have hi : iR1 (aCons (dOp2 oAddA (dC (.int 1)) (tk 1 5)) (aNil)) (E c t e3 e4 e5 e6 e7 e8 e9 e10 e11) st = .ok ⟨(List.range (1 + n)).map fun i : Nat => .int (i : Int), fun _ => true⟩ st1 := iR1_ok (n := 1 + n) (by
    rw [e_aCons, e_dOp2, show dC (.int 1) (E c t e3 e4 e5 e6 e7 e8 e9 e10 e11) st = .ok (.d (.int 1)) st from rfl, R.bind_ok, e1]; simp) (by omega)
  have hcomp : dLC (iR1 (aCons (dOp2 oAddA (dC (.int 1)) (tk 1 5)) (aNil))) [18] (gN 18) (dYes) (dNew row1) (E c t e3 e4 e5 e6 e7 e8 e9 e10 e11) st = .ok (.list (rows.map L)) st2 := by
    unfold dLC
    rw [hi]
    exact e2
  rw [e_dAsg, e_dNew, hcomp]
  rfl
theorem s11_ok {rows : List (List Int)} (h2 : rows.length ≤ 5) (hg : ∀ r ∈ rows, r.length ≤ 3 ∧ ∀ x ∈ r, 0 ≤ x ∧ x < 60) (c t e3 e4 e5 e6 e7 e8 e9 e11 : Option SV) (st : Sto) : dAsg 11 (dNew (dLC (iL (dV 10)) [18] (gN 18) (dYes) (dTup (aCons (dCallP 1 den__law_h (aCons (dV 18) (aNil))) (aCons (dCallP 1 den__law_g (aCons (dV 18) (aNil))) (aCons (dCal (g1 fSumA) (aCons (dV 18) (aNil))) (aNil))))))) (E c t e3 e4 e5 e6 e7 e8 e9 (some (.d (.list (rows.map L)))) e11) st = .nx (E c t e3 e4 e5 e6 e7 e8 e9 (some (.d (.list (rows.map L)))) (some (.d (.list ((rows.map worth).map encW))))) st := by
  have h3 : (3 : Nat) ≤ lim := by decide
  have hc : dLC (iL (dV 10)) [18] (gN 18) (dYes) (dTup (aCons (dCallP 1 den__law_h (aCons (dV 18) (aNil))) (aCons (dCallP 1 den__law_g (aCons (dV 18) (aNil))) (aCons (dCal (g1 fSumA) (aCons (dV 18) (aNil))) (aNil))))) (E c t e3 e4 e5 e6 e7 e8 e9 (some (.d (.list (rows.map L)))) e11) st = .ok (.list ((rows.map worth).map encW)) st := by
    rw [dLC_all L (fun r => encW (worth r)) rows (chk := fun _ => true) (st1 := st) (iL_of (by simp)) rfl (by rw [lim_eq]; omega) (fun r hr => ⟨_, rfl, by
      have ha := lawh (cs := r) (by have := (hg r hr).1; omega)
      have hb := lawg (cs := r) (by have := (hg r hr).1; omega)
      have hw : worth r = ((hby r : Int), gby r, r.sum) := rfl
      rw [hw]
      generalize hby r = x at *
      generalize gby r = y at *
      simp [callP1 ha, callP1 hb, h3, encW]⟩)]
    rw [List.map_map]; rfl
  rw [e_dAsg, e_dNew, hc]
  rfl
theorem s12_ok {rows : List (List Int)} (h1 : 1 ≤ rows.length) (h2 : rows.length ≤ 5) (hg : ∀ r ∈ rows, r.length ≤ 3 ∧ ∀ x ∈ r, 0 ≤ x ∧ x < 60) (c t e3 e4 e5 e6 e7 e8 e9 : Option SV) (st : Sto) (s : dS) : dIfS (tdNot (dTru (dCallP 2 (den__law_same 8) (aCons (dCallP 3 den__law_told (aCons (dC (.int 7)) (aCons (dV 10) (aCons (dC .none) (aNil))))) (aCons (dNew (dLC (iR1 (aCons (dCal (g1 fLen) (aCons (dV 10) (aNil))) (aNil))) [15] (gN 15) (dYes) (dOp2 oAddA (dC (.int 1)) (dCal (g1 fLen) (aCons (dNew (dLC (iL (dV 11)) [16] (gN 16) (dTest (dOp2 (oB gGt) (dV 16) (dOp2 oIx (dV 11) (dV 15)))) (dV 16))) (aNil)))))) (aNil)))))) s (dSkip) (E c t e3 e4 e5 e6 e7 e8 e9 (some (.d (.list (rows.map L)))) (some (.d (.list ((rows.map worth).map encW))))) st = .nx (E c t e3 e4 e5 e6 e7 e8 e9 (some (.d (.list (rows.map L)))) (some (.d (.list ((rows.map worth).map encW))))) st := by
  have hlim : rows.length ≤ lim := by rw [lim_eq]; omega
  have ht : den__law_told [.d (.int 7), .d (.list (rows.map L)), .d .none] [] = .ok (.d (L (rankS (rows.map worth)))) [] := told_lo (w := 7) (.list (rows.map L)) .none _ rfl (ranks_ok h1 (by omega) fun r hr => Good8 (by have := (hg r hr).1; omega) (hg r hr).2)
  have hwl : (rows.map worth).length = rows.length := List.length_map _
  refine gate (sameTest (x := L (rankS (rows.map worth))) ?_ ?_ (sml_L 6 (by rw [rankS, List.length_map]; omega)))
  · generalize rows.map worth = ws at *
    simp [callP3' ht]
  · have hr : rankS (rows.map worth) = (List.range rows.length).map fun k : Nat => 1 + (((rows.map worth).filter fun b => ltW ((rows.map worth).getD k (0, 0, 0)) b).length : Int) := by
      unfold rankS
      apply List.ext_getElem
      · simp
      · intro k hk1 hk2
        simp only [List.getElem_map, List.getElem_range]
        rw [List.getD_eq_getElem?_getD, List.getElem?_eq_getElem (by simpa using hk1), List.getElem_map]
        rfl
    rw [hr]
    generalize rows.map worth = ws at *
    rw [e_dNew, dLC_all (fun i : Nat => PyData.int (i : Int)) (fun k : Nat => .int (1 + ((ws.filter fun b => ltW (ws.getD k (0, 0, 0)) b).length : Int))) (List.range rows.length) (chk := fun _ => true) (st1 := st) (iR1_ok (n := rows.length) (by simp) (by omega)) rfl (by simpa using hlim) (fun k hk => ⟨_, rfl, by
      have hk' : k < ws.length := by rw [hwl]; exact List.mem_range.mp hk
      have hx : oIx (.list (ws.map encW)) (.int (k : Int)) = some (encW (ws.getD k (0, 0, 0))) := oIx_nat (by
        rw [List.getElem?_map, List.getElem?_eq_getElem hk', List.getD_eq_getElem?_getD, List.getElem?_eq_getElem hk']
        rfl)
      simp
      rw [dLC_map encW (fun b => ltW (ws.getD k (0, 0, 0)) b) encW ws (chk := fun _ => true) (st1 := st) (iL_of (by simp)) rfl (by omega) (fun b _ => ⟨_, rfl, by simp [hx, gGt_W], by simp⟩)]
      simp⟩)]
    simp [L]
end K42
end
section
set_option Elab.async false
set_option linter.all false
set_option autoImplicit false
set_option maxRecDepth 100000
set_option maxHeartbeats 4000000
namespace K42
open PySem L2 CB
theorem hby_rep (n : Nat) : hby (List.replicate n (n : Int)) = n := by
  have h1 := hby_le (List.replicate n (n : Int))
  rw [List.length_replicate] at h1
  have hN : N (List.replicate n (n : Int)) n = n := by
    unfold N cnt
    rw [List.filter_replicate]
    simp
  have h2 := (h_char (cs := List.replicate n (n : Int)) (k := n) (by rw [List.length_replicate]; omega)).mp (by rw [hN]; omega)
  omega
theorem oMulA_rep (x : D) (n : Nat) (h : n ≤ 1000) : oMulA (.list [x]) (.int (n : Int)) = some (.list (List.replicate n x)) := by
  have : oRep (.list [x]) (.int n) = some (.list (List.replicate n [x]).flatten) := by
    show (if (n : Int).natAbs ≤ 1000000 ∧ 1 * (n : Int).toNat ≤ lim then _ else none) = _
    rw [if_pos ⟨by omega, by rw [lim_eq]; omega⟩]
    simp
  show (none : Option D).or (oRep _ _) = _
  rw [this]
  simp
theorem s14_ok (n : Nat) (hn : n < 201) (c t e3 e4 e6 e7 e8 e9 e10 e11 : Option SV) (st : Sto) : (dIfS (tdOr (tdNot (dTru (dCallP 2 (den__law_same 8) (aCons (dCallP 3 den__law_told (aCons (dC (.int 8)) (aCons (dV 5) (aCons (dC .none) (aNil))))) (aCons (dOp2 oMulA (dNew (nLst (aCons (dV 5) (aNil)))) (dV 5)) (aNil)))))) (dTest (dOp2 (oB gNe) (dCallP 1 den_h_of (aCons (dOp2 oMulA (dNew (nLst (aCons (dV 5) (aNil)))) (dV 5)) (aNil))) (dV 5)))) (dSeq (dRet (dC (.bool false))) (dSkip)) (dSkip)) (E c t e3 e4 (some (.d (.int (n : Int)))) e6 e7 e8 e9 e10 e11) st = .nx (E c t e3 e4 (some (.d (.int (n : Int)))) e6 e7 e8 e9 e10 e11) st := by
  refine gate ?_
  have h1 : (1 : Nat) ≤ lim := by decide
  have hr := oMulA_rep (.int (n : Int)) n (by omega)
  have hL : L (List.replicate n (n : Int)) = .list (List.replicate n (.int (n : Int))) := by simp [L]
  have hg : Good (List.replicate n (n : Int)) := ⟨by rw [List.length_replicate]; omega, fun c hc => by
    rw [List.mem_replicate] at hc
    omega⟩
  have ht : den__law_told [.d (.int 8), .d (.int (n : Int)), .d .none] [] = .ok (.d (L (List.replicate n (n : Int)))) [] := told_lo (w := 8) (.int (n : Int)) .none _ rfl (least_ok (by omega))
  have hh := h_of_ok hg
  rw [hby_rep] at hh
  have hs := sml_L 6 (ns := List.replicate n (n : Int)) (by rw [List.length_replicate]; omega)
  rw [hL] at hh ht hs
  have hsame : tdNot (dTru (dCallP 2 (den__law_same 8) (aCons (dCallP 3 den__law_told (aCons (dC (.int 8)) (aCons (dV 5) (aCons (dC .none) (aNil))))) (aCons (dOp2 oMulA (dNew (nLst (aCons (dV 5) (aNil)))) (dV 5)) (aNil))))) (E c t e3 e4 (some (.d (.int (n : Int)))) e6 e7 e8 e9 e10 e11) st = .ok false st := by
    refine sameTest (x := .list (List.replicate n (.int (n : Int)))) ?_ ?_ hs
    · simp [callP3' ht]
    · simp [hr, h1]
  rw [e_tdOr, hsame, R.bind_ok]
  simp [hr, h1, callP1 hh]
theorem sqx {f g : dS} {ρ ρ1 : CB.Env} {st st1 : Sto} (h : f ρ st = .nx ρ1 st1) : dSeq f g ρ st = g ρ1 st1 := by
  rw [e_dSeq, h]
noncomputable def turn : dS := dSeq (dAsg 3 (dNew (dLC (iR1 (aCons (dCallB 2 den__law_take (aCons (dV 1) (aCons (dC (.int 9)) (aNil)))) (aNil))) [15] (gN 15) (dYes) (dCallB 2 den__law_take (aCons (dV 1) (aCons (dCallB 2 den__law_pick (aCons (dV 1) (aCons (dNew (nLst (aCons (dC (.int 3)) (aCons (dC (.int 8)) (aCons (dC (.int 60)) (aNil)))))) (aNil)))) (aNil))))))) (dSeq (dAsgG (gT 3 (gConsD (gN 4) (gConsD (gN 5) (gConsD (gN 6) (gNilD))))) (dTup (aCons (dNew (nRev (dNew (nCal (g1 fSorted) (aCons (dV 3) (aNil)))))) (aCons (dCallP 1 den__law_h (aCons (dV 3) (aNil))) (aCons (dCallB 2 den__law_take (aCons (dV 1) (aCons (dC (.int 12)) (aNil)))) (aNil)))))) (dSeq (dAsg 7 (dCal (g1 fMaxL) (aCons (dNew (dLC (iR1 (aCons (dOp2 oAddA (dCal (g1 fLen) (aCons (dV 3) (aNil))) (dC (.int 1))) (aNil))) [15] (gN 15) (dTest (dOp2 (oB gGe) (dCal (g1 fLen) (aCons (dNew (dLC (iL (dV 3)) [16] (gN 16) (dTest (dOp2 (oB gGe) (dV 16) (dOp2 oMulA (dC (.int 10)) (dV 15)))) (dV 16))) (aNil))) (dV 15))) (dV 15))) (aNil)))) (dSeq (dAsg 8 (dOp2 oAddA (dNew (dLC (iR1 (aCons (dC (.int 5)) (aNil))) [17] (gN 17) (dYes) (dCallP 3 den__law_told (aCons (dV 17) (aCons (dNew (nCal (g1 fList) (aCons (dV 3) (aNil)))) (aCons (dC .none) (aNil))))))) (dNew (nLst (aCons (dCallP 3 den__law_told (aCons (dC (.int 12)) (aCons (dNew (nCal (g1 fList) (aCons (dV 3) (aNil)))) (aCons (dV 6) (aNil))))) (aNil)))))) (dSeq (dIfS (tdNot (dTru (dCallP 2 (den__law_same 8) (aCons (dV 8) (aCons (dNew (nLst (aCons (dV 5) (aCons (dCallP 1 den__law_g (aCons (dV 3) (aNil))) (aCons (dV 7) (aCons (dNew (dLC (iL (dV 4)) [16] (gN 16) (dTest (dOp2 (oB gGe) (dV 16) (dV 5))) (dV 16))) (aCons (dOp2 oSub (dCal (g1 fSumA) (aCons (dV 3) (aNil))) (dOp2 oMulA (dV 5) (dV 5))) (aCons (dCal (g1 fLen) (aCons (dNew (dLC (iL (dV 3)) [16] (gN 16) (dTest (dOp2 (oB gGe) (dV 16) (dV 6))) (dV 16))) (aNil))) (aNil))))))))) (aNil)))))) (dSeq (dRet (dC (.bool false))) (dSkip)) (dSkip)) (dSeq (dAsg 9 (dIf (dTest (dOp2 (oB gEq) (dV 3) (dNew (nLst (aNil))))) (dOp2 oMulA (dNew (nLst (aCons (dC (.str "refused 3")) (aNil)))) (dC (.int 2))) (dNew (nLst (aCons (dCallP 2 den__law_ratio (aCons (dCal (g1 fSumA) (aCons (dV 3) (aNil))) (aCons (dCal (g1 fLen) (aCons (dV 3) (aNil))) (aNil)))) (aCons (dOp2 oIx (dNew (nCal (g1 fSorted) (aCons (dV 3) (aNil)))) (dOp2 oDiv (dOp2 oSub (dCal (g1 fLen) (aCons (dV 3) (aNil))) (dC (.int 1))) (dC (.int 2)))) (aNil))))))) (dSeq (dIfS (tdOr (tdNot (dTru (dCallP 2 (den__law_same 8) (aCons (dNew (nLst (aCons (dCallP 3 den__law_told (aCons (dC (.int 5)) (aCons (dV 3) (aCons (dC .none) (aNil))))) (aCons (dCallP 3 den__law_told (aCons (dC (.int 6)) (aCons (dV 3) (aCons (dC .none) (aNil))))) (aNil))))) (aCons (dV 9) (aNil)))))) (dTest (dOp2 (oB gIsNot) (dCallP 1 den_are_counts (aCons (dV 3) (aNil))) (dC (.bool true))))) (dSeq (dRet (dC (.bool false))) (dSkip)) (dSkip)) (dSeq (dIfS (tdNot (dTru (dCallP 2 (den__law_same 8) (aCons (dNew (dLC (iR2 (aCons (dOp1 oNeg (dC (.int 1))) (aCons (dC (.int 10)) (aNil)))) [15] (gN 15) (dYes) (dCallP 2 den_takes_h (aCons (dV 3) (aCons (dV 15) (aNil)))))) (aCons (dNew (dLC (iR2 (aCons (dOp1 oNeg (dC (.int 1))) (aCons (dC (.int 10)) (aNil)))) [15] (gN 15) (dYes) (dOp2 (oB gEq) (dV 15) (dV 5)))) (aNil)))))) (dSeq (dRet (dC (.bool false))) (dSkip)) (dSkip)) (dSeq (dIfS (tdAnd (dTest (dOp2 (oB gLt) (dCal (g1 fLen) (aCons (dV 3) (aNil))) (dC (.int 6)))) (tdNot (dTru (dCallP 1 den__law_is_putting_due (aCons (dV 3) (aNil)))))) (dSeq (dRet (dC (.bool false))) (dSkip)) (dSkip)) (dSeq (dAsg 10 (dNew (dLC (iR1 (aCons (dOp2 oAddA (dC (.int 1)) (dCallB 2 den__law_take (aCons (dV 1) (aCons (dC (.int 5)) (aNil))))) (aNil))) [18] (gN 18) (dYes) (dNew (dLC (iR1 (aCons (dCallB 2 den__law_take (aCons (dV 1) (aCons (dC (.int 4)) (aNil)))) (aNil))) [15] (gN 15) (dYes) (dCallB 2 den__law_take (aCons (dV 1) (aCons (dC (.int 4)) (aNil))))))))) (dSeq (dAsg 11 (dNew (dLC (iL (dV 10)) [18] (gN 18) (dYes) (dTup (aCons (dCallP 1 den__law_h (aCons (dV 18) (aNil))) (aCons (dCallP 1 den__law_g (aCons (dV 18) (aNil))) (aCons (dCal (g1 fSumA) (aCons (dV 18) (aNil))) (aNil)))))))) (dSeq (dIfS (tdNot (dTru (dCallP 2 (den__law_same 8) (aCons (dCallP 3 den__law_told (aCons (dC (.int 7)) (aCons (dV 10) (aCons (dC .none) (aNil))))) (aCons (dNew (dLC (iR1 (aCons (dCal (g1 fLen) (aCons (dV 10) (aNil))) (aNil))) [15] (gN 15) (dYes) (dOp2 oAddA (dC (.int 1)) (dCal (g1 fLen) (aCons (dNew (dLC (iL (dV 11)) [16] (gN 16) (dTest (dOp2 (oB gGt) (dV 16) (dOp2 oIx (dV 11) (dV 15)))) (dV 16))) (aNil)))))) (aNil)))))) (dSeq (dRet (dC (.bool false))) (dSkip)) (dSkip)) (dSeq (dAsg 5 (dCallB 2 den__law_take (aCons (dV 1) (aCons (dC (.int 201)) (aNil))))) (dSeq (dIfS (tdOr (tdNot (dTru (dCallP 2 (den__law_same 8) (aCons (dCallP 3 den__law_told (aCons (dC (.int 8)) (aCons (dV 5) (aCons (dC .none) (aNil))))) (aCons (dOp2 oMulA (dNew (nLst (aCons (dV 5) (aNil)))) (dV 5)) (aNil)))))) (dTest (dOp2 (oB gNe) (dCallP 1 den_h_of (aCons (dOp2 oMulA (dNew (nLst (aCons (dV 5) (aNil)))) (dV 5)) (aNil))) (dV 5)))) (dSeq (dRet (dC (.bool false))) (dSkip)) (dSkip)) (dSkip))))))))))))))
theorem turn_ok (c e2 e3 e4 e5 e6 e7 e8 e9 e10 e11 : Option SV) {st : Sto} (hT : Dr st) : ∃ (e3' e4' e5' e6' e7' e8' e9' e10' e11' : Option SV) (st' : Sto), Dr st' ∧ turn (E c e2 e3 e4 e5 e6 e7 e8 e9 e10 e11) st = .nx (E c e2 e3' e4' e5' e6' e7' e8' e9' e10' e11') st' := by
  obtain ⟨cs, st1, h8, hx, q1, hT1⟩ := c1_ok c e2 e3 e4 e5 e6 e7 e8 e9 e10 e11 hT
  have hg := Good8 h8 hx
  obtain ⟨n, st2, hn, hT2, q2⟩ := s2_ok hg h8 c e2 e4 e5 e6 e7 e8 e9 e10 e11 hT1
  obtain ⟨v, hv⟩ : ∃ v, (cs ≠ [] → (sortI cs)[(cs.length - 1) / 2]? = some v) := by
    by_cases h0 : cs = []
    · exact ⟨0, fun h => absurd h0 h⟩
    · obtain ⟨v, hv⟩ := mid_at h0
      exact ⟨v, fun _ => hv⟩
  obtain ⟨rows, st3, hr1, hr5, hr, hT3, q10⟩ := s10_ok c e2 (some (.d (L cs))) (some (.d (L (fall cs)))) (some (.d (.int (hby cs)))) (some (.d (.int n))) (some (.d (.int (wby cs)))) (some (.d (told6 cs n))) (some (.d (due cs v))) e10 e11 hT2
  obtain ⟨m, st4, hm, q13, hT4⟩ := tk_ok (ρ := E c e2 (some (.d (L cs))) (some (.d (L (fall cs)))) (some (.d (.int (hby cs)))) (some (.d (.int n))) (some (.d (.int (wby cs)))) (some (.d (told6 cs n))) (some (.d (due cs v))) (some (.d (.list (rows.map L)))) (some (.d (.list ((rows.map worth).map encW))))) 1 rfl hT3 (b := 201) (by decide)
  refine ⟨some (.d (L cs)), some (.d (L (fall cs))), some (.d (.int (m : Int))), some (.d (.int n)), some (.d (.int (wby cs))), some (.d (told6 cs n)), some (.d (due cs v)), some (.d (.list (rows.map L))), some (.d (.list ((rows.map worth).map encW))), st4, hT4, ?_⟩
  unfold c1 tk at q1
  unfold tk at q13
  unfold turn
  rw [sqx (ρ1 := E c e2 (some (.d (L cs))) e4 e5 e6 e7 e8 e9 e10 e11) (st1 := st1) (by rw [e_dAsg, e_dNew, q1]; rfl)]
  rw [sqx q2, sqx (law_w_ok hg h8 c e2 _ _ _ _ _ _ _ _ _), sqx (s4_ok hg n c e2 _ _ _ _ _ _ _ _), sqx (s5_ok hg h8 n c e2 _ _ _ _ _), sqx (s6_ok hg h8 c e2 _ _ _ _ _ _ _ _ hv _), sqx (s7_ok hg h8 c e2 _ _ _ _ _ _ _ hv _ _), sqx (s8_ok hg c e2 _ _ _ _ _ _ _ _ _), sqx (s9_ok hg c e2 _ _ _ _ _ _ _ _ _ _), sqx q10, sqx (s11_ok hr5 hr c e2 _ _ _ _ _ _ _ _ _), sqx (s12_ok hr1 hr5 hr c e2 _ _ _ _ _ _ _ _ _)]
  rw [sqx (ρ1 := E c e2 (some (.d (L cs))) (some (.d (L (fall cs)))) (some (.d (.int (m : Int)))) (some (.d (.int n))) (some (.d (.int (wby cs)))) (some (.d (told6 cs n))) (some (.d (due cs v))) (some (.d (.list (rows.map L)))) (some (.d (.list ((rows.map worth).map encW))))) (st1 := st4) (by rw [e_dAsg, q13]; rfl)]
  rw [sqx (s14_ok m (by omega) c e2 _ _ _ _ _ _ _ _ _)]
  rfl
theorem turns_ok (c : Option SV) {st : Sto} (hT : Dr st) : ∃ (e2 e3 e4 e5 e6 e7 e8 e9 e10 e11 : Option SV) (st' : Sto), Dr st' ∧ dFor (iR1 (aCons (dC (.int 5)) (aNil))) (gN 2) turn (E c none none none none none none none none none none) st = .nx (E c e2 e3 e4 e5 e6 e7 e8 e9 e10 e11) st' := by
  obtain ⟨ρ', st', e, ⟨e2, e3, e4, e5, e6, e7, e8, e9, e10, e11, rfl⟩, hT'⟩ := forLoop_inv (fun i : Nat => PyData.int (i : Int)) (gg := gN 2) (chk := fun _ => true) (body := turn) (fun _ ρ st => (∃ (e2 e3 e4 e5 e6 e7 e8 e9 e10 e11 : Option SV), ρ = E c e2 e3 e4 e5 e6 e7 e8 e9 e10 e11) ∧ Dr st) (fun _ _ _ _ => rfl) (List.range 5) 0 _ st ⟨⟨_, _, _, _, _, _, _, _, _, _, rfl⟩, hT⟩ (by
    rintro j ρ st x - - ⟨⟨e2, e3, e4, e5, e6, e7, e8, e9, e10, e11, rfl⟩, hT⟩
    obtain ⟨e3', e4', e5', e6', e7', e8', e9', e10', e11', st', hT', e⟩ := turn_ok c (some (.d (.int (x : Int)))) e3 e4 e5 e6 e7 e8 e9 e10 e11 hT
    exact ⟨_, _, st', rfl, e, ⟨_, _, _, _, _, _, _, _, _, _, rfl⟩, hT'⟩)
  refine ⟨e2, e3, e4, e5, e6, e7, e8, e9, e10, e11, st', hT', ?_⟩
  have hi : iR1 (aCons (dC (.int 5)) (aNil)) (E c none none none none none none none none none none) st = .ok ⟨(List.range 5).map fun i : Nat => .int (i : Int), fun _ => true⟩ st := iR1_lit 5 (by decide)
  unfold dFor
  rw [hi]
  exact e
end K42
end
section
set_option Elab.async false
set_option linter.all false
set_option autoImplicit false
set_option maxRecDepth 100000
set_option maxHeartbeats 4000000
namespace K42
open PySem L2 CB
theorem rk_none : den_ranks [.d .none] [] = .ex "NotRight" .none [] := by rfl
theorem rk_nil : den_ranks [.d (.list [])] [] = .ex "NotRight" .none [] := by rfl
theorem rk_tup : den_ranks [.d (.tuple [.list [.int 1]])] [] = .ex "NotRight" .none [] := by rfl
theorem rk_51 : den_ranks [.d (.list (List.replicate 51 (.list [.int 1])))] [] = .ex "NotRight" .none [] := by rfl
theorem rk_bad : ∀ b ∈ odd, den_ranks [.d (.list [b])] [] = .ex "NotRight" .none [] := by
  intro b hb
  simp only [odd, List.mem_cons, List.not_mem_nil, or_false] at hb
  rcases hb with rfl | rfl | rfl | rfl | rfl | rfl | rfl | rfl <;> rfl
theorem lc1 : den_least_counts [.d (.int (-1))] [] = .ex "NotRight" .none [] := by rfl
theorem lc2 : den_least_counts [.d (.int 201)] [] = .ex "NotRight" .none [] := by rfl
theorem lc3 : den_least_counts [.d .none] [] = .ex "NotRight" .none [] := by rfl
theorem lc4 : den_least_counts [.d (.bool true)] [] = .ex "NotRight" .none [] := by rfl
def ones : List D := [.none, .int 0, .int 1, .str "x"]
theorem ns1 : ∀ b ∈ ones, den_next_step [.d (.list [.int 1]), .d b] [] = .ex "NotRight" .none [] := by
  intro b hb
  simp only [ones, List.mem_cons, List.not_mem_nil, or_false] at hb
  rcases hb with rfl | rfl | rfl | rfl <;> rfl
def nums : List D := [.int (-1), .none, .bool true, .str "1"]
theorem nm1 : ∀ b ∈ nums, den_h_with [.d (.list [.int 1]), .d b] [] = .ex "NotRight" .none [] ∧ den_best_putting [.d (.list [.int 1]), .d b] [] = .ex "NotRight" .none [] ∧ den_at_least [.d (.list [.int 1]), .d b] [] = .ex "NotRight" .none [] := by
  intro b hb
  simp only [nums, List.mem_cons, List.not_mem_nil, or_false] at hb
  rcases hb with rfl | rfl | rfl | rfl <;> exact ⟨rfl, rfl, rfl⟩
def tks : List D := [.none, .str "0", .bool true]
theorem tk1 : ∀ b ∈ tks, den_takes_h [.d (.list []), .d b] [] = .ok (.d (.bool false)) [] := by
  intro b hb
  simp only [tks, List.mem_cons, List.not_mem_nil, or_false] at hb
  rcases hb with rfl | rfl | rfl <;> rfl
end K42
end
section
set_option Elab.async false
set_option linter.all false
set_option autoImplicit false
set_option maxRecDepth 100000
set_option maxHeartbeats 4000000
namespace K42
open PySem L2 CB
theorem comp_const {it : CB.Env → Sto → R ITV} {vs : List Nat} {gg : dG} {ee : dE} {ρ : CB.Env} {st : Sto} (xs : List D) (z : D) (hi : it ρ st = .ok ⟨xs, fun _ => true⟩ st) (hl : xs.length ≤ lim) (h : ∀ x ∈ xs, ∃ ρ1, gg x (wipeE ρ vs) = some ρ1 ∧ ee ρ1 st = .ok (.d z) st) : dLC it vs gg dYes ee ρ st = .ok (.list (xs.map fun _ => z)) st :=
  dLC_all (fun x : D => x) (fun _ => z) xs (chk := fun _ => true) (st1 := st) (by rw [hi, List.map_id']) rfl hl h
theorem op2_ok {o : D → D → Option D} {f g : dE} {ρ : CB.Env} {st : Sto} {p q z : D} (hf : f ρ st = .ok (.d p) st) (hg : g ρ st = .ok (.d q) st) (h : o p q = some z) : dOp2 o f g ρ st = .ok (.d z) st := by
  rw [e_dOp2, hf, R.bind_ok, hg, R.bind_ok]
  simp only [der_d, h]
theorem new_ok {f : CB.Env → Sto → R D} {ρ : CB.Env} {st : Sto} {p : D} (hf : f ρ st = .ok p st) : dNew f ρ st = .ok (.d p) st := by
  rw [e_dNew, hf]; rfl
abbrev RR : D := .str "refused 1"
theorem td_bad1 {b : D} (hb : b ∈ odd) (k : Nat) (hk : k < 7) : den__law_told [.d (.int (k : Int)), .d b, .d .none] [] = .ok (.d RR) [] := by
  obtain ⟨h0, h1, h2, h3, h4, h5, h6⟩ := bad1 (odd_bad b hb)
  match k, hk with
  | 0, _ => exact told_lo_ex (w := 0) b .none rfl h0 rfl
  | 1, _ => exact told_lo_ex (w := 1) b .none rfl h1 rfl
  | 2, _ => exact told_lo_ex (w := 2) b .none rfl h2 rfl
  | 3, _ => exact told_lo_ex (w := 3) b .none rfl h3 rfl
  | 4, _ => exact told_lo_ex (w := 4) b .none rfl h4 rfl
  | 5, _ => exact told_lo_ex (w := 5) b .none rfl h5 rfl
  | 6, _ => exact told_lo_ex (w := 6) b .none rfl h6 rfl
theorem td_9 {b a : D} (h : den_next_step [.d b, .d a] [] = .ex "NotRight" .none []) : den__law_told [.d (.int 9), .d b, .d a] [] = .ok (.d RR) [] := told_hi_ex (w := 0) b a rfl h rfl
theorem td_7 {b : D} (h : den_ranks [.d b] [] = .ex "NotRight" .none []) : den__law_told [.d (.int 7), .d b, .d .none] [] = .ok (.d RR) [] := told_lo_ex (w := 7) b .none rfl h rfl
theorem td_8 {b : D} (h : den_least_counts [.d b] [] = .ex "NotRight" .none []) : den__law_told [.d (.int 8), .d b, .d .none] [] = .ok (.d RR) [] := told_lo_ex (w := 8) b .none rfl h rfl
theorem td_hi {b a : D} (h : den_h_with [.d b, .d a] [] = .ex "NotRight" .none [] ∧ den_best_putting [.d b, .d a] [] = .ex "NotRight" .none [] ∧ den_at_least [.d b, .d a] [] = .ex "NotRight" .none []) : ∀ w ∈ [PyData.int 10, PyData.int 11, PyData.int 12], den__law_told [.d w, .d b, .d a] [] = .ok (.d RR) [] := by
  intro w hw
  simp only [List.mem_cons, List.not_mem_nil, or_false] at hw
  rcases hw with rfl | rfl | rfl
  · exact told_hi_ex (w := 1) b a rfl h.1 rfl
  · exact told_hi_ex (w := 2) b a rfl h.2.1 rfl
  · exact told_hi_ex (w := 3) b a rfl h.2.2 rfl
abbrev F (c e2 e3 e4 e5 e6 e7 e8 e9 e10 e11 e12 e13 e14 : Option SV) : CB.Env := [c, some (.box 0), e2, e3, e4, e5, e6, e7, e8, e9, e10, e11, e12, e13, e14, none, none, none, none, none]
variable (c e2 e3 e4 e5 e6 e7 e8 e9 e10 e11 : Option SV)
theorem f2_ok (st : Sto) : (dAsg 12 (dNew (nLst (aCons (dC .none) (aCons (dTup (aCons (dC (.int 1)) (aNil))) (aCons (dNew (nLst (aCons (dOp1 oNeg (dC (.int 1))) (aNil)))) (aCons (dNew (nLst (aCons (dC (.int 1000001)) (aNil)))) (aCons (dNew (nLst (aCons (dC (.bool true)) (aNil)))) (aCons (dNew (nLst (aCons (dC (.str "1")) (aNil)))) (aCons (dOp2 oMulA (dNew (nLst (aCons (dC (.int 1)) (aNil)))) (dC (.int 501))) (aCons (dNew (nLst (aCons (dC .none) (aNil)))) (aNil)))))))))))) (E c e2 e3 e4 e5 e6 e7 e8 e9 e10 e11) st = .nx (F c e2 e3 e4 e5 e6 e7 e8 e9 e10 e11 (some (.d (.list odd))) none none) st := by
  have hm : oMulA (.list [.int 1]) (.int 501) = some (.list (List.replicate 501 (.int 1))) := oMulA_rep (.int 1) 501 (by decide)
  have h1 : (1 : Nat) ≤ lim := by decide
  have h8 : (8 : Nat) ≤ lim := by decide
  unfold odd
  generalize List.replicate 501 (PyData.int 1) = rp at *
  simp [h1, h8, hm]
theorem f3_ok (st : Sto) : (dIfS (tdNot (dTru (dCallP 2 (den__law_same 8) (aCons (dNew (dLC (iL (dV 12)) [16] (gN 16) (dYes) (dCallP 1 den_are_counts (aCons (dV 16) (aNil))))) (aCons (dOp2 oMulA (dNew (nLst (aCons (dC (.bool false)) (aNil)))) (dC (.int 8))) (aNil)))))) (dSeq (dRet (dC (.bool false))) (dSkip)) (dSkip)) (F c e2 e3 e4 e5 e6 e7 e8 e9 e10 e11 (some (.d (.list odd))) none none) st = .nx (F c e2 e3 e4 e5 e6 e7 e8 e9 e10 e11 (some (.d (.list odd))) none none) st := by
  refine gate (sameTest (x := .list (List.replicate 8 (.bool false))) ?_ ?_ rfl)
  · exact new_ok (comp_const (gg := gN 16) (vs := [16]) (it := iL (dV 12)) (ee := dCallP 1 den_are_counts (aCons (dV 16) (aNil))) (ρ := F c e2 e3 e4 e5 e6 e7 e8 e9 e10 e11 (some (.d (.list odd))) none none) (st := st) odd (.bool false) (iL_of rfl) (by decide) (fun x hx => ⟨_, rfl, by simp [callP1 (odd_bad x hx)]⟩))
  · have h1 : (1 : Nat) ≤ lim := by decide
    have hm : oMulA (.list [.bool false]) (.int 8) = some (.list (List.replicate 8 (.bool false))) := oMulA_rep (.bool false) 8 (by decide)
    generalize List.replicate 8 (PyData.bool false) = rp at *
    simp [h1, hm]
theorem f4_ok {st : Sto} (hT : Dr st) : ∃ (b : D) (st' : Sto), b ∈ odd ∧ Dr st' ∧ (dAsg 13 (dCallB 2 den__law_pick (aCons (dV 1) (aCons (dV 12) (aNil))))) (F c e2 e3 e4 e5 e6 e7 e8 e9 e10 e11 (some (.d (.list odd))) none none) st = .nx (F c e2 e3 e4 e5 e6 e7 e8 e9 e10 e11 (some (.d (.list odd))) (some (.d b)) none) st' := by
  obtain ⟨b, st', hb, e, hT'⟩ := pk_ok (ρ := F c e2 e3 e4 e5 e6 e7 e8 e9 e10 e11 (some (.d (.list odd))) none none) (f := dV 12) 1 rfl (fun _ => rfl) hT (xs := odd) (by decide)
  exact ⟨b, st', hb, hT', by rw [e_dAsg, e]; rfl⟩
theorem f5_ok {b : D} (hb : b ∈ odd) (st : Sto) : (dAsg 8 (dOp2 oAddA (dOp2 oAddA (dNew (dLC (iR1 (aCons (dC (.int 7)) (aNil))) [17] (gN 17) (dYes) (dCallP 3 den__law_told (aCons (dV 17) (aCons (dV 13) (aCons (dC .none) (aNil))))))) (dNew (nLst (aCons (dCallP 3 den__law_told (aCons (dC (.int 9)) (aCons (dV 13) (aCons (dC (.bool true)) (aNil))))) (aNil))))) (dNew (dLC (iL (dNew (nLst (aCons (dC (.int 10)) (aCons (dC (.int 11)) (aCons (dC (.int 12)) (aNil))))))) [17] (gN 17) (dYes) (dCallP 3 den__law_told (aCons (dV 17) (aCons (dV 13) (aCons (dC (.int 1)) (aNil))))))))) (F c e2 e3 e4 e5 e6 e7 e8 e9 e10 e11 (some (.d (.list odd))) (some (.d b)) none) st = .nx (F c e2 e3 e4 e5 e6 e7 (some (.d (.list (List.replicate 11 RR)))) e9 e10 e11 (some (.d (.list odd))) (some (.d b)) none) st := by
  have h1 : (1 : Nat) ≤ lim := by decide
  have h2 := bad2 (b := b) (.int 1) (odd_bad b hb)
  have h9 := td_9 (bad2 (b := b) (.bool true) (odd_bad b hb)).1
  have hi : iR1 (aCons (dC (.int 7)) (aNil)) (F c e2 e3 e4 e5 e6 e7 e8 e9 e10 e11 (some (.d (.list odd))) (some (.d b)) none) st = .ok ⟨(List.range 7).map fun i : Nat => .int (i : Int), fun _ => true⟩ st := iR1_lit 7 (by decide)
  have hA := dLC_all (gg := gN 17) (vs := [17]) (ee := dCallP 3 den__law_told (aCons (dV 17) (aCons (dV 13) (aCons (dC .none) (aNil))))) (fun i : Nat => PyData.int (i : Int)) (fun _ => RR) (List.range 7) hi rfl (by decide) (fun k hk => ⟨_, rfl, by
    have ht := td_bad1 hb k (List.mem_range.mp hk)
    simp [callP3' ht]⟩)
  have hC := comp_const (it := iL (dNew (nLst (aCons (dC (.int 10)) (aCons (dC (.int 11)) (aCons (dC (.int 12)) (aNil))))))) (gg := gN 17) (vs := [17]) (ee := dCallP 3 den__law_told (aCons (dV 17) (aCons (dV 13) (aCons (dC (.int 1)) (aNil))))) (ρ := F c e2 e3 e4 e5 e6 e7 e8 e9 e10 e11 (some (.d (.list odd))) (some (.d b)) none) (st := st) [.int 10, .int 11, .int 12] RR (iL_of rfl) (by decide) (fun w hw => ⟨_, rfl, by
    have ht := td_hi ⟨h2.2.1, h2.2.2.1, h2.2.2.2⟩ w hw
    simp [callP3' ht]⟩)
  have hB : dNew (nLst (aCons (dCallP 3 den__law_told (aCons (dC (.int 9)) (aCons (dV 13) (aCons (dC (.bool true)) (aNil))))) (aNil))) (F c e2 e3 e4 e5 e6 e7 e8 e9 e10 e11 (some (.d (.list odd))) (some (.d b)) none) st = .ok (.d (.list [RR])) st := by
    simp [callP3' h9, h1]
  rw [e_dAsg, op2_ok (z := .list (List.replicate 11 RR)) (op2_ok (z := .list (List.replicate 8 RR)) (new_ok hA) hB rfl) (new_ok hC) rfl]
  rfl
theorem f6_ok {b : D} (hb : b ∈ odd) (st : Sto) : (dAsg 8 (dOp2 oAddA (dOp2 oAddA (dV 8) (dNew (dLC (iL (dNew (nLst (aCons (dC .none) (aCons (dNew (nLst (aNil))) (aCons (dTup (aCons (dNew (nLst (aCons (dC (.int 1)) (aNil)))) (aNil))) (aCons (dNew (nLst (aCons (dV 13) (aNil)))) (aCons (dOp2 oMulA (dNew (nLst (aCons (dNew (nLst (aCons (dC (.int 1)) (aNil)))) (aNil)))) (dC (.int 51))) (aNil))))))))) [10] (gN 10) (dYes) (dCallP 3 den__law_told (aCons (dC (.int 7)) (aCons (dV 10) (aCons (dC .none) (aNil)))))))) (dNew (dLC (iL (dNew (nLst (aCons (dOp1 oNeg (dC (.int 1))) (aCons (dC (.int 201)) (aCons (dC .none) (aCons (dC (.bool true)) (aNil)))))))) [5] (gN 5) (dYes) (dCallP 3 den__law_told (aCons (dC (.int 8)) (aCons (dV 5) (aCons (dC .none) (aNil))))))))) (F c e2 e3 e4 e5 e6 e7 (some (.d (.list (List.replicate 11 RR)))) e9 e10 e11 (some (.d (.list odd))) (some (.d b)) none) st = .nx (F c e2 e3 e4 e5 e6 e7 (some (.d (.list (List.replicate 20 RR)))) e9 e10 e11 (some (.d (.list odd))) (some (.d b)) none) st := by
  have h1 : (1 : Nat) ≤ lim := by decide
  have h5 : (5 : Nat) ≤ lim := by decide
  have hA := comp_const (it := iL (dNew (nLst (aCons (dC .none) (aCons (dNew (nLst (aNil))) (aCons (dTup (aCons (dNew (nLst (aCons (dC (.int 1)) (aNil)))) (aNil))) (aCons (dNew (nLst (aCons (dV 13) (aNil)))) (aCons (dOp2 oMulA (dNew (nLst (aCons (dNew (nLst (aCons (dC (.int 1)) (aNil)))) (aNil)))) (dC (.int 51))) (aNil))))))))) (gg := gN 10) (vs := [10]) (ee := dCallP 3 den__law_told (aCons (dC (.int 7)) (aCons (dV 10) (aCons (dC .none) (aNil))))) (ρ := F c e2 e3 e4 e5 e6 e7 (some (.d (.list (List.replicate 11 RR)))) e9 e10 e11 (some (.d (.list odd))) (some (.d b)) none) (st := st) [.none, .list [], .tuple [.list [.int 1]], .list [b], .list (List.replicate 51 (.list [.int 1]))] RR (iL_of (by
      have hm : oMulA (.list [.list [.int 1]]) (.int 51) = some (.list (List.replicate 51 (.list [.int 1]))) := oMulA_rep (.list [.int 1]) 51 (by decide)
      generalize List.replicate 51 (PyData.list [.int 1]) = rp at *
      simp [h1, h5, hm])) h5 (fun w hw => by
    refine ⟨_, rfl, ?_⟩
    have ht : den__law_told [.d (.int 7), .d w, .d .none] [] = .ok (.d RR) [] := by
      simp only [List.mem_cons, List.not_mem_nil, or_false] at hw
      rcases hw with rfl | rfl | rfl | rfl | rfl
      · exact td_7 rk_none
      · exact td_7 rk_nil
      · exact td_7 rk_tup
      · exact td_7 (rk_bad b hb)
      · exact td_7 rk_51
    simp [callP3' ht])
  have hC := comp_const (it := iL (dNew (nLst (aCons (dOp1 oNeg (dC (.int 1))) (aCons (dC (.int 201)) (aCons (dC .none) (aCons (dC (.bool true)) (aNil)))))))) (gg := gN 5) (vs := [5]) (ee := dCallP 3 den__law_told (aCons (dC (.int 8)) (aCons (dV 5) (aCons (dC .none) (aNil))))) (ρ := F c e2 e3 e4 e5 e6 e7 (some (.d (.list (List.replicate 11 RR)))) e9 e10 e11 (some (.d (.list odd))) (some (.d b)) none) (st := st) [.int (-1), .int 201, .none, .bool true] RR (iL_of rfl) (by decide) (fun w hw => by
    refine ⟨_, rfl, ?_⟩
    have ht : den__law_told [.d (.int 8), .d w, .d .none] [] = .ok (.d RR) [] := by
      simp only [List.mem_cons, List.not_mem_nil, or_false] at hw
      rcases hw with rfl | rfl | rfl | rfl
      · exact td_8 lc1
      · exact td_8 lc2
      · exact td_8 lc3
      · exact td_8 lc4
    simp [callP3' ht])
  have hD : dV 8 (F c e2 e3 e4 e5 e6 e7 (some (.d (.list (List.replicate 11 RR)))) e9 e10 e11 (some (.d (.list odd))) (some (.d b)) none) st = .ok (.d (.list (List.replicate 11 RR))) st := rfl
  rw [e_dAsg, op2_ok (z := .list (List.replicate 20 RR)) (op2_ok (z := .list (List.replicate 16 RR)) hD (new_ok hA) rfl) (new_ok hC) rfl]
  rfl
theorem f7_ok (e8 : Option SV) {b : D} {st : Sto} (hT : Dr st) : ∃ (n : D) (st' : Sto), n ∈ nums ∧ (dAsg 14 (dCallB 2 den__law_pick (aCons (dV 1) (aCons (dNew (nLst (aCons (dOp1 oNeg (dC (.int 1))) (aCons (dC .none) (aCons (dC (.bool true)) (aCons (dC (.str "1")) (aNil))))))) (aNil))))) (F c e2 e3 e4 e5 e6 e7 e8 e9 e10 e11 (some (.d (.list odd))) (some (.d b)) none) st = .nx (F c e2 e3 e4 e5 e6 e7 e8 e9 e10 e11 (some (.d (.list odd))) (some (.d b)) (some (.d n))) st' := by
  obtain ⟨n, st', hb, e, hT'⟩ := pk_ok (ρ := F c e2 e3 e4 e5 e6 e7 e8 e9 e10 e11 (some (.d (.list odd))) (some (.d b)) none) (f := dNew (nLst (aCons (dOp1 oNeg (dC (.int 1))) (aCons (dC .none) (aCons (dC (.bool true)) (aCons (dC (.str "1")) (aNil))))))) 1 rfl (fun _ => rfl) hT (xs := nums) (by decide)
  exact ⟨n, st', hb, by rw [e_dAsg, e]; rfl⟩
theorem f8_ok {b n : D} (hn : n ∈ nums) (st : Sto) : (dAsg 8 (dOp2 oAddA (dOp2 oAddA (dV 8) (dNew (dLC (iL (dNew (nLst (aCons (dC .none) (aCons (dC (.int 0)) (aCons (dC (.int 1)) (aCons (dC (.str "x")) (aNil)))))))) [19] (gN 19) (dYes) (dCallP 3 den__law_told (aCons (dC (.int 9)) (aCons (dNew (nLst (aCons (dC (.int 1)) (aNil)))) (aCons (dV 19) (aNil)))))))) (dNew (dLC (iL (dNew (nLst (aCons (dC (.int 10)) (aCons (dC (.int 11)) (aCons (dC (.int 12)) (aNil))))))) [17] (gN 17) (dYes) (dCallP 3 den__law_told (aCons (dV 17) (aCons (dNew (nLst (aCons (dC (.int 1)) (aNil)))) (aCons (dV 14) (aNil))))))))) (F c e2 e3 e4 e5 e6 e7 (some (.d (.list (List.replicate 20 RR)))) e9 e10 e11 (some (.d (.list odd))) (some (.d b)) (some (.d n))) st = .nx (F c e2 e3 e4 e5 e6 e7 (some (.d (.list (List.replicate 27 RR)))) e9 e10 e11 (some (.d (.list odd))) (some (.d b)) (some (.d n))) st := by
  have h1 : (1 : Nat) ≤ lim := by decide
  have hA := comp_const (it := iL (dNew (nLst (aCons (dC .none) (aCons (dC (.int 0)) (aCons (dC (.int 1)) (aCons (dC (.str "x")) (aNil)))))))) (gg := gN 19) (vs := [19]) (ee := dCallP 3 den__law_told (aCons (dC (.int 9)) (aCons (dNew (nLst (aCons (dC (.int 1)) (aNil)))) (aCons (dV 19) (aNil))))) (ρ := F c e2 e3 e4 e5 e6 e7 (some (.d (.list (List.replicate 20 RR)))) e9 e10 e11 (some (.d (.list odd))) (some (.d b)) (some (.d n))) (st := st) ones RR (iL_of rfl) (by decide) (fun w hw => by
    refine ⟨_, rfl, ?_⟩
    have ht := td_9 (ns1 w hw)
    simp [callP3' ht, h1])
  have hC := comp_const (it := iL (dNew (nLst (aCons (dC (.int 10)) (aCons (dC (.int 11)) (aCons (dC (.int 12)) (aNil))))))) (gg := gN 17) (vs := [17]) (ee := dCallP 3 den__law_told (aCons (dV 17) (aCons (dNew (nLst (aCons (dC (.int 1)) (aNil)))) (aCons (dV 14) (aNil))))) (ρ := F c e2 e3 e4 e5 e6 e7 (some (.d (.list (List.replicate 20 RR)))) e9 e10 e11 (some (.d (.list odd))) (some (.d b)) (some (.d n))) (st := st) [.int 10, .int 11, .int 12] RR (iL_of rfl) (by decide) (fun w hw => by
    refine ⟨_, rfl, ?_⟩
    have ht := td_hi (nm1 n hn) w hw
    simp [callP3' ht, h1])
  have hD : dV 8 (F c e2 e3 e4 e5 e6 e7 (some (.d (.list (List.replicate 20 RR)))) e9 e10 e11 (some (.d (.list odd))) (some (.d b)) (some (.d n))) st = .ok (.d (.list (List.replicate 20 RR))) st := rfl
  rw [e_dAsg, op2_ok (z := .list (List.replicate 27 RR)) (op2_ok (z := .list (List.replicate 24 RR)) hD (new_ok hA) rfl) (new_ok hC) rfl]
  rfl
theorem f9_ok {b n : D} (st : Sto) : (dIfS (tdOr (dTest (dOp2 (oB gNe) (dV 8) (dOp2 oMulA (dNew (nLst (aCons (dC (.str "refused 1")) (aNil)))) (dC (.int 27))))) (dTest (dOp2 (oB gNe) (dNew (dLC (iL (dNew (nLst (aCons (dC .none) (aCons (dC (.str "0")) (aCons (dC (.bool true)) (aNil))))))) [14] (gN 14) (dYes) (dCallP 2 den_takes_h (aCons (dNew (nLst (aNil))) (aCons (dV 14) (aNil)))))) (dOp2 oMulA (dNew (nLst (aCons (dC (.bool false)) (aNil)))) (dC (.int 3)))))) (dSeq (dRet (dC (.bool false))) (dSkip)) (dSkip)) (F c e2 e3 e4 e5 e6 e7 (some (.d (.list (List.replicate 27 RR)))) e9 e10 e11 (some (.d (.list odd))) (some (.d b)) (some (.d n))) st = .nx (F c e2 e3 e4 e5 e6 e7 (some (.d (.list (List.replicate 27 RR)))) e9 e10 e11 (some (.d (.list odd))) (some (.d b)) (some (.d n))) st := by
  refine gate ?_
  have h0 : (0 : Nat) ≤ lim := by decide
  have hA := comp_const (it := iL (dNew (nLst (aCons (dC .none) (aCons (dC (.str "0")) (aCons (dC (.bool true)) (aNil))))))) (gg := gN 14) (vs := [14]) (ee := dCallP 2 den_takes_h (aCons (dNew (nLst (aNil))) (aCons (dV 14) (aNil)))) (ρ := F c e2 e3 e4 e5 e6 e7 (some (.d (.list (List.replicate 27 RR)))) e9 e10 e11 (some (.d (.list odd))) (some (.d b)) (some (.d n))) (st := st) tks (.bool false) (iL_of rfl) (by decide) (fun w hw => by
    refine ⟨_, rfl, ?_⟩
    have ht := tk1 w hw
    simp [callP2 ht])
  have h3 : dOp2 oMulA (dNew (nLst (aCons (dC (.bool false)) (aNil)))) (dC (.int 3)) (F c e2 e3 e4 e5 e6 e7 (some (.d (.list (List.replicate 27 RR)))) e9 e10 e11 (some (.d (.list odd))) (some (.d b)) (some (.d n))) st = .ok (.d (.list [.bool false, .bool false, .bool false])) st := rfl
  have h4 := op2_ok (o := oB gNe) (z := .bool false) (new_ok hA) h3 rfl
  rw [e_tdOr]
  rw [show dTest (dOp2 (oB gNe) (dV 8) (dOp2 oMulA (dNew (nLst (aCons (dC (.str "refused 1")) (aNil)))) (dC (.int 27)))) (F c e2 e3 e4 e5 e6 e7 (some (.d (.list (List.replicate 27 RR)))) e9 e10 e11 (some (.d (.list odd))) (some (.d b)) (some (.d n))) st = .ok false st from rfl, R.bind_ok]
  rw [if_neg (by decide), e_dTest, h4]
  rfl
theorem law_ok {cs : List Int} (h : cs.length ≤ 1000) : den_law [.d (L cs)] [] = .ok (.d (.bool true)) [] := by
  obtain ⟨ds, hd⟩ := draws_ok cs h
  have q0 : dBox 1 (nCallB 1 den__law_draws (aCons (dV 0) (aNil))) [some (.d (L cs)), none, none, none, none, none, none, none, none, none, none, none, none, none, none, none, none, none, none, none] [] = .nx (E (some (.d (L cs))) none none none none none none none none none none) [L ds] := by
    have q : nCallB 1 den__law_draws (aCons (dV 0) (aNil)) [some (.d (L cs)), none, none, none, none, none, none, none, none, none, none, none, none, none, none, none, none, none, none, none] [] = .ok (L ds) [] := hd
    rw [e_dBox, q]
    rfl
  obtain ⟨e2, e3, e4, e5, e6, e7, e8, e9, e10, e11, st1, hT1, q1⟩ := turns_ok (some (.d (L cs))) (st := [L ds]) ⟨ds, rfl⟩
  obtain ⟨b, st2, hb, hT2, q4⟩ := f4_ok (some (.d (L cs))) e2 e3 e4 e5 e6 e7 e8 e9 e10 e11 hT1
  obtain ⟨n, st3, hn, q7⟩ := f7_ok (some (.d (L cs))) e2 e3 e4 e5 e6 e7 e9 e10 e11 (some (.d (.list (List.replicate 20 RR)))) (b := b) hT2
  have hb' : b_law [some (.d (L cs)), none, none, none, none, none, none, none, none, none, none, none, none, none, none, none, none, none, none, none] [] = .rt (.d (.bool true)) st3 := by
    have hbl : b_law = dSeq (dBox 1 (nCallB 1 den__law_draws (aCons (dV 0) (aNil)))) (dSeq (dFor (iR1 (aCons (dC (.int 5)) (aNil))) (gN 2) turn) (dSeq (dAsg 12 (dNew (nLst (aCons (dC .none) (aCons (dTup (aCons (dC (.int 1)) (aNil))) (aCons (dNew (nLst (aCons (dOp1 oNeg (dC (.int 1))) (aNil)))) (aCons (dNew (nLst (aCons (dC (.int 1000001)) (aNil)))) (aCons (dNew (nLst (aCons (dC (.bool true)) (aNil)))) (aCons (dNew (nLst (aCons (dC (.str "1")) (aNil)))) (aCons (dOp2 oMulA (dNew (nLst (aCons (dC (.int 1)) (aNil)))) (dC (.int 501))) (aCons (dNew (nLst (aCons (dC .none) (aNil)))) (aNil)))))))))))) (dSeq (dIfS (tdNot (dTru (dCallP 2 (den__law_same 8) (aCons (dNew (dLC (iL (dV 12)) [16] (gN 16) (dYes) (dCallP 1 den_are_counts (aCons (dV 16) (aNil))))) (aCons (dOp2 oMulA (dNew (nLst (aCons (dC (.bool false)) (aNil)))) (dC (.int 8))) (aNil)))))) (dSeq (dRet (dC (.bool false))) (dSkip)) (dSkip)) (dSeq (dAsg 13 (dCallB 2 den__law_pick (aCons (dV 1) (aCons (dV 12) (aNil))))) (dSeq (dAsg 8 (dOp2 oAddA (dOp2 oAddA (dNew (dLC (iR1 (aCons (dC (.int 7)) (aNil))) [17] (gN 17) (dYes) (dCallP 3 den__law_told (aCons (dV 17) (aCons (dV 13) (aCons (dC .none) (aNil))))))) (dNew (nLst (aCons (dCallP 3 den__law_told (aCons (dC (.int 9)) (aCons (dV 13) (aCons (dC (.bool true)) (aNil))))) (aNil))))) (dNew (dLC (iL (dNew (nLst (aCons (dC (.int 10)) (aCons (dC (.int 11)) (aCons (dC (.int 12)) (aNil))))))) [17] (gN 17) (dYes) (dCallP 3 den__law_told (aCons (dV 17) (aCons (dV 13) (aCons (dC (.int 1)) (aNil))))))))) (dSeq (dAsg 8 (dOp2 oAddA (dOp2 oAddA (dV 8) (dNew (dLC (iL (dNew (nLst (aCons (dC .none) (aCons (dNew (nLst (aNil))) (aCons (dTup (aCons (dNew (nLst (aCons (dC (.int 1)) (aNil)))) (aNil))) (aCons (dNew (nLst (aCons (dV 13) (aNil)))) (aCons (dOp2 oMulA (dNew (nLst (aCons (dNew (nLst (aCons (dC (.int 1)) (aNil)))) (aNil)))) (dC (.int 51))) (aNil))))))))) [10] (gN 10) (dYes) (dCallP 3 den__law_told (aCons (dC (.int 7)) (aCons (dV 10) (aCons (dC .none) (aNil)))))))) (dNew (dLC (iL (dNew (nLst (aCons (dOp1 oNeg (dC (.int 1))) (aCons (dC (.int 201)) (aCons (dC .none) (aCons (dC (.bool true)) (aNil)))))))) [5] (gN 5) (dYes) (dCallP 3 den__law_told (aCons (dC (.int 8)) (aCons (dV 5) (aCons (dC .none) (aNil))))))))) (dSeq (dAsg 14 (dCallB 2 den__law_pick (aCons (dV 1) (aCons (dNew (nLst (aCons (dOp1 oNeg (dC (.int 1))) (aCons (dC .none) (aCons (dC (.bool true)) (aCons (dC (.str "1")) (aNil))))))) (aNil))))) (dSeq (dAsg 8 (dOp2 oAddA (dOp2 oAddA (dV 8) (dNew (dLC (iL (dNew (nLst (aCons (dC .none) (aCons (dC (.int 0)) (aCons (dC (.int 1)) (aCons (dC (.str "x")) (aNil)))))))) [19] (gN 19) (dYes) (dCallP 3 den__law_told (aCons (dC (.int 9)) (aCons (dNew (nLst (aCons (dC (.int 1)) (aNil)))) (aCons (dV 19) (aNil)))))))) (dNew (dLC (iL (dNew (nLst (aCons (dC (.int 10)) (aCons (dC (.int 11)) (aCons (dC (.int 12)) (aNil))))))) [17] (gN 17) (dYes) (dCallP 3 den__law_told (aCons (dV 17) (aCons (dNew (nLst (aCons (dC (.int 1)) (aNil)))) (aCons (dV 14) (aNil))))))))) (dSeq (dIfS (tdOr (dTest (dOp2 (oB gNe) (dV 8) (dOp2 oMulA (dNew (nLst (aCons (dC (.str "refused 1")) (aNil)))) (dC (.int 27))))) (dTest (dOp2 (oB gNe) (dNew (dLC (iL (dNew (nLst (aCons (dC .none) (aCons (dC (.str "0")) (aCons (dC (.bool true)) (aNil))))))) [14] (gN 14) (dYes) (dCallP 2 den_takes_h (aCons (dNew (nLst (aNil))) (aCons (dV 14) (aNil)))))) (dOp2 oMulA (dNew (nLst (aCons (dC (.bool false)) (aNil)))) (dC (.int 3)))))) (dSeq (dRet (dC (.bool false))) (dSkip)) (dSkip)) (dSeq (dRet (dC (.bool true))) (dSkip))))))))))) := rfl
    rw [hbl, sqx q0, sqx q1, sqx (f2_ok _ _ _ _ _ _ _ _ _ _ _ _), sqx (f3_ok _ _ _ _ _ _ _ _ _ _ _ _), sqx q4, sqx (f5_ok _ _ _ _ _ _ _ _ _ _ _ hb _), sqx (f6_ok _ _ _ _ _ _ _ _ _ _ hb _), sqx q7, sqx (f8_ok _ _ _ _ _ _ _ _ _ _ hn _), sqx (f9_ok _ _ _ _ _ _ _ _ _ _ _)]
    rfl
  rw [eq_law, hb']
  rfl
end K42
end
set_option Elab.async false
set_option linter.all false
set_option autoImplicit false
set_option maxRecDepth 100000
set_option maxHeartbeats 0
namespace K42
open PySem PySem.Spec PyProof.Rows L2 CB CH
def hd_is_integer : He.DefD := ⟨("is_integer", none), "is_integer", "is_integer", defArgs (top 6), defBody (top 6), defScope (top 6), [], []⟩
def hd_is_within : He.DefD := ⟨("is_within", none), "is_within", "is_within", defArgs (top 7), defBody (top 7), defScope (top 7), [], []⟩
def hd_check : He.DefD := ⟨("check", none), "check", "check", defArgs (top 8), defBody (top 8), defScope (top 8), [], []⟩
def hd_shared : He.DefD := ⟨("shared", none), "shared", "shared", defArgs (top 9), defBody (top 9), defScope (top 9), [], []⟩
def hd_ratio : He.DefD := ⟨("ratio", none), "ratio", "ratio", defArgs (top 10), defBody (top 10), defScope (top 10), [], []⟩
def hd_is_count : He.DefD := ⟨("is_count", none), "is_count", "is_count", defArgs (top 11), defBody (top 11), defScope (top 11), [], []⟩
def hd_are_counts : He.DefD := ⟨("are_counts", none), "are_counts", "are_counts", defArgs (top 18), defBody (top 18), defScope (top 18), [], []⟩
def hd_check_counts : He.DefD := ⟨("check_counts", none), "check_counts", "check_counts", defArgs (top 19), defBody (top 19), defScope (top 19), [], []⟩
def hd_falling : He.DefD := ⟨("falling", none), "falling", "falling", defArgs (top 20), defBody (top 20), defScope (top 20), [], []⟩
def hd_h_by : He.DefD := ⟨("h_by", none), "h_by", "h_by", defArgs (top 21), defBody (top 21), defScope (top 21), [], []⟩
def hd_g_by : He.DefD := ⟨("g_by", none), "g_by", "g_by", defArgs (top 22), defBody (top 22), defScope (top 22), [], []⟩
def hd_h_of : He.DefD := ⟨("h_of", none), "h_of", "h_of", defArgs (top 23), defBody (top 23), defScope (top 23), [], []⟩
def hd_g_of : He.DefD := ⟨("g_of", none), "g_of", "g_of", defArgs (top 24), defBody (top 24), defScope (top 24), [], []⟩
def hd_w_of : He.DefD := ⟨("w_of", none), "w_of", "w_of", defArgs (top 25), defBody (top 25), defScope (top 25), [], []⟩
def hd_core_of : He.DefD := ⟨("core_of", none), "core_of", "core_of", defArgs (top 26), defBody (top 26), defScope (top 26), [], []⟩
def hd_tail_of : He.DefD := ⟨("tail_of", none), "tail_of", "tail_of", defArgs (top 27), defBody (top 27), defScope (top 27), [], []⟩
def hd_lacking : He.DefD := ⟨("lacking", none), "lacking", "lacking", defArgs (top 28), defBody (top 28), defScope (top 28), [], []⟩
def hd_next_step : He.DefD := ⟨("next_step", none), "next_step", "next_step", defArgs (top 29), defBody (top 29), defScope (top 29), [], []⟩
def hd_least_counts : He.DefD := ⟨("least_counts", none), "least_counts", "least_counts", defArgs (top 30), defBody (top 30), defScope (top 30), [], []⟩
def hd_most_h : He.DefD := ⟨("most_h", none), "most_h", "most_h", defArgs (top 31), defBody (top 31), defScope (top 31), [], []⟩
def hd_h_with : He.DefD := ⟨("h_with", none), "h_with", "h_with", defArgs (top 32), defBody (top 32), defScope (top 32), [], []⟩
def hd_best_putting : He.DefD := ⟨("best_putting", none), "best_putting", "best_putting", defArgs (top 33), defBody (top 33), defScope (top 33), [], []⟩
def hd_mean_of : He.DefD := ⟨("mean_of", none), "mean_of", "mean_of", defArgs (top 34), defBody (top 34), defScope (top 34), [], []⟩
def hd_middle_of : He.DefD := ⟨("middle_of", none), "middle_of", "middle_of", defArgs (top 35), defBody (top 35), defScope (top 35), [], []⟩
def hd_at_least : He.DefD := ⟨("at_least", none), "at_least", "at_least", defArgs (top 36), defBody (top 36), defScope (top 36), [], []⟩
def hd_ranks : He.DefD := ⟨("ranks", none), "ranks", "ranks", defArgs (top 37), defBody (top 37), defScope (top 37), [], []⟩
def hd_takes_h : He.DefD := ⟨("takes_h", none), "takes_h", "takes_h", defArgs (top 39), defBody (top 39), defScope (top 39), [], []⟩
def hd__law_draws : He.DefD := ⟨("_law_draws", none), "_law_draws", "_law_draws", defArgs (top 41), defBody (top 41), defScope (top 41), [], []⟩
def hd__law_take : He.DefD := ⟨("_law_take", none), "_law_take", "_law_take", defArgs (top 42), defBody (top 42), defScope (top 42), [], []⟩
def hd__law_pick : He.DefD := ⟨("_law_pick", none), "_law_pick", "_law_pick", defArgs (top 43), defBody (top 43), defScope (top 43), [], []⟩
def hd__law_mixed : He.DefD := ⟨("_law_mixed", none), "_law_mixed", "_law_mixed", defArgs (top 44), defBody (top 44), defScope (top 44), [], []⟩
def hd__law_same : He.DefD := ⟨("_law_same", none), "_law_same", "_law_same", defArgs (top 45), defBody (top 45), defScope (top 45), [], []⟩
def hd__law_kind : He.DefD := ⟨("_law_kind", none), "_law_kind", "_law_kind", defArgs (top 46), defBody (top 46), defScope (top 46), [], []⟩
def hd__law_told : He.DefD := ⟨("_law_told", none), "_law_told", "_law_told", defArgs (top 47), defBody (top 47), defScope (top 47), [], []⟩
def hd__law_h : He.DefD := ⟨("_law_h", none), "_law_h", "_law_h", defArgs (top 48), defBody (top 48), defScope (top 48), [], []⟩
def hd__law_g : He.DefD := ⟨("_law_g", none), "_law_g", "_law_g", defArgs (top 49), defBody (top 49), defScope (top 49), [], []⟩
def hd__law_ratio : He.DefD := ⟨("_law_ratio", none), "_law_ratio", "_law_ratio", defArgs (top 50), defBody (top 50), defScope (top 50), [], []⟩
def hd__law_ways : He.DefD := ⟨("_law_ways", none), "_law_ways", "_law_ways", defArgs (top 51), defBody (top 51), defScope (top 51), [], []⟩
def hd__law_is_putting_due : He.DefD := ⟨("_law_is_putting_due", none), "_law_is_putting_due", "_law_is_putting_due", defArgs (top 52), defBody (top 52), defScope (top 52), [], []⟩
def hd_law : He.DefD := ⟨("law", none), "law", "law", defArgs (top 53), defBody (top 53), defScope (top 53), [], []⟩
def hfn : List He.DefD := [hd_is_integer, hd_is_within, hd_check, hd_shared, hd_ratio, hd_is_count, hd_are_counts, hd_check_counts, hd_falling, hd_h_by, hd_g_by, hd_h_of, hd_g_of, hd_w_of, hd_core_of, hd_tail_of, hd_lacking, hd_next_step, hd_least_counts, hd_most_h, hd_h_with, hd_best_putting, hd_mean_of, hd_middle_of, hd_at_least, hd_ranks, hd_takes_h, hd__law_draws, hd__law_take, hd__law_pick, hd__law_mixed, hd__law_same, hd__law_kind, hd__law_told, hd__law_h, hd__law_g, hd__law_ratio, hd__law_ways, hd__law_is_putting_due, hd_law]
def hfa : List He.Fa := [.glo "is_integer", .glo "is_within", .glo "check", .glo "shared", .glo "ratio", .glo "is_count", .glo "are_counts", .glo "check_counts", .glo "falling", .glo "h_by", .glo "g_by", .glo "h_of", .glo "g_of", .glo "w_of", .glo "core_of", .glo "tail_of", .glo "lacking", .glo "next_step", .glo "least_counts", .glo "most_h", .glo "h_with", .glo "best_putting", .glo "mean_of", .glo "middle_of", .glo "at_least", .glo "ranks", .glo "takes_h", .glo "_law_draws", .glo "_law_take", .glo "_law_pick", .glo "_law_mixed", .glo "_law_same", .glo "_law_kind", .glo "_law_told", .glo "_law_h", .glo "_law_g", .glo "_law_ratio", .glo "_law_ways", .glo "_law_is_putting_due", .glo "law", .glo "CiteError", .glo "NotRight", .glo "NotThere", .glo "NoAnswer", .glo "TooLarge", .exc "CiteError", .exc "NotRight", .exc "NotThere", .exc "NoAnswer", .exc "TooLarge", .free "len", .free "all", .free "sorted", .free "enumerate", .free "range", .free "sum", .free "max", .free "min", .free "list", .free "tuple", .free "dict", .free "int", .free "str", .free "abs", .free "isinstance", .free "reversed", .free "bool", .int "MOST_COUNTS" 500, .int "HIGHEST" 1000000, .int "MOST_H" 200, .int "MOST_ROWS" 50, .int "STEP_OF_W" 10, .exm "NotRight" "CiteError" true, .exm "NotThere" "CiteError" true, .exm "NoAnswer" "CiteError" true, .exm "TooLarge" "CiteError" true]
def excB (K : PySem.W.Frag) (D : Addr) : Bool := He.eqO (PySem.W.findIn K (.ref D) "__getattribute__") (some (some (.builtin "BaseException.__getattribute__"))) && (He.eqO (PySem.W.findIn K (.ref D) "__getattr__") (some none) && (decide (PySem.W.subIn K (.ref D) (.type "BaseException") = some true) && (PySem.W.hasDictIn K D && (He.eqO (PySem.W.findIn K (.ref D) "__class__") (some (some (.builtin "object.__class__"))) && (He.eqO (PySem.W.specialIn K (.builtin "object.__class__") "__get__") (some (some (.builtin "getset_descriptor.__get__"))) && (decide (PySem.W.takesIn K (.builtin "object.__class__") = some true) && decide (PySem.W.mroIn K D (.type "object") = some true)))))))
theorem excB_ok {K : PySem.W.Frag} {D : Addr} (h : excB K D = true) : ExcC K D := by
  obtain ⟨h1, h⟩ := He.ba h
  obtain ⟨h2, h⟩ := He.ba h
  obtain ⟨h3, h⟩ := He.ba h
  obtain ⟨h4, h⟩ := He.ba h
  obtain ⟨h5, h⟩ := He.ba h
  obtain ⟨h6, h⟩ := He.ba h
  obtain ⟨h7, h8⟩ := He.ba h
  exact ⟨He.eqO_ok h1, He.eqO_ok h2, of_decide_eq_true h3, h4, He.eqO_ok h5, He.eqO_ok h6, of_decide_eq_true h7, of_decide_eq_true h8⟩
def kitB (K : PySem.W.Frag) (q : PySem.Str × PySem.Str × Bool) : Bool := decide (PySem.W.kitOne K (.ref (He.ga K q.1)) (.ref (He.ga K q.2.1)) = some q.2.2)
def noLst (K : PySem.W.Frag) : Bool := K.all fun q => match q.2.cls with
  | .type c => !decide (c = "list")
  | _ => true
theorem noLst_ok {K : PySem.W.Frag} (h : noLst K = true) {a : Addr} {o : Obj} (e : K.lookup a = some o) (hc : o.cls = .type "list") : False := by
  have h1 := List.all_eq_true.mp h _ (He.lookup_mem e)
  have h2 : (match o.cls with
    | .type c => !decide (c = "list")
    | _ => true) = true := h1
  rw [hc] at h2
  revert h2
  decide
def hexc : List PySem.Str := ["NotRight", "NotThere", "NoAnswer", "TooLarge"]
def hkit : List (PySem.Str × PySem.Str × Bool) := [("NotRight", "NotRight", true), ("NotRight", "NotThere", false), ("NotRight", "NoAnswer", false), ("NotRight", "TooLarge", false), ("NotThere", "NotRight", false), ("NotThere", "NotThere", true), ("NotThere", "NoAnswer", false), ("NotThere", "TooLarge", false), ("NoAnswer", "NotRight", false), ("NoAnswer", "NotThere", false), ("NoAnswer", "NoAnswer", true), ("NoAnswer", "TooLarge", false), ("TooLarge", "NotRight", false), ("TooLarge", "NotThere", false), ("TooLarge", "NoAnswer", false), ("TooLarge", "TooLarge", true)]
def hex (K : PySem.W.Frag) : Bool := noLst K && ((hexc.all fun c => excB K (He.ga K c)) && hkit.all (kitB K))
def hnm0 : List PySem.Str := ["is_integer", "is_within", "check", "shared", "ratio", "is_count", "are_counts", "check_counts", "falling", "h_by", "g_by", "h_of", "g_of", "w_of", "core_of", "tail_of", "lacking", "next_step", "least_counts", "most_h", "h_with", "best_putting", "mean_of", "middle_of", "at_least", "ranks", "takes_h", "_law_draws", "_law_take", "_law_pick"]
def hnm1 : List PySem.Str := ["_law_mixed", "_law_same", "_law_kind", "_law_told", "_law_h", "_law_g", "_law_ratio", "_law_ways", "_law_is_putting_due", "CiteError", "NotRight", "NotThere", "NoAnswer", "TooLarge", "MOST_COUNTS", "HIGHEST", "MOST_H", "MOST_ROWS", "STEP_OF_W"]
def hnms : List PySem.Str := hnm0 ++ hnm1
abbrev hR : PySem.W.OpenRow := PySem.W.OpenLaw.row PySem.Challenge.rw_citedback_k42_whole_measures
abbrev hhk : PySem.W.Hook := He.hookX 4 hfa hfn [] [] hex
def hob (s : PySem.W.SharedT) : He.AlX := He.obsX 4 hfa hfn [] [] hex (HandSHeadRun.getT s)
theorem hob_eq (s : PySem.W.SharedT) : hob s = hhk.obs s.abs := He.obsX_eq (HandSHeadRun.getT_eq s)
theorem hrun (w : World) : HandSHeadRun.RunEq hR (PySem.W.view hR.prog [53]) hhk hob 4000 hnms w := by
  intro os
  kernel_rfl
def cxA (P : Program) : CXT := fun outer H s E u s' => ∃ w, L2N.CX P w outer H s E u s'
theorem fnOk_cx {P : Program} {w : World} {K : PySem.W.Frag} {mg : PySem.Str → Option Value} {base : Heap} {k : Nat} {f : Addr} {fd : FuncData} {ps : List PySem.Str} {sp : Sp} (F : FnOk P w K mg base (L2N.CX P w) k f fd ps sp) : FnOk P w K mg base (cxA P) k f fd ps sp :=
  ⟨F.len, fun A outer s H args us vs Q E hr he hb hv hs => codeAny_mono (F.run A outer s H args us vs Q E hr he hb hv hs) fun r s' h => by
    cases r with
    | ok c => cases c <;> exact h
    | error e => exact ⟨w, h⟩⟩
theorem rpl_ints {K : PySem.W.Frag} {F : Hp} : ∀ ns : List Int, RpL K F (ns.map V.int) (ns.map PyData.int)
  | [] => .nil
  | n :: ns => .cons (.int n) (rpl_ints ns)
theorem join_law {K : PySem.W.Frag} (hn : noLst K = true) {H : Hp} {a : Addr} {ns : List Int} (hl : ns.length ≤ 63) (hO : L2.Only H) (hS : SqL K H a (ns.map V.int)) : spB K 1 den_law [.ref a] H (fun v _ => v = .bl true) fun _ _ _ => False := by
  have hr : Rd H a (.lst (ns.map V.int)) := by
    rcases hS with h | ⟨o, its, n, e, hc, _⟩
    · exact h
    · exact (noLst_ok hn e hc).elim
  have hlaw := law_ok (cs := ns) (by omega)
  refine ⟨rfl, [.d (L ns)], [], H, [], .cons (.lst hr (rpl_ints ns)) .nil, repB_nil (Same.refl _), ?_⟩
  rw [hlaw]
  intro v F' H' _ _ r
  cases r
  rfl
section
variable {P : Program} {w : World} {K : PySem.W.Frag} {h : Heap} {mg : PySem.Str → Option Value}
theorem gl_of (X : K.In h) (N : h.Ns mainGlobals mg) (c : He.SaysD hfa hfn K) (e : hex K = true) : Gl K mg := by
  obtain ⟨e1, e⟩ := He.ba e
  obtain ⟨e2, e3⟩ := He.ba e
  have he := fun c (hc : c ∈ hexc) => excB_ok (List.all_eq_true.mp e2 c hc)
  have hk := fun q (hq : q ∈ hkit) => of_decide_eq_true (show decide (PySem.W.kitOne K (.ref (He.ga K q.1)) (.ref (He.ga K q.2.1)) = some q.2.2) = true from List.all_eq_true.mp e3 q hq)
  exact {
    f_len := He.free_ok X N (c.fact 50 rfl)
    f_all := He.free_ok X N (c.fact 51 rfl)
    f_sorted := He.free_ok X N (c.fact 52 rfl)
    f_enumerate := He.free_ok X N (c.fact 53 rfl)
    f_range := He.free_ok X N (c.fact 54 rfl)
    f_sum := He.free_ok X N (c.fact 55 rfl)
    f_max := He.free_ok X N (c.fact 56 rfl)
    f_min := He.free_ok X N (c.fact 57 rfl)
    f_list := He.free_ok X N (c.fact 58 rfl)
    f_tuple := He.free_ok X N (c.fact 59 rfl)
    f_dict := He.free_ok X N (c.fact 60 rfl)
    f_int := He.free_ok X N (c.fact 61 rfl)
    f_str := He.free_ok X N (c.fact 62 rfl)
    f_abs := He.free_ok X N (c.fact 63 rfl)
    f_isinstance := He.free_ok X N (c.fact 64 rfl)
    f_reversed := He.free_ok X N (c.fact 65 rfl)
    f_bool := He.free_ok X N (c.fact 66 rfl)
    c_MOST_COUNTS := He.int_ok X N (c.fact 67 rfl)
    c_HIGHEST := He.int_ok X N (c.fact 68 rfl)
    c_MOST_H := He.int_ok X N (c.fact 69 rfl)
    c_MOST_ROWS := He.int_ok X N (c.fact 70 rfl)
    c_STEP_OF_W := He.int_ok X N (c.fact 71 rfl)
    x_CiteError := ⟨(He.exc_ok (c.fact 45 (f := .exc "CiteError") rfl)).1, He.glo_ok X N (c.fact 40 rfl), (He.exc_ok (c.fact 45 (f := .exc "CiteError") rfl)).2.1, (He.exc_ok (c.fact 45 (f := .exc "CiteError") rfl)).2.2.1, (He.exc_ok (c.fact 45 (f := .exc "CiteError") rfl)).2.2.2⟩
    x_NotRight := ⟨(He.exc_ok (c.fact 46 (f := .exc "NotRight") rfl)).1, He.glo_ok X N (c.fact 41 rfl), (He.exc_ok (c.fact 46 (f := .exc "NotRight") rfl)).2.1, (He.exc_ok (c.fact 46 (f := .exc "NotRight") rfl)).2.2.1, (He.exc_ok (c.fact 46 (f := .exc "NotRight") rfl)).2.2.2⟩
    x_NotThere := ⟨(He.exc_ok (c.fact 47 (f := .exc "NotThere") rfl)).1, He.glo_ok X N (c.fact 42 rfl), (He.exc_ok (c.fact 47 (f := .exc "NotThere") rfl)).2.1, (He.exc_ok (c.fact 47 (f := .exc "NotThere") rfl)).2.2.1, (He.exc_ok (c.fact 47 (f := .exc "NotThere") rfl)).2.2.2⟩
    x_NoAnswer := ⟨(He.exc_ok (c.fact 48 (f := .exc "NoAnswer") rfl)).1, He.glo_ok X N (c.fact 43 rfl), (He.exc_ok (c.fact 48 (f := .exc "NoAnswer") rfl)).2.1, (He.exc_ok (c.fact 48 (f := .exc "NoAnswer") rfl)).2.2.1, (He.exc_ok (c.fact 48 (f := .exc "NoAnswer") rfl)).2.2.2⟩
    x_TooLarge := ⟨(He.exc_ok (c.fact 49 (f := .exc "TooLarge") rfl)).1, He.glo_ok X N (c.fact 44 rfl), (He.exc_ok (c.fact 49 (f := .exc "TooLarge") rfl)).2.1, (He.exc_ok (c.fact 49 (f := .exc "TooLarge") rfl)).2.2.1, (He.exc_ok (c.fact 49 (f := .exc "TooLarge") rfl)).2.2.2⟩
    e_NotRight := he "NotRight" (by decide)
    e_NotThere := he "NotThere" (by decide)
    e_NoAnswer := he "NoAnswer" (by decide)
    e_TooLarge := he "TooLarge" (by decide)
    k_NotRight_NotRight := hk ("NotRight", "NotRight", true) (by decide)
    k_NotRight_NotThere := hk ("NotRight", "NotThere", false) (by decide)
    k_NotRight_NoAnswer := hk ("NotRight", "NoAnswer", false) (by decide)
    k_NotRight_TooLarge := hk ("NotRight", "TooLarge", false) (by decide)
    k_NotThere_NotRight := hk ("NotThere", "NotRight", false) (by decide)
    k_NotThere_NotThere := hk ("NotThere", "NotThere", true) (by decide)
    k_NotThere_NoAnswer := hk ("NotThere", "NoAnswer", false) (by decide)
    k_NotThere_TooLarge := hk ("NotThere", "TooLarge", false) (by decide)
    k_NoAnswer_NotRight := hk ("NoAnswer", "NotRight", false) (by decide)
    k_NoAnswer_NotThere := hk ("NoAnswer", "NotThere", false) (by decide)
    k_NoAnswer_NoAnswer := hk ("NoAnswer", "NoAnswer", true) (by decide)
    k_NoAnswer_TooLarge := hk ("NoAnswer", "TooLarge", false) (by decide)
    k_TooLarge_NotRight := hk ("TooLarge", "NotRight", false) (by decide)
    k_TooLarge_NotThere := hk ("TooLarge", "NotThere", false) (by decide)
    k_TooLarge_NoAnswer := hk ("TooLarge", "NoAnswer", false) (by decide)
    k_TooLarge_TooLarge := hk ("TooLarge", "TooLarge", true) (by decide)
    hx_CiteError := by
      intro c0 hc
      simp only [kd, List.map_cons, List.map_nil, List.mem_cons, List.not_mem_nil, or_false] at hc
      rcases hc with rfl | rfl | rfl | rfl
      · exact He.exm_ok (c.fact 72 (f := .exm "NotRight" "CiteError" true) rfl)
      · exact He.exm_ok (c.fact 73 (f := .exm "NotThere" "CiteError" true) rfl)
      · exact He.exm_ok (c.fact 74 (f := .exm "NoAnswer" "CiteError" true) rfl)
      · exact He.exm_ok (c.fact 75 (f := .exm "TooLarge" "CiteError" true) rfl) }
theorem join_facts {f : Addr} (X : K.In h) (N : h.Ns mainGlobals mg) (hfl : mg ("law" : PySem.Str) = some (.ref f)) (c : He.SaysD hfa hfn K) (e : hex K = true) :
    ∃ fd : FuncData, (∀ (s : Shared) (v : Value), BindsTo s fd ⟨[v], []⟩ [("script", v)]) ∧ ∀ base : Heap, K.In base → base.Ns mainGlobals mg → FnOk P w K mg base (cxA P) 9 f fd ["script"] (spB K 1 den_law) := by
  have G := gl_of X N c e
  obtain ⟨fd_is_integer, F_is_integer⟩ := c.def_ 0 (d := hd_is_integer) rfl
  obtain ⟨fd_is_within, F_is_within⟩ := c.def_ 1 (d := hd_is_within) rfl
  obtain ⟨fd_are_counts, F_are_counts⟩ := c.def_ 6 (d := hd_are_counts) rfl
  obtain ⟨fd_check, F_check⟩ := c.def_ 2 (d := hd_check) rfl
  obtain ⟨fd_check_counts, F_check_counts⟩ := c.def_ 7 (d := hd_check_counts) rfl
  obtain ⟨fd_falling, F_falling⟩ := c.def_ 8 (d := hd_falling) rfl
  obtain ⟨fd_h_by, F_h_by⟩ := c.def_ 9 (d := hd_h_by) rfl
  obtain ⟨fd_h_of, F_h_of⟩ := c.def_ 11 (d := hd_h_of) rfl
  obtain ⟨fd_takes_h, F_takes_h⟩ := c.def_ 26 (d := hd_takes_h) rfl
  obtain ⟨fd__law_draws, F__law_draws⟩ := c.def_ 27 (d := hd__law_draws) rfl
  obtain ⟨fd__law_take, F__law_take⟩ := c.def_ 28 (d := hd__law_take) rfl
  obtain ⟨fd__law_pick, F__law_pick⟩ := c.def_ 29 (d := hd__law_pick) rfl
  obtain ⟨fd__law_same, F__law_same⟩ := c.def_ 31 (d := hd__law_same) rfl
  obtain ⟨fd_g_by, F_g_by⟩ := c.def_ 10 (d := hd_g_by) rfl
  obtain ⟨fd_g_of, F_g_of⟩ := c.def_ 12 (d := hd_g_of) rfl
  obtain ⟨fd_w_of, F_w_of⟩ := c.def_ 13 (d := hd_w_of) rfl
  obtain ⟨fd_core_of, F_core_of⟩ := c.def_ 14 (d := hd_core_of) rfl
  obtain ⟨fd_tail_of, F_tail_of⟩ := c.def_ 15 (d := hd_tail_of) rfl
  obtain ⟨fd_lacking, F_lacking⟩ := c.def_ 16 (d := hd_lacking) rfl
  obtain ⟨fd_next_step, F_next_step⟩ := c.def_ 17 (d := hd_next_step) rfl
  obtain ⟨fd_least_counts, F_least_counts⟩ := c.def_ 18 (d := hd_least_counts) rfl
  obtain ⟨fd_is_count, F_is_count⟩ := c.def_ 5 (d := hd_is_count) rfl
  obtain ⟨fd_most_h, F_most_h⟩ := c.def_ 19 (d := hd_most_h) rfl
  obtain ⟨fd_h_with, F_h_with⟩ := c.def_ 20 (d := hd_h_with) rfl
  obtain ⟨fd_best_putting, F_best_putting⟩ := c.def_ 21 (d := hd_best_putting) rfl
  obtain ⟨fd_shared, F_shared⟩ := c.def_ 3 (d := hd_shared) rfl
  obtain ⟨fd_ratio, F_ratio⟩ := c.def_ 4 (d := hd_ratio) rfl
  obtain ⟨fd_mean_of, F_mean_of⟩ := c.def_ 22 (d := hd_mean_of) rfl
  obtain ⟨fd_middle_of, F_middle_of⟩ := c.def_ 23 (d := hd_middle_of) rfl
  obtain ⟨fd_at_least, F_at_least⟩ := c.def_ 24 (d := hd_at_least) rfl
  obtain ⟨fd_ranks, F_ranks⟩ := c.def_ 25 (d := hd_ranks) rfl
  obtain ⟨fd__law_kind, F__law_kind⟩ := c.def_ 32 (d := hd__law_kind) rfl
  obtain ⟨fd__law_told, F__law_told⟩ := c.def_ 33 (d := hd__law_told) rfl
  obtain ⟨fd__law_h, F__law_h⟩ := c.def_ 34 (d := hd__law_h) rfl
  obtain ⟨fd__law_g, F__law_g⟩ := c.def_ 35 (d := hd__law_g) rfl
  obtain ⟨fd__law_ratio, F__law_ratio⟩ := c.def_ 36 (d := hd__law_ratio) rfl
  obtain ⟨fd__law_ways, F__law_ways⟩ := c.def_ 37 (d := hd__law_ways) rfl
  obtain ⟨fd__law_is_putting_due, F__law_is_putting_due⟩ := c.def_ 38 (d := hd__law_is_putting_due) rfl
  obtain ⟨fd_law, F_law⟩ := c.def_ 39 (d := hd_law) rfl
  have g_is_integer : mg "is_integer" = some (.ref (He.fAd K ("is_integer", none))) := He.glo_ok X N (c.fact 0 (f := .glo "is_integer") rfl)
  have g_is_within : mg "is_within" = some (.ref (He.fAd K ("is_within", none))) := He.glo_ok X N (c.fact 1 (f := .glo "is_within") rfl)
  have g_are_counts : mg "are_counts" = some (.ref (He.fAd K ("are_counts", none))) := He.glo_ok X N (c.fact 6 (f := .glo "are_counts") rfl)
  have g_check : mg "check" = some (.ref (He.fAd K ("check", none))) := He.glo_ok X N (c.fact 2 (f := .glo "check") rfl)
  have g_check_counts : mg "check_counts" = some (.ref (He.fAd K ("check_counts", none))) := He.glo_ok X N (c.fact 7 (f := .glo "check_counts") rfl)
  have g_falling : mg "falling" = some (.ref (He.fAd K ("falling", none))) := He.glo_ok X N (c.fact 8 (f := .glo "falling") rfl)
  have g_h_by : mg "h_by" = some (.ref (He.fAd K ("h_by", none))) := He.glo_ok X N (c.fact 9 (f := .glo "h_by") rfl)
  have g_h_of : mg "h_of" = some (.ref (He.fAd K ("h_of", none))) := He.glo_ok X N (c.fact 11 (f := .glo "h_of") rfl)
  have g_takes_h : mg "takes_h" = some (.ref (He.fAd K ("takes_h", none))) := He.glo_ok X N (c.fact 26 (f := .glo "takes_h") rfl)
  have g__law_draws : mg "_law_draws" = some (.ref (He.fAd K ("_law_draws", none))) := He.glo_ok X N (c.fact 27 (f := .glo "_law_draws") rfl)
  have g__law_take : mg "_law_take" = some (.ref (He.fAd K ("_law_take", none))) := He.glo_ok X N (c.fact 28 (f := .glo "_law_take") rfl)
  have g__law_pick : mg "_law_pick" = some (.ref (He.fAd K ("_law_pick", none))) := He.glo_ok X N (c.fact 29 (f := .glo "_law_pick") rfl)
  have g__law_same : mg "_law_same" = some (.ref (He.fAd K ("_law_same", none))) := He.glo_ok X N (c.fact 31 (f := .glo "_law_same") rfl)
  have g_g_by : mg "g_by" = some (.ref (He.fAd K ("g_by", none))) := He.glo_ok X N (c.fact 10 (f := .glo "g_by") rfl)
  have g_g_of : mg "g_of" = some (.ref (He.fAd K ("g_of", none))) := He.glo_ok X N (c.fact 12 (f := .glo "g_of") rfl)
  have g_w_of : mg "w_of" = some (.ref (He.fAd K ("w_of", none))) := He.glo_ok X N (c.fact 13 (f := .glo "w_of") rfl)
  have g_core_of : mg "core_of" = some (.ref (He.fAd K ("core_of", none))) := He.glo_ok X N (c.fact 14 (f := .glo "core_of") rfl)
  have g_tail_of : mg "tail_of" = some (.ref (He.fAd K ("tail_of", none))) := He.glo_ok X N (c.fact 15 (f := .glo "tail_of") rfl)
  have g_lacking : mg "lacking" = some (.ref (He.fAd K ("lacking", none))) := He.glo_ok X N (c.fact 16 (f := .glo "lacking") rfl)
  have g_next_step : mg "next_step" = some (.ref (He.fAd K ("next_step", none))) := He.glo_ok X N (c.fact 17 (f := .glo "next_step") rfl)
  have g_least_counts : mg "least_counts" = some (.ref (He.fAd K ("least_counts", none))) := He.glo_ok X N (c.fact 18 (f := .glo "least_counts") rfl)
  have g_is_count : mg "is_count" = some (.ref (He.fAd K ("is_count", none))) := He.glo_ok X N (c.fact 5 (f := .glo "is_count") rfl)
  have g_most_h : mg "most_h" = some (.ref (He.fAd K ("most_h", none))) := He.glo_ok X N (c.fact 19 (f := .glo "most_h") rfl)
  have g_h_with : mg "h_with" = some (.ref (He.fAd K ("h_with", none))) := He.glo_ok X N (c.fact 20 (f := .glo "h_with") rfl)
  have g_best_putting : mg "best_putting" = some (.ref (He.fAd K ("best_putting", none))) := He.glo_ok X N (c.fact 21 (f := .glo "best_putting") rfl)
  have g_shared : mg "shared" = some (.ref (He.fAd K ("shared", none))) := He.glo_ok X N (c.fact 3 (f := .glo "shared") rfl)
  have g_ratio : mg "ratio" = some (.ref (He.fAd K ("ratio", none))) := He.glo_ok X N (c.fact 4 (f := .glo "ratio") rfl)
  have g_mean_of : mg "mean_of" = some (.ref (He.fAd K ("mean_of", none))) := He.glo_ok X N (c.fact 22 (f := .glo "mean_of") rfl)
  have g_middle_of : mg "middle_of" = some (.ref (He.fAd K ("middle_of", none))) := He.glo_ok X N (c.fact 23 (f := .glo "middle_of") rfl)
  have g_at_least : mg "at_least" = some (.ref (He.fAd K ("at_least", none))) := He.glo_ok X N (c.fact 24 (f := .glo "at_least") rfl)
  have g_ranks : mg "ranks" = some (.ref (He.fAd K ("ranks", none))) := He.glo_ok X N (c.fact 25 (f := .glo "ranks") rfl)
  have g__law_kind : mg "_law_kind" = some (.ref (He.fAd K ("_law_kind", none))) := He.glo_ok X N (c.fact 32 (f := .glo "_law_kind") rfl)
  have g__law_told : mg "_law_told" = some (.ref (He.fAd K ("_law_told", none))) := He.glo_ok X N (c.fact 33 (f := .glo "_law_told") rfl)
  have g__law_h : mg "_law_h" = some (.ref (He.fAd K ("_law_h", none))) := He.glo_ok X N (c.fact 34 (f := .glo "_law_h") rfl)
  have g__law_g : mg "_law_g" = some (.ref (He.fAd K ("_law_g", none))) := He.glo_ok X N (c.fact 35 (f := .glo "_law_g") rfl)
  have g__law_ratio : mg "_law_ratio" = some (.ref (He.fAd K ("_law_ratio", none))) := He.glo_ok X N (c.fact 36 (f := .glo "_law_ratio") rfl)
  have g__law_ways : mg "_law_ways" = some (.ref (He.fAd K ("_law_ways", none))) := He.glo_ok X N (c.fact 37 (f := .glo "_law_ways") rfl)
  have g__law_is_putting_due : mg "_law_is_putting_due" = some (.ref (He.fAd K ("_law_is_putting_due", none))) := He.glo_ok X N (c.fact 38 (f := .glo "_law_is_putting_due") rfl)
  have e := hfl.symm.trans (He.glo_ok X N (c.fact 39 (f := .glo "law") rfl))
  cases e
  have b := FunD.bindsA (ps := ["script"]) F_law fun _ _ _ _ _ _ us hl => match us, hl with | [_], _ => rfl
  refine ⟨fd_law, fun s v => b s [v] rfl, fun base _ _ => ?_⟩
  have h_is_integer := ok_is_integer (P := P) (w := w) (base := base) G  F_is_integer g_is_integer
  have h_is_within := ok_is_within (P := P) (w := w) (base := base) G h_is_integer F_is_within g_is_within
  have h_are_counts := ok_are_counts (P := P) (w := w) (base := base) G h_is_within F_are_counts g_are_counts
  have h_check := ok_check (P := P) (w := w) (base := base) G  F_check g_check
  have h_check_counts := ok_check_counts (P := P) (w := w) (base := base) G h_check h_are_counts F_check_counts g_check_counts
  have h_falling := ok_falling (P := P) (w := w) (base := base) G  F_falling g_falling
  have h_h_by := ok_h_by (P := P) (w := w) (base := base) G h_falling F_h_by g_h_by
  have h_h_of := ok_h_of (P := P) (w := w) (base := base) G h_check_counts h_h_by F_h_of g_h_of
  have h_takes_h := ok_takes_h (P := P) (w := w) (base := base) G h_is_integer h_is_within h_check F_takes_h g_takes_h
  have h__law_draws := ok__law_draws (P := P) (w := w) (base := base) G  F__law_draws g__law_draws
  have h__law_take := ok__law_take (P := P) (w := w) (base := base) G  F__law_take g__law_take
  have h__law_pick := ok__law_pick (P := P) (w := w) (base := base) G h__law_take F__law_pick g__law_pick
  have h__law_same := ok__law_same (P := P) (w := w) (base := base) G  F__law_same g__law_same
  have h_g_by := ok_g_by (P := P) (w := w) (base := base) G h_falling F_g_by g_g_by
  have h_g_of := ok_g_of (P := P) (w := w) (base := base) G h_check_counts h_g_by F_g_of g_g_of
  have h_w_of := ok_w_of (P := P) (w := w) (base := base) G h_check_counts h_falling F_w_of g_w_of
  have h_core_of := ok_core_of (P := P) (w := w) (base := base) G h_check_counts h_falling h_h_by F_core_of g_core_of
  have h_tail_of := ok_tail_of (P := P) (w := w) (base := base) G h_check_counts h_h_by F_tail_of g_tail_of
  have h_lacking := ok_lacking (P := P) (w := w) (base := base) G h_falling F_lacking g_lacking
  have h_next_step := ok_next_step (P := P) (w := w) (base := base) G h_check h_check_counts h_h_by h_lacking F_next_step g_next_step
  have h_least_counts := ok_least_counts (P := P) (w := w) (base := base) G h_is_within h_check F_least_counts g_least_counts
  have h_is_count := ok_is_count (P := P) (w := w) (base := base) G h_is_integer F_is_count g_is_count
  have h_most_h := ok_most_h (P := P) (w := w) (base := base) G h_h_by h_lacking F_most_h g_most_h
  have h_h_with := ok_h_with (P := P) (w := w) (base := base) G h_check h_is_count h_check_counts h_most_h F_h_with g_h_with
  have h_best_putting := ok_best_putting (P := P) (w := w) (base := base) G h_check h_is_count h_check_counts h_most_h F_best_putting g_best_putting
  have h_shared := ok_shared (P := P) (w := w) (base := base) G  F_shared g_shared
  have h_ratio := ok_ratio (P := P) (w := w) (base := base) G h_shared F_ratio g_ratio
  have h_mean_of := ok_mean_of (P := P) (w := w) (base := base) G h_ratio h_check_counts F_mean_of g_mean_of
  have h_middle_of := ok_middle_of (P := P) (w := w) (base := base) G h_check_counts F_middle_of g_middle_of
  have h_at_least := ok_at_least (P := P) (w := w) (base := base) G h_check h_is_count h_check_counts F_at_least g_at_least
  have h_ranks := ok_ranks (P := P) (w := w) (base := base) G h_check h_are_counts h_h_by h_g_by F_ranks g_ranks
  have h__law_kind := ok__law_kind (P := P) (w := w) (base := base) G  F__law_kind g__law_kind
  have h__law_told := ok__law_told (P := P) (w := w) (base := base) G h_h_of h_g_of h_w_of h_core_of h_tail_of h_next_step h_least_counts h_h_with h_best_putting h_mean_of h_middle_of h_at_least h_ranks h__law_kind F__law_told g__law_told
  have h__law_h := ok__law_h (P := P) (w := w) (base := base) G  F__law_h g__law_h
  have h__law_g := ok__law_g (P := P) (w := w) (base := base) G  F__law_g g__law_g
  have h__law_ratio := ok__law_ratio (P := P) (w := w) (base := base) G  F__law_ratio g__law_ratio
  have h__law_ways := ok__law_ways (P := P) (w := w) (base := base) G  F__law_ways g__law_ways
  have h__law_is_putting_due := ok__law_is_putting_due (P := P) (w := w) (base := base) G h__law_told h__law_h h__law_ways F__law_is_putting_due g__law_is_putting_due
  exact fnOk_cx (fn_ok F_law sc_law (bo_law G h_are_counts h_h_of h_takes_h h__law_draws h__law_take h__law_pick h__law_same h__law_told h__law_h h__law_g h__law_ratio h__law_is_putting_due))
end
end K42
open PySem PySem.W PySem.Calls PyProof.Rows
theorem PySem.Challenge.cw_citedback_k42_whole_measures_holds : PySem.Challenge.rw_citedback_k42_whole_measures.Holds := by
  w_on; o_law
  refine HandSHeadRun.head_any (r := OpenLaw.row PySem.Challenge.rw_citedback_k42_whole_measures) (q := view (OpenLaw.row PySem.Challenge.rw_citedback_k42_whole_measures).prog [53]) (H := K42.hhk) (ob := K42.hob) (M := 4000) (loose := K42.hnms) (d := HandSHeadRun.topDef (OpenLaw.row PySem.Challenge.rw_citedback_k42_whole_measures).prog 53) (kwd := []) K42.hob_eq
    (by kernel_rfl) (fun s => by kernel_rfl) K42.hrun (by kernel_rfl) (by kernel_rfl) (by kernel_rfl) (by rfl) (by first | assumption | decide +kernel) (by decide +kernel) ⟨rfl, rfl, rfl, rfl, rfl, by decide +kernel⟩ ?hw ?hc
  case hw => w_witness2
  case hc =>
    refine L2.walk_ofE (l := PySem.Challenge.rw_citedback_k42_whole_measures) (n := 63) (k := 9) (x := "script") (CX := K42.cxA (PySem.Challenge.rw_citedback_k42_whole_measures).prog) rfl (by decide) (by kernel_rfl) ⟨rfl, by decide, by decide⟩ ?F (fun H s e s' c => by
      obtain ⟨_, a, B, H', cls, d, _, _, _, _, _, _, _, z⟩ := c
      exact z)
    intro w mg fa h Y G hmg0
    obtain ⟨K, KX, c⟩ := Y
    have hmg : mg ("law" : PySem.Str) = some (.ref fa) := by
      have e : (HandSHeadRun.topDef (OpenLaw.row PySem.Challenge.rw_citedback_k42_whole_measures).prog 53).name = ("law" : PySem.Str) := by kernel_rfl
      rw [← e]
      exact hmg0
    have cD : He.SaysD K42.hfa K42.hfn K := congrArg (fun z : He.AlT => z.1) c.t
    have eX := c.more
    obtain ⟨fd, hb, hF⟩ := K42.join_facts (P := (PySem.Challenge.rw_citedback_k42_whole_measures).prog) (w := w) KX G hmg cD eX
    exact ⟨K, fd, CB.spB K 1 K42.den_law, KX, hb, fun H a ns hl hO hS => K42.join_law (He.ba eX).1 hl hO hS, hF⟩
